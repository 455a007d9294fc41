import PyProof.Rows.All
import Wide.All
import OpenK.AllK
import Wide.FinOn
import KE.KStateDown
import KE.GoesEnum
import KE.GoesMore
import KE.GoesZip
import HandS.ForMost
import HandS.ForExc
import HandS.Evl
import HandS.Walk
import HandS.Zip
import HandS.Strs
import HandS.More
import HandS.Star
import HandS.TupAny
import HandS.DictComp
import HandS.IsInst
import HandS.SlotsVar
import HandS.Conv
import HandS.Defaults
import HandS.ExcIs
import HandS.Flow
import HandS.Text
import HandS.ExcOwn
import HandS.WordsExc
import HandS.Lambda
import KE.KDflt
import Lean
import HandS.Head0
import HandS.Head1
import HandS.Head2
import HandS.HeadHook4
import HandS.HeadWalk
import HandS.NestedK
import PySem.Challenge.RW_lostplates_k06_whole_logs_leave_what_is
set_option maxHeartbeats 1000000
/-! Lostplates: the mathematics, with no program in sight. Boxes and places of names are natural numbers, texts are lists of codes. -/
namespace Lp
/-! ### patterns -/
/-- a pattern can be that of a name -/
def mat (p x : List Nat) : Bool := p.length == x.length && (p.zip x).all fun q => q.1 == 46 || q.1 == q.2
/-- the places where a pattern and a name part -/
def wrongs (p x : List Nat) : List Nat := (List.range (min x.length p.length)).filter fun k => !(p.getD k 0 == 46 || p.getD k 0 == x.getD k 0)
theorem wrongs_nil (p x : List Nat) (h : p.length = x.length) : (wrongs p x = []) ↔ (p.zip x).all (fun q => q.1 == 46 || q.1 == q.2) = true := by
  unfold wrongs
  rw [List.filter_eq_nil_iff, List.all_eq_true]
  constructor
  · intro hk q hq
    obtain ⟨i, hi, e⟩ := List.mem_iff_getElem.mp hq
    have hi2 : i < p.length ∧ i < x.length := by
      rw [List.length_zip] at hi
      omega
    have k1 := hk i (List.mem_range.mpr (by omega))
    rw [List.getElem_zip] at e
    rw [← e]
    rw [List.getD_eq_getElem?_getD, List.getElem?_eq_getElem hi2.1, List.getD_eq_getElem?_getD, List.getElem?_eq_getElem hi2.2] at k1
    have k2 : ¬ (!(p[i] == 46 || p[i] == x[i])) = true := k1
    cases hz : (p[i] == 46 || p[i] == x[i]) with
    | true => rfl
    | false =>
      rw [hz] at k2
      exact absurd rfl k2
  · intro hq k hk
    have hk2 := List.mem_range.mp hk
    have h1 : k < p.length := by omega
    have h2 : k < x.length := by omega
    have hm : (p[k], x[k]) ∈ p.zip x := by
      refine List.mem_iff_getElem.mpr ⟨k, by rw [List.length_zip]; omega, ?_⟩
      rw [List.getElem_zip]
    have e := hq _ hm
    rw [List.getD_eq_getElem?_getD, List.getElem?_eq_getElem h1, List.getD_eq_getElem?_getD, List.getElem?_eq_getElem h2]
    show ¬ (!(p[k] == 46 || p[k] == x[k])) = true
    rw [show (p[k] == 46 || p[k] == x[k]) = true from e]
    decide
theorem goes_eq (p x : List Nat) : ((p.length == x.length) && (wrongs p x).isEmpty) = mat p x := by
  unfold mat
  by_cases h : p.length = x.length
  · have e : (p.length == x.length) = true := beq_iff_eq.mpr h
    rw [e, Bool.true_and, Bool.true_and]
    have w := wrongs_nil p x h
    cases hz : (p.zip x).all fun q => q.1 == 46 || q.1 == q.2 with
    | true => rw [w.mpr hz, List.isEmpty_nil]
    | false =>
      cases hw : (wrongs p x).isEmpty with
      | false => rfl
      | true =>
        have := w.mp (List.isEmpty_iff.mp hw)
        rw [hz] at this
        cases this
  · have e : (p.length == x.length) = false := beq_eq_false_iff_ne.mpr h
    rw [e, Bool.false_and, Bool.false_and]

/-! ### orders, row by row -/
/-- the boxes that one name more can have -/
def more (n : Nat) (ok : Nat → Bool) (r : List Nat) : List Nat := (List.range n).filter fun b => !r.contains b && ok b
def ext (n : Nat) (ok : Nat → Bool) (r : List Nat) : List (List Nat) := (more n ok r).map fun b => r ++ [b]
def grow (n : Nat) (ok : Nat → Bool) (rows : List (List Nat)) : List (List Nat) := rows.flatMap (ext n ok)
def rows0 {α : Type} (n : Nat) (ok : Nat → α → Bool) (l : List α) : List (List Nat) := l.foldl (fun rs x => grow n (fun b => ok b x) rs) [[]]
theorem rows0_snoc {α : Type} (n : Nat) (ok : Nat → α → Bool) (l : List α) (x : α) : rows0 n ok (l ++ [x]) = grow n (fun b => ok b x) (rows0 n ok l) := by
  unfold rows0
  rw [List.foldl_append]
  rfl
theorem more_len (n : Nat) (ok : Nat → Bool) (r : List Nat) : (more n ok r).length ≤ n := by
  unfold more
  have := List.length_filter_le (fun b => !r.contains b && ok b) (List.range n)
  rw [List.length_range] at this
  exact this
theorem ext_len (n : Nat) (ok : Nat → Bool) (r : List Nat) : (ext n ok r).length ≤ n := by
  unfold ext
  rw [List.length_map]
  exact more_len n ok r
theorem grow_cons (n : Nat) (ok : Nat → Bool) (r : List Nat) (rs : List (List Nat)) : grow n ok (r :: rs) = ext n ok r ++ grow n ok rs := by
  unfold grow
  rw [List.flatMap_cons]
theorem grow_app (n : Nat) (ok : Nat → Bool) (a b : List (List Nat)) : grow n ok (a ++ b) = grow n ok a ++ grow n ok b := by
  unfold grow
  rw [List.flatMap_append]
theorem grow_len (n : Nat) (ok : Nat → Bool) : ∀ rows : List (List Nat), (grow n ok rows).length ≤ rows.length * n
  | [] => by simp [grow]
  | r :: rs => by
    rw [grow_cons, List.length_append, List.length_cons, Nat.succ_mul]
    have h1 := ext_len n ok r
    have h2 := grow_len n ok rs
    omega
theorem snoc_ind {α : Type} {P : List α → Prop} (h0 : P []) (hs : ∀ l x, P l → P (l ++ [x])) : ∀ l, P l := by
  have key : ∀ (n : Nat) (l : List α), l.length = n → P l := by
    intro n
    induction n with
    | zero =>
      intro l hl
      have e : l = [] := List.length_eq_zero_iff.mp hl
      rw [e]
      exact h0
    | succ n ih =>
      intro l hl
      have hne : l ≠ [] := fun e => by rw [e] at hl; cases hl
      have e := List.dropLast_concat_getLast hne
      rw [← e]
      exact hs _ _ (ih _ (by rw [List.length_dropLast, hl]; rfl))
  exact fun l => key l.length l rfl
theorem rows0_len {α : Type} (n : Nat) (ok : Nat → α → Bool) (l : List α) : (rows0 n ok l).length ≤ n ^ l.length := by
  refine snoc_ind (P := fun l => (rows0 n ok l).length ≤ n ^ l.length) (by simp [rows0]) (fun l x ih => ?_) l
  rw [rows0_snoc, List.length_append, List.length_singleton, Nat.pow_succ]
  exact Nat.le_trans (grow_len _ _ _) (Nat.mul_le_mul_right n ih)
/-- what an order is that was built so -/
structure Row {α : Type} (n : Nat) (ok : Nat → α → Bool) (l : List α) (o : List Nat) : Prop where
  len : o.length = l.length
  nd : o.Nodup
  lt : ∀ b ∈ o, b < n
  ok : ∀ (i b : Nat) (x : α), o[i]? = some b → l[i]? = some x → ok b x = true
theorem rows0_row {α : Type} (n : Nat) (ok : Nat → α → Bool) (l : List α) : ∀ o ∈ rows0 n ok l, Row n ok l o := by
  refine snoc_ind (P := fun l => ∀ o ∈ rows0 n ok l, Row n ok l o) (fun o ho => ?_) (fun l x ih o ho => ?_) l
  · have e : o = [] := by simpa [rows0] using ho
    rw [e]
    exact ⟨rfl, List.nodup_nil, (fun b hb => nomatch hb), fun i b x h => by simp at h⟩
  · rw [rows0_snoc] at ho
    unfold grow at ho
    obtain ⟨r, hr, hor⟩ := List.mem_flatMap.mp ho
    unfold ext more at hor
    obtain ⟨b, hb, e⟩ := List.mem_map.mp hor
    obtain ⟨hb1, hb2⟩ := List.mem_filter.mp hb
    rw [Bool.and_eq_true] at hb2
    obtain ⟨hb3, hb4⟩ := hb2
    have hnb : b ∉ r := fun hm => by
      have : r.contains b = true := List.contains_iff_mem.mpr hm
      rw [this] at hb3
      cases hb3
    have R := ih r hr
    rw [← e]
    refine ⟨by rw [List.length_append, List.length_append, R.len]; rfl, ?_, fun c hc => ?_, fun i c y h1 h2 => ?_⟩
    · rw [List.nodup_append]
      refine ⟨R.nd, by simp, fun a ha c hc => ?_⟩
      have ec : c = b := by simpa using hc
      rw [ec]
      intro z
      rw [z] at ha
      exact hnb ha
    · rcases List.mem_append.mp hc with hc | hc
      · exact R.lt c hc
      · have ec : c = b := by simpa using hc
        rw [ec]
        exact List.mem_range.mp hb1
    · by_cases hi : i < r.length
      · rw [List.getElem?_append_left hi] at h1
        rw [List.getElem?_append_left (by rw [← R.len]; exact hi)] at h2
        exact R.ok i c y h1 h2
      · rw [List.getElem?_append_right (by omega)] at h1
        rw [List.getElem?_append_right (by rw [← R.len]; omega)] at h2
        have hz : i - r.length = 0 := by
          by_cases hz : i - r.length = 0
          · exact hz
          · exfalso
            rw [List.getElem?_eq_none (by simp; omega)] at h1
            cases h1
        have hz2 : i - l.length = 0 := by rw [← R.len]; exact hz
        rw [hz] at h1
        rw [hz2] at h2
        have e1 : b = c := Option.some.inj h1
        have e2 : x = y := Option.some.inj h2
        rw [← e1, ← e2]
        exact hb4

/-! ### which orders fit -/
/-- law: no box with a plate is left out -/
def full (n : Nat) (need : Nat → Bool) (o : List Nat) : Bool := (((List.range n).filter need).filter fun b => !o.contains b).isEmpty
/-- program: each box with a plate is that of a name that matches -/
def fit {α : Type} (n : Nat) (need : Nat → Bool) (m : Nat → α → Bool) (l : List α) (o : List Nat) : Bool :=
  (List.range n).all fun b => !need b || (match o.findIdx? (· == b) with
    | some k => (match l[k]? with
      | some x => m b x
      | none => false)
    | none => false)
theorem find_mem {o : List Nat} {b : Nat} : (o.findIdx? (· == b)).isSome = o.contains b := by
  rw [List.findIdx?_isSome, List.contains_eq_any_beq]
  congr 1
  funext x
  exact Bool.eq_iff_iff.mpr ⟨fun h => by rw [beq_iff_eq] at h ⊢; exact h.symm, fun h => by rw [beq_iff_eq] at h ⊢; exact h.symm⟩
theorem find_at {o : List Nat} {b k : Nat} (h : o.findIdx? (· == b) = some k) : o[k]? = some b := by
  rw [List.findIdx?_eq_some_iff_getElem] at h
  obtain ⟨h1, h2, _⟩ := h
  rw [List.getElem?_eq_getElem h1]
  rw [beq_iff_eq] at h2
  rw [h2]
theorem fit_full {α : Type} {n : Nat} {need : Nat → Bool} {m : Nat → α → Bool} {l : List α} {o : List Nat} (R : Row n (fun b x => !need b || m b x) l o) : fit n need m l o = full n need o := by
  unfold fit full
  rw [Bool.eq_iff_iff, List.all_eq_true, List.isEmpty_iff, List.filter_eq_nil_iff]
  constructor
  · intro h b hb
    obtain ⟨hb1, hb2⟩ := List.mem_filter.mp hb
    have q := h b hb1
    rw [hb2] at q
    have q2 : (match o.findIdx? (· == b) with
      | some k => (match l[k]? with
        | some x => m b x
        | none => false)
      | none => false) = true := q
    intro z
    have z2 : o.contains b = false := by
      cases e : o.contains b with
      | false => rfl
      | true => rw [e] at z; cases z
    rw [← find_mem] at z2
    cases e : o.findIdx? (· == b) with
    | none => rw [e] at q2; cases q2
    | some k => rw [e] at z2; cases z2
  · intro h b hb
    cases hn : need b with
    | false => rfl
    | true =>
      have q := h b (List.mem_filter.mpr ⟨hb, hn⟩)
      have q2 : o.contains b = true := by
        cases e : o.contains b with
        | true => rfl
        | false => rw [e] at q; exact absurd rfl q
      rw [← find_mem] at q2
      cases e : o.findIdx? (· == b) with
      | none => rw [e] at q2; cases q2
      | some k =>
        have hk := find_at e
        have hkl : k < l.length := by
          rw [← R.len]
          exact (List.getElem?_eq_some_iff.mp hk).1
        have hx : l[k]? = some l[k] := List.getElem?_eq_getElem hkl
        have r := R.ok k b l[k] hk hx
        rw [hn] at r
        show (match l[k]? with
          | some x => m b x
          | none => false) = true
        rw [hx]
        exact r
/-- all orders that fit -/
def ords {α : Type} (n : Nat) (need : Nat → Bool) (m : Nat → α → Bool) (l : List α) : List (List Nat) := (rows0 n (fun b x => !need b || m b x) l).filter (full n need)
theorem ords_fit {α : Type} (n : Nat) (need : Nat → Bool) (m : Nat → α → Bool) (l : List α) : (rows0 n (fun b x => !need b || m b x) l).filter (fit n need m l) = ords n need m l := by
  unfold ords
  exact List.filter_congr fun o ho => fit_full (rows0_row _ _ _ o ho)
theorem ords_row {α : Type} {n : Nat} {need : Nat → Bool} {m : Nat → α → Bool} {l : List α} {o : List Nat} (h : o ∈ ords n need m l) : Row n (fun b x => !need b || m b x) l o := rows0_row _ _ _ o (List.mem_filter.mp h).1
theorem ords_len {α : Type} (n : Nat) (need : Nat → Bool) (m : Nat → α → Bool) (l : List α) : (ords n need m l).length ≤ n ^ l.length := Nat.le_trans (List.length_filter_le _ _) (rows0_len _ _ _)

/-! ### the way of a letter -/
inductive Man where
  | back
  | keep
  | guess (g : List (Option Nat))
inductive Wd where
  | kept
  | lies
  | back
  | round
  deriving DecidableEq
/-- at a box: the way ends, or the letter is handed on -/
def step (ways : List Man) (o : List Nat) (j here : Nat) : Sum Wd Nat := match o.findIdx? (· == here) with
  | none => .inl .lies
  | some k => if k = j then .inl .kept else match ways[k]? with
    | some .back => .inl .back
    | some (.guess g) => (match g[j]? with
      | some (some b) => if b = here then .inl .back else .inr b
      | _ => .inl .back)
    | _ => .inl .lies
def wayF (ways : List Man) (o : List Nat) (j : Nat) : Nat → List Nat → List Nat × Wd
  | 0, met => (met, .round)
  | f + 1, met => match step ways o j (met.getLastD 0) with
    | .inl w => (met, w)
    | .inr b => if met.contains b then (met, .round) else wayF ways o j f (met ++ [b])
/-- all guesses are boxes -/
def Guess (n : Nat) (ways : List Man) : Prop := ∀ (k : Nat) (g : List (Option Nat)), ways[k]? = some (.guess g) → ∀ (j b : Nat), g[j]? = some (some b) → b < n
theorem step_lt {n : Nat} {ways : List Man} {o : List Nat} {j here b : Nat} (G : Guess n ways) (h : step ways o j here = .inr b) : b < n ∧ b ≠ here := by
  unfold step at h
  split at h
  · cases h
  · split at h
    · cases h
    · split at h
      · cases h
      · split at h
        · split at h
          · cases h
          · rename_i k _ _ _ g hg _ b' hb hne
            cases h
            exact ⟨G _ _ hg _ _ hb, hne⟩
        · cases h
      · cases h
/-- boxes met: different ones, of the house -/
structure Met (n : Nat) (met : List Nat) : Prop where
  ne : met ≠ []
  nd : met.Nodup
  lt : ∀ b ∈ met, b < n
theorem nodup_sub : ∀ {l m : List Nat}, l.Nodup → (∀ b ∈ l, b ∈ m) → l.length ≤ m.length
  | [], m, _, _ => Nat.zero_le _
  | a :: l, m, hd, hs => by
    obtain ⟨h1, h2⟩ := List.nodup_cons.mp hd
    have ha : a ∈ m := hs a List.mem_cons_self
    have ih := nodup_sub (l := l) (m := m.erase a) h2 fun b hb => (List.mem_erase_of_ne fun e => h1 (by rw [← e]; exact hb)).mpr (hs b (List.mem_cons_of_mem _ hb))
    have e := List.length_erase_of_mem ha
    have hp := List.length_pos_of_mem ha
    rw [List.length_cons]
    omega
theorem nodup_le {n : Nat} {l : List Nat} (hd : l.Nodup) (hl : ∀ b ∈ l, b < n) : l.length ≤ n := by
  have h := nodup_sub (m := List.range n) hd fun b hb => List.mem_range.mpr (hl b hb)
  rw [List.length_range] at h
  exact h
theorem Met.le {n : Nat} {met : List Nat} (M : Met n met) : met.length ≤ n := nodup_le M.nd M.lt
theorem Met.snoc {n : Nat} {met : List Nat} {b : Nat} (M : Met n met) (hb : b < n) (hc : met.contains b = false) : Met n (met ++ [b]) := by
  refine ⟨by simp, ?_, fun c hc' => ?_⟩
  · rw [List.nodup_append]
    refine ⟨M.nd, by simp, fun a ha c hc' => ?_⟩
    have ec : c = b := by simpa using hc'
    rw [ec]
    intro z
    rw [z] at ha
    have := List.contains_iff_mem.mpr ha
    rw [hc] at this
    cases this
  · rcases List.mem_append.mp hc' with h | h
    · exact M.lt c h
    · have ec : c = b := by simpa using h
      rw [ec]
      exact hb
theorem wayF_met {n : Nat} {ways : List Man} {o : List Nat} {j : Nat} (G : Guess n ways) : ∀ (f : Nat) (met : List Nat), Met n met → Met n (wayF ways o j f met).1
  | 0, met, M => M
  | f + 1, met, M => by
    unfold wayF
    split
    · exact M
    · rename_i b hb
      cases hc : met.contains b with
      | true => exact M
      | false =>
        rw [if_neg (by decide)]
        exact wayF_met G f _ (M.snoc (step_lt G hb).1 hc)
def way (ways : List Man) (o : List Nat) (j b : Nat) : List Nat × Wd := wayF ways o j 9 [b]
def ans (ways : List Man) (o : List Nat) (j b : Nat) : Option Nat := if (way ways o j b).2 = .back then some ((way ways o j b).1.length - 1) else none
theorem ans_le {n : Nat} {ways : List Man} {o : List Nat} {j b k : Nat} (G : Guess n ways) (hb : b < n) (h : ans ways o j b = some k) : k ≤ n := by
  unfold ans at h
  split at h
  · have M : Met n (way ways o j b).1 := wayF_met G 9 [b] ⟨by simp, by simp, fun c hc => by
      have ec : c = b := by simpa using hc
      rw [ec]
      exact hb⟩
    have := M.le
    have e := Option.some.inj h
    omega
  · cases h

/-! ### logs -/
/-- a letter: the name's place, the box, the answer -/
structure Ent where
  j : Nat
  b : Nat
  seen : Option Nat
def agrees (ways : List Man) (o : List Nat) (e : Ent) : Bool := decide (ans ways o e.j e.b = e.seen)
def left (ways : List Man) (rows : List (List Nat)) (log : List Ent) : List (List Nat) := rows.filter fun o => log.all (agrees ways o)
theorem left_nil (ways : List Man) (rows : List (List Nat)) : left ways rows [] = rows := by
  unfold left
  rw [List.filter_eq_self]
  intro o _
  rfl
theorem left_len (ways : List Man) (rows : List (List Nat)) (log : List Ent) : (left ways rows log).length ≤ rows.length := List.length_filter_le _ _
theorem left_mem {ways : List Man} {rows : List (List Nat)} {log : List Ent} {o : List Nat} (h : o ∈ left ways rows log) : o ∈ rows := (List.mem_filter.mp h).1
/-- the letters so far, then one more: the rows that the letters so far left are enough -/
theorem left_left (ways : List Man) (rows : List (List Nat)) (log : List Ent) (i k : Nat) (h : i ≤ k) : left ways (left ways rows (log.take i)) (log.take k) = left ways rows (log.take k) := by
  unfold left
  rw [List.filter_filter]
  refine List.filter_congr fun o _ => ?_
  cases hk : (log.take k).all (agrees ways o) with
  | false => rfl
  | true =>
    rw [Bool.true_and]
    rw [List.all_eq_true] at hk ⊢
    intro e he
    refine hk e ?_
    have : log.take i = (log.take k).take i := by rw [List.take_take, Nat.min_eq_left h]
    rw [this] at he
    exact List.mem_of_mem_take he
/-- the least number of letters that are not possible together -/
def firstWrong (ways : List Man) (rows : List (List Nat)) (log : List Ent) : Option Nat := (List.range (log.length + 1)).find? fun k => (left ways rows (log.take k)).isEmpty
end Lp

set_option Elab.async false
set_option linter.all false
set_option maxRecDepth 100000
set_option maxHeartbeats 4000000
/-! Lostplates: rules that the hand layer lacks: enumerate of a tuple, zip of two texts, tuple.index of ints, the size of a set of ints, list.count of truths. -/
namespace Lp
open PySem PySem.Spec PyProof.Rows L2

/-! ### walks that give new pairs -/
/-- n turns; turn i gives a new tuple of x and y where Y i x y -/
def Itp (n : Nat) (Y : Nat → V → V → Prop) : It :=
  ⟨fun i _ => i < n, fun i H v H' => ∃ T x y, v = .ref T ∧ H T = none ∧ H' = upd H T (.tup [x, y]) ∧ Y i x y, fun i _ => i = n⟩
theorem walk_pairs {n : Nat} {Y : Nat → V → V → Prop} : Walk (Itp n Y) n (fun _ => True) (fun i H v H' => ∃ T x y, v = .ref T ∧ H T = none ∧ H' = upd H T (.tup [x, y]) ∧ Y i x y) :=
  ⟨fun _ _ hi _ => hi, fun _ _ => rfl, fun _ _ _ _ _ _ y => y⟩
/-- a walk over tuples of the library's, as the layer has it -/
theorem turn_pairs {P : Program} {w : World} {K : PySem.W.Frag} {elts : List Expr} {kk : Nat} {tpos : Pos} {I : Addr} {fp wr : List Addr} {n : Nat} {Pt : Nat → Array Value → Prop} {St : Nat → Heap → Prop} {Mid : Nat → Addr → Heap → Prop} {Y : Nat → V → V → Prop}
    (W : ∀ A : Around, A.handled = none → WalksT P w A I fp wr n Pt St Mid) (hI : I ∈ fp) (hself : ∀ A : Around, ∀ i (s : Shared) (Q : Value → Shared → Prop) (E : Value → Shared → Prop), St i s.heap → Q (.ref I) s → wpAny (model P w) A (pyIter (.ref I)) Q E s)
    (hobj : ∀ i h, St i h → ∀ b ∈ fp, ∃ o, h.get? b = some o ∧ ∀ v, o.data ≠ .cell v) (hY : ∀ i vals, Pt i vals → ∃ x y, Y i x y ∧ Vals [x, y] vals.toList)
    (hframe : ∀ i h h', St i h → (∀ b ∈ fp, ∀ o, h.get? b = some o → h'.get? b = some o) → St i h') :
    Turn P w K (.Tuple elts kk tpos) (Itp n Y) fp I St where
  mem := hI
  obj := hobj
  keep := hframe
  item := by
    intro X hP hw hK hc i pins s σ H E J hf st hg
    subst hP hw hK
    have Wi := W X.A (J.ok.hd hc)
    refine Wi.item i s _ _ hg st fun T vals h' tk hPt hT hTup hMid hk => ⟨_, rfl, ?_⟩
    refine Wi.go elts kk tpos i T { s with heap := h', toks := tk } _ _ hMid fun h2 st2 hk2 => ?_
    obtain ⟨x, y, hy, rv⟩ := hY i vals hPt
    have kb : ∀ b o, b ∉ fp → s.heap.get? b = some o → h2.get? b = some o := fun b o hb e => hk2 b o (fun z => hb (Wi.sub b z)) (hk b o (fun z => hb (Wi.sub b z)) e)
    have hT2 : h2.IsTuple T vals := hTup.at fun o e => hk2 T o (Wi.apart i T h' hMid) e
    have new : ObjOk X.prog X.w (upd H T (.tup [x, y])) h2 T (.tup [x, y]) :=
      ⟨by show 2 ≤ sizeLine; decide, vals.toList, rv, by rw [Array.toArray_toList]; exact hT2⟩
    have J1 := J.turnedNew (t' := tk) (ch := fp) kb hf hT new
    refine ⟨.ref T, _, J1, rfl, ⟨T, x, y, rfl, J.hok.fresh hT, rfl, hy⟩, st2, fun b hb => ?_⟩
    have hlt : b < s.heap.objs.size := by
      obtain ⟨o, e, _⟩ := hobj i _ st b hb
      exact Heap.lt_size e
    rw [upd_ne (Nat.ne_of_lt (Nat.lt_of_lt_of_le hlt hT))]
    exact (hf b hb).1
  done := by
    intro X hP hw hK hc i pins s σ H E J hf st hg
    subst hP hw hK
    have Wi := W X.A (J.ok.hd hc)
    have hi : i = n := hg
    subst hi
    exact Wi.done s _ _ st fun h' tk hk => ⟨rfl, J.turnedL (t' := tk) (ch := fp) (fun b o hb e => hk b o (fun z => hb (Wi.sub b z)) e) hf⟩
  self := hself

/-! ### zip of two texts -/
/-- the i-th signs of two texts -/
def YZip (p x : Str) : Nat → V → V → Prop := fun i u v => ∃ a b, p.cps[i]? = some a ∧ x.cps[i]? = some b ∧ u = .str ⟨#[a]⟩ ∧ v = .str ⟨#[b]⟩
def iZipS (ta : TA) : TI := fun σ H R => ta σ H fun vs H1 => ∃ p x : Str, vs = [.str p, .str x] ∧ R (Itp (min p.cps.size x.cps.size) (YZip p x)) H1
theorem pi_zipS {X : Cx} {e e2 : Expr} {ta : TA} {p pos tpos : Pos} {elts : List Expr} {kk : Nat} (hg : Gl X "zip") (hm : X.mg "zip" = none) (ha : PA X [e, e2] ta)
    (hs : starEach [e, e2] X.env = (false, eval e X.env) :: starEach [e2] X.env := by rfl) (hpl : (backTo pos (starEach [e2] X.env)).any (·.1) = false := by rfl) :
    PI X (.Tuple elts kk tpos) (.Call (.Name "zip" p) [e, e2] [] pos) (iZipS ta) := by
  refine ⟨fun pins s σ H R I h => ?_⟩
  refine Call_ (ld_blt I hg hm PyProof.Rows.boot_zip (PyProof.Rows.callWith_type1 (thn (ha.run pos pins s σ H _ I h) fun us s1 ⟨vs, H1, I1, r1, q1⟩ => ?_) hs hpl))
  obtain ⟨pl, xl, ex, q⟩ := q1
  subst ex
  obtain ⟨u1, u2, eu, r, r'⟩ := vals2 r1
  subst eu
  obtain ⟨t, rfl⟩ := r
  obtain ⟨t', rfl⟩ := r'
  refine zip_begins2 (begins_text pl t) (begins_text xl t') trivial trivial fun h' hz hTI hTO h1 h2 hsz hk => ?_
  have I2 : Inv X pins σ H1 { s1 with heap := h' } := I1.kept (t' := s1.toks) hk
  have S := zip_sep2 (N := s1.heap.objs.size) (fp1 := []) (fp2 := []) (fun b hb => nomatch hb) (fun b hb => nomatch hb)
  have hit : ∀ (h : Heap) (a : Addr) (z : Str) (tk : Tok), h.get? a = some { cls := .type (strIterType z), data := .fields #[.str z tk, .int 0 0] } → h.IsStrIter a (strIterType z) z tk 0 := fun h a z tk e => ⟨_, e, rfl, rfl⟩
  refine wpAny_pyIter_zip hz ⟨s1.heap.objs.size + 4, [s1.heap.objs.size + 4, s1.heap.objs.size + 2, s1.heap.objs.size + 3, s1.heap.objs.size, s1.heap.objs.size + 1], _, _, H1, rfl, I2,
    turn_pairs (W := fun A hA => WalksT.zipD2 S (Draws.text (A := A.in1) hA _ pl t) (Draws.text (A := A.in1) hA _ xl t')) List.mem_cons_self ?_ ?_ ?_ ?_, ⟨hz, hTI, ⟨_, _, hTO⟩, hit _ _ _ _ h1, hit _ _ _ _ h2⟩, ?_, q⟩
  · intro A i s Q E st hq
    exact wpAny_pyIter_zip st.1 hq
  · rintro i h ⟨hz, hTI, ⟨a1, a2, hTO⟩, ⟨o1, e1, _, d1⟩, ⟨o2, e2, _, d2⟩⟩ b hb
    have e' : b = s1.heap.objs.size + 4 ∨ b = s1.heap.objs.size + 2 ∨ b = s1.heap.objs.size + 3 ∨ b = s1.heap.objs.size ∨ b = s1.heap.objs.size + 1 := by simpa using hb
    rcases e' with q | q | q | q | q
    · exact ⟨_, by rw [q]; exact hz, fun v z => by cases (show Data.fields _ = Data.cell v from z)⟩
    · exact ⟨_, by rw [q]; exact hTI, fun v z => by cases (show Data.seq _ _ = Data.cell v from z)⟩
    · exact ⟨_, by rw [q]; exact hTO, fun v z => by cases (show Data.seq _ _ = Data.cell v from z)⟩
    · exact ⟨o1, by rw [q]; exact e1, fun v z => by rw [d1] at z; cases z⟩
    · exact ⟨o2, by rw [q]; exact e2, fun v z => by rw [d2] at z; cases z⟩
  · rintro i vals ⟨x1, x2, ⟨c, u, hc, e1⟩, ⟨c', u', hc', e2⟩, ev⟩
    subst ev e1 e2
    exact ⟨_, _, ⟨c, c', hc, hc', rfl, rfl⟩, .cons ⟨_, rfl⟩ (.cons ⟨_, rfl⟩ .nil)⟩
  · intro i h h' st hk
    obtain ⟨hz, hTI, ⟨a1, a2, hTO⟩, g1, g2⟩ := st
    have m : ∀ j, (j = 4 ∨ j = 2 ∨ j = 3 ∨ j = 0 ∨ j = 1) → s1.heap.objs.size + j ∈ [s1.heap.objs.size + 4, s1.heap.objs.size + 2, s1.heap.objs.size + 3, s1.heap.objs.size, s1.heap.objs.size + 1] := by
      rintro j (q | q | q | q | q) <;> simp [q]
    obtain ⟨o1, e1, c1⟩ := g1
    obtain ⟨o2, e2, c2⟩ := g2
    exact ⟨hk _ (m 4 (by simp)) _ hz, hk _ (m 2 (by simp)) _ hTI, ⟨a1, a2, hk _ (m 3 (by simp)) _ hTO⟩, ⟨o1, hk _ (m 0 (by simp)) _ e1, c1⟩, ⟨o2, hk _ (m 1 (by simp)) _ e2, c2⟩⟩
  · intro b hb
    have hle : s1.heap.objs.size ≤ b := by
      have e' : b = s1.heap.objs.size + 4 ∨ b = s1.heap.objs.size + 2 ∨ b = s1.heap.objs.size + 3 ∨ b = s1.heap.objs.size ∨ b = s1.heap.objs.size + 1 := by simpa using hb
      rcases e' with q | q | q | q | q <;> (rw [q]; omega)
    exact I1.fpOk hle (I1.hok.fresh hle)
end Lp

set_option Elab.async false
set_option linter.all false
set_option maxRecDepth 100000
set_option maxHeartbeats 4000000
/-! Lostplates: enumerate of a tuple; tuple.index of ints; the size of a set of ints; list.count of truths. -/
namespace Lp
open PySem PySem.Spec PyProof.Rows L2

/-! ### enumerate of a tuple -/
/-- the tuple at a, its items counted, each in a new pair -/
def IteT (K : PySem.W.Frag) (a : Addr) : It :=
  ⟨fun i H => ∃ (xs : List V) (x : V), SqT K H a xs ∧ xs[i]? = some x,
    fun i H v H' => ∃ T x, v = .ref T ∧ H T = none ∧ H' = upd H T (.tup [.int (i : Nat), x]) ∧ ∀ xs, SqT K H a xs → xs[i]? = some x,
    fun i H => ∃ xs : List V, SqT K H a xs ∧ xs.length = i⟩
theorem walk_enumT {K : PySem.W.Frag} {a : Addr} {xs : List V} : Walk (IteT K a) xs.length (fun H => SqT K H a xs) (fun i H v H' => ∃ T x, v = .ref T ∧ H T = none ∧ H' = upd H T (.tup [.int (i : Nat), x]) ∧ xs[i]? = some x) := by
  refine ⟨fun i _ hi q => ⟨xs, xs[i], q, List.getElem?_eq_getElem hi⟩, fun _ q => ⟨xs, q, rfl⟩, fun i H v H' _ q y => ?_⟩
  obtain ⟨T, x, h1, h2, h3, h4⟩ := y
  exact ⟨T, x, h1, h2, h3, h4 xs q⟩
theorem turn_enumT {P : Program} {w : World} {K : PySem.W.Frag} {elts : List Expr} {kk : Nat} {tpos : Pos} (a e it : Addr) :
    Turn P w K (.Tuple elts kk tpos) (IteT K a) [e, it] e (fun i h => (∃ old, IsEnum h e it ((i : Nat) : Int) old) ∧ h.IsTupleIter it a i ∧ e ≠ it) where
  mem := List.mem_cons_self
  obj := by
    rintro i h ⟨⟨old, he⟩, ⟨o, ho, hc, hd⟩, _⟩ b hb
    have e' : b = e ∨ b = it := by simpa using hb
    rcases e' with z | z
    · exact ⟨_, by rw [z]; exact he, fun v q => by cases (show Data.fields _ = Data.cell v from q)⟩
    · exact ⟨o, by rw [z]; exact ho, fun v q => by rw [hd] at q; cases q⟩
  keep := by
    rintro i h h' ⟨⟨old, he⟩, ⟨o, ho, r⟩, hne⟩ k
    exact ⟨⟨old, k e (by simp) _ he⟩, ⟨o, k it (by simp) o ho, r⟩, hne⟩
  item := by
    intro X hP hw hK hc i pins s σ H E J hf st hg
    subst hP hw hK
    obtain ⟨⟨old, he⟩, hit, hne⟩ := st
    obtain ⟨xs, x, hq, hx⟩ := hg
    obtain ⟨its, rv, p, hz⟩ := J.tuple hq
    have p2 : s.heap.IsTuple a its.toArray := p
    have nai : a ≠ it := by
      intro z
      obtain ⟨o1, e1, c1, _⟩ := p2
      obtain ⟨o2, e2, c2, _⟩ := hit
      rw [z, e2] at e1
      cases e1
      rw [c2] at c1
      exact absurd c1 (by decide)
    have hil : i < its.toArray.size := by
      rw [List.size_toArray, ← rv.length]
      exact (List.getElem?_eq_some_iff.mp hx).1
    have hae : a ≠ e := by
      intro z
      obtain ⟨o1, e1, c1, _⟩ := p2
      have he' : s.heap.get? e = some _ := he
      rw [z, he'] at e1
      cases e1
      exact absurd (show Value.type "enumerate" = Value.type "tuple" from c1) (by decide)
    have hel : e < s.heap.objs.size := Heap.lt_size he
    have hitl : it < s.heap.objs.size := by
      obtain ⟨_, q, _⟩ := hit
      exact Heap.lt_size q
    have D := Draws.tuple (prog := X.prog) (w := X.w) (A := X.A.in1) (J.ok.hd hc) it a nai its.toArray
    refine wpAny_pyNext_enum_itemD D he ⟨hit, p2⟩ hil hne (by simp; exact ⟨hne, fun z => hae z.symm⟩) fun u h' tk hu ho st' hT hsz hk => ⟨_, rfl, ?_⟩
    refine wpAny_letOwnedTupleGo_enum (s := { s with heap := h', toks := tk + 1 }) ho fun h'' he' sb => ?_
    have hu2 : its[i]? = some u := by simpa using hu
    obtain ⟨u2, hu3, ru⟩ := rv.get hx
    rw [hu2] at hu3
    cases hu3
    have hT2 : h''.get? s.heap.objs.size = some { cls := .type "tuple", data := .seq #[.int i tk, u] } := (sb.2 _ (Nat.ne_of_gt hel)).trans hT
    have new : ObjOk X.prog X.w (upd H s.heap.objs.size (.tup [.int (i : Nat), x])) h'' s.heap.objs.size (.tup [.int (i : Nat), x]) :=
      ⟨by show 2 ≤ sizeLine; decide, [.int i tk, u], .cons ⟨_, rfl⟩ (.cons ru .nil), ⟨_, hT2, rfl, _, rfl⟩⟩
    have J1 : Inv X pins σ (upd H s.heap.objs.size (.tup [.int (i : Nat), x])) { s with heap := h'', toks := tk + 1 } :=
      J.turnedNew (t' := tk + 1) (ch := [e, it]) (fun b ob hb q => (sb.2 b (fun z => hb (by simp [z]))).trans (hk b ob (fun z => hb (by simp [z])) (fun z => hb (by simp [z])) q)) hf (Nat.le_refl _) new
    refine ⟨.ref s.heap.objs.size, _, J1, rfl, ⟨_, x, rfl, J.hok.fresh (Nat.le_refl _), rfl, fun ys hy => by rw [J.tuple_inj hy hq]; exact hx⟩, ⟨⟨u, ?_⟩, st'.1.at fun o q => (sb.2 it (Ne.symm hne)).trans q, hne⟩, fun b hb => ?_⟩
    · rw [show ((i + 1 : Nat) : Int) = (i : Int) + 1 by omega]
      exact he'
    · have hb' : b < s.heap.objs.size := by
        have e' : b = e ∨ b = it := by simpa using hb
        rcases e' with z | z
        · rw [z]; exact hel
        · rw [z]; exact hitl
      rw [upd_ne (Nat.ne_of_lt hb')]
      exact (hf b hb).1
  done := by
    intro X hP hw hK hc i pins s σ H E J hf st hg
    subst hP hw hK
    obtain ⟨⟨old, he⟩, hit, hne⟩ := st
    obtain ⟨xs, hq, hx⟩ := hg
    obtain ⟨its, rv, p, hz⟩ := J.tuple hq
    have p2 : s.heap.IsTuple a its.toArray := p
    have nai : a ≠ it := by
      intro z
      obtain ⟨o1, e1, c1, _⟩ := p2
      obtain ⟨o2, e2, c2, _⟩ := hit
      rw [z, e2] at e1
      cases e1
      rw [c2] at c1
      exact absurd c1 (by decide)
    obtain ⟨f0, f1, f2, f3, f4, f5⟩ := hf it (by simp)
    have D := Draws.tuple (prog := X.prog) (w := X.w) (A := X.A.in1) (J.ok.hd hc) it a nai its.toArray
    have hi : i = its.toArray.size := by rw [List.size_toArray, ← rv.length, hx]
    subst hi
    exact wpAny_pyNext_enum_endD D he ⟨hit, p2⟩ fun h' eb => ⟨rfl, J.turned (t' := s.toks) (fun b o hb q => eb b o hb q) f0 f1 f3 f4 f5⟩
  self := by
    rintro A i s Q E ⟨⟨_, he⟩, _⟩ h
    exact wpAny_pyIter_enum he h
def iEnumT (K : PySem.W.Frag) (ta : TA) : TI := fun σ H R => ta σ H fun vs H1 => ∃ a xs, vs = [.ref a] ∧ SqT K H1 a xs ∧ R (IteT K a) H1
end Lp
namespace Lp
open PySem PySem.SeqAt
open AutoSeq1 (wpAny_loadPart')
open MeetsSeq MeetsSeq2 MeetsSeq3 SeqRoads2
set_option maxHeartbeats 2000000 in
/-- enumerate(v): the iterator of v, and the counter, are two new objects -/
theorem meets_enum1 {v : Value} {o : Obj} {G : Heap → Prop} (B : Begins v o G) :
    Meets (Builtin.«enumerate.__new__» ⟨[.type "enumerate", v], []⟩) (fun _ R s => G s.heap ∧
      R (.ok (.ret (.ref (s.heap.push o).objs.size))) { s with heap := (s.heap.push o).push { cls := .type "enumerate", data := .fields #[.none, .bool false, .ref s.heap.objs.size, rawInt 0, .none, .none] } }) :=
  .of_wp fun prog w A R s h => by
    obtain ⟨hp, gs, dr, tk, os⟩ := s
    obtain ⟨hG, hR⟩ := h
    have hsb := sub_enumerate
    have hit : ∀ {A' : Around} {E : Value → Shared → Prop} {Q : Value → Shared → Prop}, Q (.ref hp.objs.size) ⟨hp.push o, gs, dr, tk, os⟩ → wpAny (model prog w) A' (pyIter v) Q E ⟨hp, gs, dr, tk, os⟩ :=
      fun q => B.iter prog w _ _ ⟨hp, gs, dr, tk, os⟩ _ hG q
    wp_walk using hit
    refine wpAny_stack_any fun _ => wpAny_pure ?_
    split
    · rename_i c _ _ _ _ _
      cases (c == Value.type "enumerate") <;> (wp_walk using hit; exact ⟨_, rfl, hR⟩)
    · wp_walk using hit
      exact ⟨_, rfl, hR⟩
end Lp
namespace Lp
open PySem PySem.Spec PyProof.Rows L2
theorem enum1_begins {prog : Program} {w : World} {A : Around} {E : Value → Shared → Prop} {s : Shared} {v : Value} {o : Obj} {G : Heap → Prop} {Q : Value → Shared → Prop} (B : Begins v o G) (hG : G s.heap)
    (h : ∀ h', IsEnum h' (s.heap.objs.size + 1) s.heap.objs.size 0 .none → h'.get? s.heap.objs.size = some o → (∀ b o, s.heap.get? b = some o → h'.get? b = some o) → Q (.ref (s.heap.objs.size + 1)) { s with heap := h' }) :
    wpAny (model prog w) A (call (.type "enumerate") [v]) Q E s := by
  have hz : (s.heap.push o).objs.size = s.heap.objs.size + 1 := Heap.size_push ..
  have he := Heap.get?_push_size (s.heap.push o) (o := { cls := .type "enumerate", data := .fields #[.none, .bool false, .ref s.heap.objs.size, rawInt 0, .none, .none] }) rfl
  rw [hz] at he
  refine callType_new F.called_enumerate (by decide) (F.typeCall_enumerate_1 _) (F.newCall_enumerate_1 _) (fun obj => F.args_object_init_2 obj _) F.entry_enumerate_new (meets_enum1 B) ⟨hG, ?_⟩
  show _ ∧ _
  rw [hz]
  exact ⟨⟨_, he, rfl⟩, h _ he (Heap.get?_push_of_some _ (Heap.get?_push_size _ B.free)) fun b u x => Heap.get?_push_of_some _ (Heap.get?_push_of_some _ x)⟩
theorem pi_enumT {X : Cx} {e : Expr} {ta : TA} {p pos tpos : Pos} {elts : List Expr} {kk : Nat} (hg : Gl X "enumerate") (hm : X.mg "enumerate" = none) (ha : PA X [e] ta) (hs : starEach [e] X.env = [(false, eval e X.env)] := by rfl) :
    PI X (.Tuple elts kk tpos) (.Call (.Name "enumerate" p) [e] [] pos) (iEnumT X.K ta) := by
  refine ⟨fun pins s σ H R I h => ?_⟩
  refine Call_ (ld_blt I hg hm boot_enumerate (PyProof.Rows.callWith_type1 (thn (ha.run pos pins s σ H _ I h) fun us s1 ⟨vs, H1, I1, r1, q1⟩ => ?_) hs rfl))
  obtain ⟨a, xs, ex, hq, q⟩ := q1
  subst ex
  obtain ⟨u, eu, r⟩ := vals1 r1
  subst eu
  cases r
  obtain ⟨its, rv, pt, hz⟩ := I1.tuple hq
  have pt2 : s1.heap.IsTuple a its.toArray := pt
  refine enum1_begins (begins_tuple a its.toArray) pt2 fun h' he hit hk => wpAny_pyIter_enum he ?_
  have I2 : Inv X pins σ H1 { s1 with heap := h' } := I1.kept (t' := s1.toks) hk
  refine ⟨s1.heap.objs.size + 1, [s1.heap.objs.size + 1, s1.heap.objs.size], _, _, H1, rfl, I2, turn_enumT a _ _, ⟨⟨_, he⟩, ⟨_, hit, rfl, rfl⟩, Nat.succ_ne_self _⟩, fun b hb => ?_, q⟩
  have hle : s1.heap.objs.size ≤ b := by
    have e' : b = s1.heap.objs.size + 1 ∨ b = s1.heap.objs.size := by simpa using hb
    rcases e' with z | z <;> (rw [z]; omega)
  exact I1.fpOk hle (I1.hok.fresh hle)
end Lp

set_option Elab.async false
set_option linter.all false
set_option maxRecDepth 100000
set_option maxHeartbeats 4000000
/-! Lostplates: tuple.index and list.count of flat things; the size of a set of ints. -/
namespace Lp
open PySem PySem.Spec PyProof.Rows L2
section
variable {X : Cx}
/-- t.index(y), the first place, t a tuple of flat things -/
def rTIx (K : PySem.W.Frag) : V → List V → Hp → VK → Prop := fun x xs H Q => ∃ (a : Addr) (ys : List V) (y : V) (j : Nat) (z : V), x = V.ref a ∧ xs = [y] ∧ SqT K H a ys ∧ flatV y = true ∧ ys.all flatV = true ∧ ys[j]? = some z ∧ eqV z y = true ∧
  (∀ (m : Nat) (z' : V), m < j → ys[m]? = some z' → eqV z' y = false) ∧ Q (.int (j : Nat)) H
theorem mt_tupIx : MtR X "tuple.index" (rTIx X.K) := by
  intro pins s σ H x xs v us Q I rx rxs h
  obtain ⟨a, ys, y, j, z, rfl, rfl, hs, fy, fys, hz, hzj, hno, q⟩ := h
  cases rx
  obtain ⟨uy, rfl, ry⟩ := vals1 rxs
  obtain ⟨its, rv, ⟨⟨cls, dd, dt, sl⟩, ho, hc, n, hd⟩, hlen⟩ := I.tuple hs
  simp only at hc hd
  subst hc hd
  have itm : ∀ (m : Nat) (hm : m < its.toArray.size), ∃ z', ys[m]? = some z' ∧ eqU y its.toArray[m] = eqV z' y := by
    intro m hm
    have hml : m < its.length := by simpa using hm
    have hmy : m < ys.length := by rw [rv.length]; exact hml
    have hy' : ys[m]? = some ys[m] := List.getElem?_eq_getElem hmy
    obtain ⟨u2, hu2, ru2⟩ := rv.get hy'
    have e1 : its.toArray[m] = u2 := by
      have := (List.getElem?_eq_some_iff.mp hu2).2
      simpa using this
    exact ⟨ys[m], hy', by rw [e1, eqU_of ru2 (flat_at fys hy')]⟩
  have hj : j < its.toArray.size := by
    rw [List.size_toArray, ← rv.length]
    exact (List.getElem?_eq_some_iff.mp hz).1
  refine call_meets PySem.F.slot_tuple_index ⟨_, ho, rfl⟩ PySem.F.entry_tuple_index (PySem.F.args_tuple_index_2 _ _) (TI.tuple_indexAt a its.toArray n dd sl uy (eqU y) j hj ?_ ?_)
    ⟨ho, fun u' hu' => mem_eqAt ry fy rv fys u' (by simpa using hu'), ⟨.int (j : Nat), H, I.tok _, ⟨_, rfl⟩, q⟩⟩
  · obtain ⟨z', h1, h2⟩ := itm j hj
    rw [hz] at h1
    cases h1
    rw [h2]
    exact hzj
  · intro m hm hmj
    obtain ⟨z', h1, h2⟩ := itm m hm
    rw [h2]
    exact hno m z' hmj h1
theorem countP_flat {y : V} : ∀ {ys : List V} {us : List Value}, Vals ys us → ys.all flatV = true → us.countP (eqU y) = ys.countP fun z => eqV z y
  | _, _, .nil, _ => rfl
  | z :: zs, u :: us, .cons r t, f => by
    rw [List.all_cons, Bool.and_eq_true] at f
    rw [List.countP_cons, List.countP_cons, eqU_of r f.1, countP_flat t f.2]
/-- l.count(y), l a list of flat things -/
def rCntF (K : PySem.W.Frag) : V → List V → Hp → VK → Prop := fun x xs H Q => ∃ (a : Addr) (ys : List V) (y : V), x = V.ref a ∧ xs = [y] ∧ SqL K H a ys ∧ flatV y = true ∧ ys.all flatV = true ∧ Q (.int ((ys.countP fun z => eqV z y : Nat) : Int)) H
theorem mt_countF : MtR X "list.count" (rCntF X.K) := by
  intro pins s σ H x xs v us Q I rx rxs h
  obtain ⟨a, ys, y, rfl, rfl, hs, fy, fys, q⟩ := h
  cases rx
  obtain ⟨uy, rfl, ry⟩ := vals1 rxs
  obtain ⟨its, rv, ⟨⟨cls, dd, dt, sl⟩, n, ho, hc, hdn, hd⟩, hlen⟩ := I.list hs
  simp only at hc hd
  subst hc hd
  refine call_meets PySem.F.slot_list_count ⟨_, ho, rfl⟩ PySem.F.entry_list_count (PySem.F.args_list_count_2 _ _) (PySem.SeqAt.list_countAt a its.toArray n dd sl uy (eqU y)) ⟨ho, fun u' hu' => mem_eqAt ry fy rv fys u' (by simpa using hu'), ?_⟩
  rw [show its.toArray.toList = its from rfl, countP_flat rv fys]
  exact ⟨.int _, H, I.tok _, ⟨_, rfl⟩, q⟩
end

/-! ### len(set(xs)), xs ints -/
/-- the ints met, each once -/
def once (ns : List Int) : List Int := PyProof.Rows.firstMet (fun i => ns.getD i 0) ns.length
theorem once_mem (ns : List Int) : ∀ (i : Nat), i ≤ ns.length → ∀ k, k ∈ PyProof.Rows.firstMet (fun i => ns.getD i 0) i ↔ k ∈ ns.take i
  | 0, _, k => by simp [PyProof.Rows.firstMet]
  | i + 1, hi, k => by
    have ih := once_mem ns i (by omega)
    have hlt : i < ns.length := hi
    have e1 : ns.getD i 0 = ns[i] := by
      rw [List.getD_eq_getElem?_getD, List.getElem?_eq_getElem hlt] <;> rfl
    rw [PyProof.Rows.firstMet_succ, List.take_add_one, List.getElem?_eq_getElem hlt]
    show k ∈ (if (PyProof.Rows.firstMet (fun i => ns.getD i 0) i).any (· == ns.getD i 0) = true then PyProof.Rows.firstMet (fun i => ns.getD i 0) i else PyProof.Rows.firstMet (fun i => ns.getD i 0) i ++ [ns.getD i 0]) ↔ k ∈ ns.take i ++ [ns[i]]
    rw [e1, List.mem_append, List.mem_singleton]
    by_cases hb : (PyProof.Rows.firstMet (fun i => ns.getD i 0) i).any (· == ns[i]) = true
    · rw [if_pos hb, ih k]
      refine ⟨fun h => .inl h, fun h => ?_⟩
      rcases h with h | h
      · exact h
      · obtain ⟨y, hy, ey⟩ := List.any_eq_true.mp hb
        have ey2 : y = ns[i] := eq_of_beq ey
        rw [h, ← ey2]
        exact (ih y).mp hy
    · rw [if_neg hb, List.mem_append, List.mem_singleton, ih k]
/-- one int alone, as often as you like -/
theorem once_one {n : Int} {ns : List Int} (h0 : ns ≠ []) (h : ∀ k ∈ ns, k = n) : (once ns).length = 1 := by
  have key : ∀ i, 0 < i → i ≤ ns.length → PyProof.Rows.firstMet (fun i => ns.getD i 0) i = [n] := by
    intro i
    induction i with
    | zero =>
      intro h
      exact absurd h (Nat.lt_irrefl 0)
    | succ i ih =>
      intro _ hi
      have hlt : i < ns.length := hi
      have e1 : ns.getD i 0 = n := by
        rw [List.getD_eq_getElem?_getD, List.getElem?_eq_getElem hlt]
        exact h _ (List.getElem_mem hlt)
      rw [PyProof.Rows.firstMet_succ]
      show (if (PyProof.Rows.firstMet (fun i => ns.getD i 0) i).any (· == ns.getD i 0) = true then PyProof.Rows.firstMet (fun i => ns.getD i 0) i else PyProof.Rows.firstMet (fun i => ns.getD i 0) i ++ [ns.getD i 0]) = [n]
      rw [e1]
      by_cases hz : i = 0
      · subst hz
        rfl
      · rw [ih (by omega) (by omega)]
        rw [if_pos (by simp)]
  have hp : 0 < ns.length := List.length_pos_iff.mpr h0
  unfold once
  rw [key ns.length hp (Nat.le_refl _)]
  rfl
theorem once_two {ns : List Int} {a b : Int} (ha : a ∈ ns) (hb : b ∈ ns) (hne : a ≠ b) : (once ns).length ≠ 1 := by
  intro h
  unfold once at h
  obtain ⟨c, hc⟩ := List.length_eq_one_iff.mp h
  have h1 := (once_mem ns ns.length (Nat.le_refl _) a).mpr (by rw [List.take_length]; exact ha)
  have h2 := (once_mem ns ns.length (Nat.le_refl _) b).mpr (by rw [List.take_length]; exact hb)
  rw [hc] at h1 h2
  exact hne ((List.mem_singleton.mp h1).trans (List.mem_singleton.mp h2).symm)
theorem once_len (ns : List Int) : (once ns).length ≤ ns.length := by
  have key : ∀ i, (PyProof.Rows.firstMet (fun i => ns.getD i 0) i).length ≤ i := by
    intro i
    induction i with
    | zero => exact Nat.le_refl 0
    | succ i ih =>
      rw [PyProof.Rows.firstMet_succ]
      show (if (PyProof.Rows.firstMet (fun i => ns.getD i 0) i).any (· == ns.getD i 0) = true then PyProof.Rows.firstMet (fun i => ns.getD i 0) i else PyProof.Rows.firstMet (fun i => ns.getD i 0) i ++ [ns.getD i 0]).length ≤ i + 1
      split
      · omega
      · rw [List.length_append, List.length_singleton]
        omega
  exact key ns.length
def tLenOnce (K : PySem.W.Frag) (ta : TE) : TE := fun σ H Q => ta σ H fun x H1 => ∃ (l : Addr) (ns : List Int), x = .ref l ∧ SqL K H1 l (ns.map V.int) ∧ ns.length ≤ 4000 ∧ Q (.int ((once ns).length : Nat)) H1
theorem pe_lenOnce {X : Cx} {a : Expr} {ta : TE} {p p2 q pos : Pos} (hg : Gl X "len") (hm : X.mg "len" = none) (hg2 : Gl X "set") (hm2 : X.mg "set" = none) (ha : PE X a ta) (hc : X.calm = true := by rfl)
    (na : starEach [a] X.env = (false, eval a X.env) :: starEach [] X.env := by rfl) : PE X (.Call (.Name "len" p) [.Call (.Name "set" p2) [a] [] q] [] pos) (tLenOnce X.K ta) := by
  refine ⟨fun pins s σ H Q I h => ?_⟩
  refine Call_ (ld_blt I hg hm boot_len (PyProof.Rows.callWith_builtin1 (PyProof.Rows.args_cons ?_ rfl) rfl rfl))
  refine Call_ (ld_blt I hg2 hm2 boot_set (PyProof.Rows.callWith_type1 (PyProof.Rows.args_cons (thn (ha.run pins s σ H _ I h) fun v s1 ⟨x, H1, I1, r1, q1⟩ => PyProof.Rows.args_nil ?_) na) na rfl))
  obtain ⟨l, ns, rfl, hq, hl, q1⟩ := q1
  cases r1
  obtain ⟨its, r, pl, hz⟩ := I1.list hq
  have hlen : its.toArray.size = ns.length := by rw [List.size_toArray, ← r.length, List.length_map]
  refine call_set_list (I1.ok.hd hc) pl.isList (by simpa using intsAre_of r) (by rw [hlen]; unfold scanBound; omega) fun h' tk hS hk => PyProof.Rows.args_nil ?_
  rw [hlen] at hS
  obtain ⟨o, es, ep, t, ho, hex, hd, _, _, _, hf, hn⟩ := hS
  have hol := once_len ns
  have hn2 : es.size = (once ns).length := hn
  have I2 : Inv X pins σ H1 { s1 with heap := h', toks := tk } := I1.kept fun b o e => hk b o (Heap.lt_size e) e
  exact call_len_set ho hex hd hf (by rw [hn2]; omega) ⟨.int (once ns).length, H1, I2.tok _, ⟨_, by rw [hn2]⟩, q1⟩
end Lp

set_option Elab.async false
set_option linter.all false
set_option maxRecDepth 100000
set_option maxHeartbeats 4000000
/-! Lostplates: words of our own over readings: what evaluates to something of a kind, walks, comprehensions, calls. -/
namespace Lp
open PySem PySem.Spec PyProof.Rows L2
open Evl (Ex Ev EvT EvA ex_l ex_t)

/-! ### evaluates to something of a kind -/
/-- te gives some v that is G, leaving what is known -/
def EvG (te : TE) (σ : L2.St) (H : Hp) (G : V → Hp → Prop) : Prop := ∀ H1, Ex H H1 → ∀ Q : VK, (∀ v H2, Ex H1 H2 → G v H2 → Q v H2) → te σ H1 Q
section
variable {te ta tb : TE} {t : TA} {σ : L2.St} {H H' : Hp} {G : V → Hp → Prop} {v x y z : V} {r : R2}
theorem Evl_g (h : Ev te σ H v) : EvG te σ H (fun u _ => u = v) := fun H1 e Q q => h H1 e Q fun H2 e2 => q v H2 e2 rfl
theorem g_Evl (h : EvG te σ H (fun u _ => u = v)) : Ev te σ H v := fun H1 e Q q => h H1 e Q fun u H2 e2 eu => by
  rw [eu]
  exact q H2 e2
theorem EvG.mono (e : Ex H H') (h : EvG te σ H G) : EvG te σ H' G := fun H1 a Q q => h H1 (e.trans a) Q q
theorem EvG.imp {G' : V → Hp → Prop} (h : EvG te σ H G) (k : ∀ v H1, Ex H H1 → G v H1 → G' v H1) : EvG te σ H G' := fun H1 e Q q => h H1 e Q fun v H2 e2 g => q v H2 e2 (k v H2 (e.trans e2) g)
theorem Ex.back {p : Addr} (e : Ex H H') (h : H' p = none) : H p = none := Evl.fresh_back e h
theorem Ex.at_ {p : Addr} {o : HO} (e : Ex H H') (h : H p = some o) : H' p = some o := e p o h
/-- an object that was new may be changed -/
theorem Ex.chg {H1 : Hp} {p : Addr} {o : HO} (e : Ex H H1) (h : H p = none) : Ex H (upd H1 p o) := Evl.Ex.mut e h
theorem Ex.add {p : Addr} {o : HO} (h : H p = none) : Ex H (upd H p o) := Evl.Ex.new h
/-- a relation of a list that stands: at every extension -/
theorem paired_mono {α β : Type} {F G : α → β → Prop} (h : ∀ a b, F a b → G a b) : ∀ {l : List α} {m : List β}, Paired F l m → Paired G l m
  | _, _, .nil => .nil
  | _, _, .cons a b => .cons (h _ _ a) (paired_mono h b)
theorem paired_len {α β : Type} {F : α → β → Prop} : ∀ {l : List α} {m : List β}, Paired F l m → l.length = m.length
  | _, _, .nil => rfl
  | _, _, .cons _ b => congrArg Nat.succ (paired_len b)
theorem paired_at {α β : Type} {F : α → β → Prop} : ∀ {l : List α} {m : List β} {i : Nat} {a : α}, Paired F l m → l[i]? = some a → ∃ b, m[i]? = some b ∧ F a b
  | _, _, _, _, .nil, h => by simp at h
  | _, _, 0, _, .cons q _, h => by
    have e := Option.some.inj h
    subst e
    exact ⟨_, rfl, q⟩
  | _, _, i + 1, a, .cons _ t, h => by
    obtain ⟨b, h1, h2⟩ := paired_at (i := i) (a := a) t h
    exact ⟨b, h1, h2⟩
theorem paired_at2 {α β : Type} {F : α → β → Prop} : ∀ {l : List α} {m : List β} {i : Nat} {b : β}, Paired F l m → m[i]? = some b → ∃ a, l[i]? = some a ∧ F a b
  | _, _, _, _, .nil, h => by simp at h
  | _, _, 0, _, .cons q _, h => by
    have e := Option.some.inj h
    subst e
    exact ⟨_, rfl, q⟩
  | _, _, i + 1, b, .cons _ t, h => by
    obtain ⟨a, h1, h2⟩ := paired_at2 (i := i) (b := b) t h
    exact ⟨a, h1, h2⟩
theorem paired_app {α β : Type} {F : α → β → Prop} : ∀ {l l' : List α} {m m' : List β}, Paired F l m → Paired F l' m' → Paired F (l ++ l') (m ++ m')
  | _, _, _, _, .nil, s => s
  | _, _, _, _, .cons q t, s => .cons q (paired_app t s)
theorem paired_map {α β γ : Type} {F : α → β → Prop} (f : γ → β) : ∀ {l : List α} {m : List γ}, Paired (fun a c => F a (f c)) l m → Paired F l (m.map f)
  | _, _, .nil => .nil
  | _, _, .cons q t => .cons q (paired_map f t)
theorem paired_mapL {α β γ : Type} {F : α → β → Prop} (f : γ → α) : ∀ {l : List γ} {m : List β}, Paired (fun c b => F (f c) b) l m → Paired F (l.map f) m
  | _, _, .nil => .nil
  | _, _, .cons q t => .cons q (paired_mapL f t)
theorem paired_eq {α β : Type} {f : α → β} : ∀ {l : List α} {m : List β}, Paired (fun a b => b = f a) l m → m = l.map f
  | _, _, .nil => rfl
  | _, _, .cons q t => by rw [q, paired_eq t, List.map_cons]
end

/-! ### what is walked -/
/-- wi gives an iterator of n turns that yields as Y says, whatever is new -/
def EvI (wi : TI) (σ : L2.St) (H : Hp) (n : Nat) (Y : Nat → Hp → V → Hp → Prop) : Prop :=
  ∀ H0, Ex H H0 → ∀ R : It → Hp → Prop, (∀ J H1 G, Ex H0 H1 → Walk J n G Y → (∀ H2, Ex H H2 → G H2) → R J H1) → wi σ H0 R
section
variable {K : PySem.W.Frag} {σ : L2.St} {H H' : Hp} {wi : TI} {n : Nat} {Y : Nat → Hp → V → Hp → Prop} {ta : TA} {tl : TE}
theorem EvI.mono (e : Ex H H') (h : EvI wi σ H n Y) : EvI wi σ H' n Y := fun H0 a R q => h H0 (e.trans a) R fun J H1 G e1 w g => q J H1 G e1 w fun H2 e2 => g H2 (e.trans e2)
theorem ei_list {a : Addr} {xs : List V} (h : Ev tl σ H (.ref a)) (hx : SqL K H a xs) : EvI (iList K tl) σ H xs.length (YAt xs) := fun H0 e R q =>
  h H0 e _ fun H1 e1 => ⟨a, rfl, ⟨xs, ex_l (e.trans e1) hx⟩, q _ H1 _ e1 walk_list fun H2 e2 => ex_l e2 hx⟩
theorem ei_tup {a : Addr} {xs : List V} (h : Ev tl σ H (.ref a)) (hx : SqT K H a xs) : EvI (iTup K tl) σ H xs.length (YAt xs) := fun H0 e R q =>
  h H0 e _ fun H1 e1 => ⟨a, rfl, ⟨xs, ex_t (e.trans e1) hx⟩, q _ H1 _ e1 walk_tup fun H2 e2 => ex_t e2 hx⟩
theorem ei_rng1 {n : Nat} (h : EvA ta σ H [.int (n : Int)]) (hn : n ≤ 100000) : EvI (iRng1 ta) σ H n (YFn fun i => .int ((0 : Int) + (i : Int))) := fun H0 e R q =>
  h H0 e _ fun H1 e1 => ⟨(n : Int), rfl, by omega, by omega, by
    rw [Int.toNat_natCast]
    exact q _ H1 _ e1 walk_range fun _ _ => trivial⟩
theorem ei_str {z : Str} (h : Ev tl σ H (.str z)) : EvI (iStr tl) σ H z.cps.size (fun i H v H' => H' = H ∧ ∃ c, z.cps[i]? = some c ∧ v = .str ⟨#[c]⟩) := fun H0 e R q =>
  h H0 e _ fun H1 e1 => ⟨z, rfl, q _ H1 _ e1 walk_str fun _ _ => trivial⟩
theorem ei_enumL {a : Addr} {xs : List V} (h : EvA ta σ H [.ref a]) (hx : SqL K H a xs) : EvI (iEnum K ta) σ H xs.length (YPair (fun i => some (.int (i : Nat))) (fun i => xs[i]?)) := fun H0 e R q =>
  h H0 e _ fun H1 e1 => ⟨a, xs, rfl, ex_l (e.trans e1) hx, q _ H1 _ e1 walk_enum fun H2 e2 => ex_l e2 hx⟩
theorem ei_enumT {a : Addr} {xs : List V} (h : EvA ta σ H [.ref a]) (hx : SqT K H a xs) : EvI (iEnumT K ta) σ H xs.length (fun i H v H' => ∃ T x, v = .ref T ∧ H T = none ∧ H' = upd H T (.tup [.int (i : Nat), x]) ∧ xs[i]? = some x) := fun H0 e R q =>
  h H0 e _ fun H1 e1 => ⟨a, xs, rfl, ex_t (e.trans e1) hx, q _ H1 _ e1 walk_enumT fun H2 e2 => ex_t e2 hx⟩
theorem ei_zipS {p x : Str} (h : EvA ta σ H [.str p, .str x]) : EvI (iZipS ta) σ H (min p.cps.size x.cps.size) (fun i H v H' => ∃ T x1 y1, v = .ref T ∧ H T = none ∧ H' = upd H T (.tup [x1, y1]) ∧ YZip p x i x1 y1) := fun H0 e R q =>
  h H0 e _ fun H1 e1 => ⟨p, x, rfl, q _ H1 _ e1 walk_pairs fun _ _ => trivial⟩
end

/-! ### for loops -/
section
variable {σ : L2.St} {H : Hp} {wi : TI} {n : Nat} {Y : Nat → Hp → V → Hp → Prop} {g : TG} {tu tz : TS} {D : Ends}
theorem s_forI (hi : EvI wi σ H n Y) (Pv : Nat → L2.St → Hp → Prop) (h0 : ∀ H1, Ex H H1 → Pv 0 σ H1) (hE : ∀ i σ' H', Pv i σ' H' → Ex H H')
    (turn : ∀ i x σ' H' H'', i < n → Pv i σ' H' → Y i H' x H'' → g x σ' H'' fun σ2 H2 => tu { D with nx := Pv (i + 1), ct := Pv (i + 1), bk := D.nx } σ2 H2)
    (hd : ∀ σ' H', Pv n σ' H' → D.nx σ' H') : tFor wi g tu D σ H := by
  refine hi H (Ex.refl H) _ fun J H1 G e1 w hG => ?_
  exact for_it w Pv (h0 H1 e1) (fun i σ' H' _ p => hG H' (hE i σ' H' p)) turn hd
end

/-! ### comprehensions -/
/-- all but the lists stays -/
def Kt (H H' : Hp) : Prop := ∀ b o, H b = some o → (∀ xs, o ≠ .lst xs) → H' b = some o
theorem Kt.of {H H' : Hp} (e : Ex H H') : Kt H H' := fun b o h _ => e b o h
theorem Kt.trans {H H1 H2 : Hp} (a : Kt H H1) (b : Kt H1 H2) : Kt H H2 := fun c o h n => b c o (a c o h n) n
theorem Kt.lst {H : Hp} {p : Addr} {xs : List V} {o : HO} (h : H p = some (.lst xs)) : Kt H (upd H p o) := fun b u e n => by
  by_cases hb : b = p
  · rw [hb, h] at e
    exact absurd (Option.some.inj e).symm (n xs)
  · rw [upd_ne hb]
    exact e
theorem Kt.tup {H H' : Hp} {a : Addr} {xs : List V} (k : Kt H H') (h : H a = some (.tup xs)) : H' a = some (.tup xs) := k a _ h fun _ z => by cases z
/-- te gives a new list of values that are P -/
def EvLG (te : TE) (σ : L2.St) (H : Hp) (P : List V → Hp → Prop) : Prop := ∀ H1, Ex H H1 → ∀ Q : VK, (∀ p H2 vs, H1 p = none → Ex H1 H2 → H2 p = some (.lst vs) → P vs H2 → Q (.ref p) H2) → te σ H1 Q
/-- what one turn of a comprehension does: f tells whether it gives, R what -/
def LcTurn (Y : Nat → Hp → V → Hp → Prop) (g : TG) (tt : TT) (te : TE) (vs : List Nat) (σ : L2.St) (n : Nat) (f : Nat → Bool) (R : Nat → V → Hp → Prop) (H : Hp) : Prop :=
  ∀ i H1 x H2, i < n → Ex H H1 → Y i H1 x H2 → Ex H1 H2 ∧ ∃ σ2, wipe σ2 vs = wipe σ vs ∧ (∀ Kk : L2.St → Hp → Prop, (∀ H3, Ex H2 H3 → Kk σ2 H3) → g x (wipe σ vs) H2 Kk) ∧ EvT tt σ2 H2 (f i) ∧ (f i = true → EvG te σ2 H2 (R i))
theorem range_filter_succ (f : Nat → Bool) (n : Nat) : (List.range (n + 1)).filter f = (List.range n).filter f ++ (if f n = true then [n] else []) := by
  rw [List.range_succ, List.filter_append, List.filter_cons]
  rfl
theorem lc_walk {J : It} {n : Nat} {G : Hp → Prop} {Y : Nat → Hp → V → Hp → Prop} {g : TG} {tt : TT} {te : TE} {vs : List Nat} {σ : L2.St} {H1 : Hp} {Dl : Addr} {Qd : Hp → Prop} {f : Nat → Bool} {R : Nat → V → Hp → Prop} (w : Walk J n G Y) (hn : n ≤ 40000)
    (hR : ∀ i v H H', Kt H H' → R i v H → R i v H') (hG : ∀ H2, Ex H1 H2 → G H2) (turn : LcTurn Y g tt te vs σ n f R H1) (hD : H1 Dl = none)
    (hd : ∀ H2 us, Ex H1 H2 → H2 Dl = some (.lst us) → Paired (fun i v => R i v H2) ((List.range n).filter f) us → Qd H2) :
    ∃ W : Nat → Nat → Hp → Prop, (∃ m, W 0 m (upd H1 Dl (.lst []))) ∧ ∀ i m H, W i m H →
      (J.stop i H ∧ Qd H) ∨ (J.go i H ∧ ∃ Nx : Hp → Prop, (∀ H', Nx H' → ∃ m', m' < m ∧ W (i + 1) m' H') ∧ ∀ x H', J.yld i H x H' → g x (wipe σ vs) H' fun σ2 H2 => wipe σ2 vs = wipe σ vs ∧ tt σ2 H2 fun b H3 =>
        if b = true then te σ2 H3 fun y H4 => ∃ acc, H4 Dl = some (.lst acc) ∧ acc.length < sizeLine ∧ Nx (upd H4 Dl (.lst (acc ++ [y]))) else Nx H3) := by
  refine lc_it w (fun i H => ∃ us, Ex H1 H ∧ H Dl = some (.lst us) ∧ Paired (fun i v => R i v H) ((List.range i).filter f) us) ⟨[], Ex.add hD, upd_same, .nil⟩ (fun i H _ ⟨us, e, _⟩ => hG H e) ?_ (fun H ⟨us, e, h1, h2⟩ => hd H us e h1 h2)
  rintro i x H H' hi ⟨us, e, h1, h2⟩ hy
  obtain ⟨e', σ2, hw, hg, ht, he⟩ := turn i H x H' hi e hy
  refine hg _ fun H3 e3 => ⟨hw, ?_⟩
  refine ht H3 e3 _ fun H4 e4 => ?_
  have ee := (e'.trans e3).trans e4
  rw [range_filter_succ]
  cases hf : f i with
  | true =>
    rw [if_pos rfl, if_pos rfl]
    refine he hf H4 (e3.trans e4) _ fun v H5 e5 hv => ?_
    have e6 := ee.trans e5
    have lus : us.length ≤ i := by
      rw [← paired_len h2]
      have := List.length_filter_le f (List.range i)
      rw [List.length_range] at this
      exact this
    have hDl : H5 Dl = some (.lst us) := e6 _ _ h1
    refine ⟨us, hDl, Nat.lt_of_le_of_lt (Nat.le_trans lus (Nat.le_of_lt (Nat.lt_of_lt_of_le hi hn))) (by decide), us ++ [v], Ex.chg (e.trans e6) hD, upd_same, ?_⟩
    exact paired_app (paired_mono (fun a b => hR a b _ _ ((Kt.of e6).trans (Kt.lst hDl))) h2) (.cons (hR i v _ _ (Kt.lst hDl) hv) .nil)
  | false =>
    rw [if_neg Bool.false_ne_true, if_neg Bool.false_ne_true, List.append_nil]
    exact ⟨us, e.trans ee, ee _ _ h1, paired_mono (fun a b => hR a b _ _ (Kt.of ee)) h2⟩
section
variable {σ : L2.St} {H : Hp} {wi : TI} {n : Nat} {Y : Nat → Hp → V → Hp → Prop} {g : TG} {tt : TT} {te : TE} {vs : List Nat} {f : Nat → Bool} {R : Nat → V → Hp → Prop}
theorem LcTurn.mono {H' : Hp} (e : Ex H H') (h : LcTurn Y g tt te vs σ n f R H) : LcTurn Y g tt te vs σ n f R H' := fun i H1 x H2 hi e1 hy => h i H1 x H2 hi (e.trans e1) hy
/-- a comprehension over what stands -/
theorem el_lc (hi : EvI wi σ H n Y) (hn : n ≤ 40000) (f : Nat → Bool) (R : Nat → V → Hp → Prop) (hR : ∀ i v H H', Kt H H' → R i v H → R i v H') (turn : LcTurn Y g tt te vs σ n f R H) :
    EvLG (tLc wi g tt te vs) σ H (fun us H' => Paired (fun i v => R i v H') ((List.range n).filter f) us) := fun H0 e Q q =>
  hi H0 e _ fun J H1 G e1 w hG Dl hD => lc_walk w hn hR (fun H2 e2 => hG H2 ((e.trans e1).trans e2)) (turn.mono (e.trans e1)) hD fun H2 us e2 h1 h2 => q Dl H2 us (Ex.back e1 hD) (e1.trans e2) h1 h2
/-- .. that gives values which lean on nothing -/
theorem el_lcV (hi : EvI wi σ H n Y) (hn : n ≤ 40000) (f : Nat → Bool) (v : Nat → V) (turn : LcTurn Y g tt te vs σ n f (fun i u _ => u = v i) H) :
    EvLG (tLc wi g tt te vs) σ H (fun us _ => us = ((List.range n).filter f).map v) := fun H0 e Q q =>
  el_lc hi hn f (fun i u _ => u = v i) (fun _ _ _ _ _ z => z) turn H0 e Q fun p H2 us hp e2 h2 hP => q p H2 us hp e2 h2 (paired_eq hP)
theorem all_given {α : Type} {f : Nat → Bool} {v : Nat → α} {n : Nat} (h : ∀ i, i < n → f i = true) : ((List.range n).filter f).map v = (List.range n).map v := by
  rw [List.filter_eq_self.mpr fun i hi => h i (List.mem_range.mp hi)]
end

/-! ### calls of the module's defs -/
/-- the def that the name x stands for keeps the promise -/
def Df (P : Program) (w : World) (K : PySem.W.Frag) (mg : Str → Option Value) (base : Heap) (CX : CXT) (k : Nat) (x : Str) (sp : Sp) : Prop :=
  ∃ f, mg x = some (.ref f) ∧ PySem.W.keepIn K (.ref f) = true ∧ FnR P w K mg base CX k f sp
def tCl (sp : Sp) (E : XK) (t : TA) : TE := fun σ H Q => t σ H fun vs H1 => sp vs H1 Q E
section
variable {X : Cx} {CX : CXT} {k : Nat} {sp : Sp} {E : XK} {x : Str} {p pos : Pos} {e : Expr} {es : List Expr} {t : TA}
theorem pe_df (F : Df X.prog X.w X.K X.mg X.base CX k x sp) (hr : Room k X.A) (hg : Gl X x) (hx : Passes CX X E) (ha : PA X (e :: es) t)
    (hdb : (x == ("__debug__" : Str)) = false := by decide) (he : starEach (e :: es) X.env = (false, eval e X.env) :: starEach es X.env := by rfl) (hpl : (backTo pos (starEach es X.env)).any (·.1) = false := by rfl) :
    PE X (.Call (.Name x p) (e :: es) [] pos) (tCl sp E t) := by
  obtain ⟨f, hm, hk, Fr⟩ := F
  refine ⟨fun pins s σ H Q I h => ?_⟩
  refine wpAny_Call_Name_kw (ld_glob I hg hm ?_ hdb)
  refine PySem.W.callWith_K (h₀ := X.base) I.ok.mod.kin hk (thn (ha.run pos pins s σ H _ I h) fun us s1 ⟨vs, H1, I1, r, q⟩ => ⟨I1.kIn, ?_⟩) he hpl
  exact wpAny_call (run_fnR Fr hr hx I1 r q)
end
section
variable {σ : L2.St} {H : Hp} {G : V → Hp → Prop} {ta : TA} {vs : List V}
/-- a promise that gives something of a kind -/
def SpG (sp : Sp) (vs : List V) (H : Hp) (G : V → Hp → Prop) : Prop := ∀ H1, Ex H H1 → ∀ Q : VK, (∀ v H2, Ex H1 H2 → G v H2 → Q v H2) → ∀ E : XK, sp vs H1 Q E
theorem ev_cl {sp : Sp} {E : XK} (h : EvA ta σ H vs) (hs : SpG sp vs H G) : EvG (tCl sp E ta) σ H G := fun H1 e Q q =>
  h H1 e _ fun H2 e2 => hs H2 (e.trans e2) Q (fun v H3 e3 g => q v H3 (e2.trans e3) g) E
theorem ev_clV {sp : Sp} {E : XK} {z : V} (h : EvA ta σ H vs) (hs : SpG sp vs H (fun u _ => u = z)) : Ev (tCl sp E ta) σ H z := g_Evl (ev_cl h hs)
end
end Lp

set_option Elab.async false
set_option linter.all false
set_option maxRecDepth 100000
set_option maxHeartbeats 4000000
/-! Lostplates: tuples whose methods are called: it is known that they have no dict of their own. -/
namespace Lp
open PySem PySem.Spec PyProof.Rows L2
open Evl
/-- a tuple of which is known that it has no own dict -/
def FT (H : Hp) (a : Addr) (xs : List V) : Prop := ∃ o : Obj, o.dict = none ∧ H a = some (.frz o (.tup xs))
theorem FT.ex {H H' : Hp} {a : Addr} {xs : List V} (e : Ex H H') (h : FT H a xs) : FT H' a xs := by
  obtain ⟨o, h1, h2⟩ := h
  exact ⟨o, h1, e _ _ h2⟩
theorem FT.sq {K : PySem.W.Frag} {H : Hp} {a : Addr} {xs : List V} (h : FT H a xs) : SqT K H a xs := by
  obtain ⟨o, _, h2⟩ := h
  exact .inl (.inr ⟨o, h2⟩)
theorem FT.rd {H : Hp} {a : Addr} {xs : List V} (h : FT H a xs) : Rd H a (.tup xs) := by
  obtain ⟨o, _, h2⟩ := h
  exact .inr ⟨o, h2⟩
def tTupF (t : TA) : TE := fun σ H Q => t σ H fun xs H1 => xs.length ≤ sizeLine ∧ ∀ (p : Addr) (o : Obj), H1 p = none → o.dict = none → Q (.ref p) (upd H1 p (.frz o (.tup xs)))
def rTupF (K : PySem.W.Frag) : List V → Hp → VK → Prop := fun xs H Q => ∃ p ys, xs = [.ref p] ∧ SqL K H p ys ∧ ∀ (l : Addr) (o : Obj), H l = none → o.dict = none → Q (.ref l) (upd H l (.frz o (.tup ys)))
def tBMT (r : V → List V → Hp → VK → Prop) (to : TE) (t : TA) : TE := fun σ H Q => to σ H fun x H1 => (∃ p xs, x = .ref p ∧ FT H1 p xs) ∧ t σ H1 fun xs H2 => r x xs H2 Q
section
variable {X : Cx} {o e : Expr} {es : List Expr} {to : TE} {t : TA} {name : Str} {pos apos cpos : Pos} {id : String} {r : V → List V → Hp → VK → Prop}
theorem pe_tupF {x1} (h : PA X es t) : PE X (.Tuple es x1 pos) (tTupF t) := ⟨fun pins s σ H Q I hq => wpAny_Tuple_spliced (thn (h.run pos pins s σ H _ I hq) fun us s1 ⟨xs, H1, I1, rv, z, q⟩ => ⟨by rw [← rv.length]; exact z, by
  have hn : (s1.heap.push { cls := .type "tuple", data := .seq us.toArray 0 }).get? s1.heap.objs.size = some { cls := .type "tuple", data := .seq us.toArray 0 } := Heap.get?_push_size _ rfl
  have I2 := I1.laid (t' := s1.toks) (o := .frz { cls := .type "tuple", data := .seq us.toArray 0 } (.tup xs)) (fun b u eb => Heap.get?_push_of_some _ eb) (Nat.le_refl _) ⟨hn, z, us, rv, ⟨_, hn, rfl, _, rfl⟩⟩
  exact ⟨.ref _, _, I2, rfl, q _ _ (I1.hok.fresh (Nat.le_refl _)) rfl⟩⟩)⟩
theorem call_tupF : CallR X (.type "tuple") (rTupF X.K) := fun pins s σ H xs us Q I rv h => by
  obtain ⟨p, ys, rfl, hq, q⟩ := h
  obtain ⟨u, rfl, rx⟩ := vals1 rv
  cases rx
  obtain ⟨its, r', pl, hz⟩ := I.list hq
  have hlen := r'.length
  refine call_tuple_list pl.isList (fun h' kp => ?_) (by rw [List.size_toArray]; omega)
  have I1 := I.kept (t' := s.toks) kp
  have hn : (h'.push { cls := .type "tuple", data := .seq its.toArray }).get? h'.objs.size = some { cls := .type "tuple", data := .seq its.toArray } := Heap.get?_push_size _ rfl
  have I2 := I1.laid (t' := s.toks) (o := .frz { cls := .type "tuple", data := .seq its.toArray } (.tup ys)) (fun b u eb => Heap.get?_push_of_some _ eb) (Nat.le_refl _) ⟨hn, hz, its, r', IsTup.new _ _⟩
  exact ⟨.ref _, _, I2, rfl, q _ _ (I1.hok.fresh (Nat.le_refl _)) rfl⟩
theorem pe_bmT (slot : Slot "tuple" name id) (hty : typeOf (.builtin id) = pure (.type "method_descriptor")) (hm : MtR X id r) (ho : PE X o to) (ha : PA X (e :: es) t)
    (hb : attributeBase o name X.env (eval o X.env) = eval o X.env := by rfl)
    (hf : ((backTo cpos (starEach (e :: es) X.env)).all (fun x => !x.1) && (backToKw cpos (keywordEach [] X.env)).all (fun x => x.1.isSome)
      && decide ((e :: es).length + ([] : List Keyword).length + (if ([] : List Keyword).isEmpty then 0 else 1) < 30)) = true := by rfl)
    (hl : (apos.endLine == cpos.line) = true := by rfl) (hst : starEach (e :: es) X.env = (false, eval e X.env) :: starEach es X.env := by rfl) (hpl : (backTo cpos (starEach es X.env)).any (·.1) = false := by rfl) :
    PE X (.Call (.Attribute o name apos) (e :: es) [] cpos) (tBMT r to t) := ⟨fun pins s σ H Q I h =>
  wpAny_Call_method_late hb hf hl rfl (thn (ho.run pins s σ H _ I h) fun v s1 ⟨x, H1, I1, r1, ⟨p, xs, ex, ob, hd, hx⟩, q1⟩ => by
    subst ex
    cases r1
    have hob := I1.hok p _ hx
    obtain ⟨hg, _, its, _, hT⟩ := hob
    obtain ⟨o', ho', hc', _⟩ := hT
    refine ⟨"tuple", id, PySem.F.plainAttrs_tuple, slot, hty, ⟨o', ho', hc'⟩, fun a ea => by cases ea; exact ⟨ob, hg, hd⟩, ?_⟩
    have hA := ha.run cpos pins s1 σ H1 _ I1 q1
    rw [hst] at hA ⊢
    exact Calls.callWith_builtin hpl (Calls.evalArgs_plain (thn hA fun us s2 ⟨vs, H2, I2, r2, q2⟩ => hm pins s2 σ H2 (.ref p) vs (.ref p) us Q I2 rfl r2 q2)))⟩
end
section
variable {K : PySem.W.Frag} {σ : L2.St} {H : Hp} {te ta : TE} {t : TA}
/-- a new such tuple -/
theorem euF_tup {vs : List V} (h : EvA t σ H vs) (hl : vs.length ≤ 100000) : ∀ H1, Ex H H1 → ∀ Q : VK, (∀ p H2, H1 p = none → Ex H1 H2 → FT H2 p vs → Q (.ref p) H2) → tTupF t σ H1 Q := fun H1 e Q q =>
  h H1 e _ fun H2 e2 => ⟨sz_of hl, fun p o hp ho => q p _ (Ex.back e2 hp) (e2.trans (Ex.new hp)) ⟨o, ho, upd_same⟩⟩
theorem ev_tix {p : Addr} {ys : List V} {y z : V} {j : Nat} (h : Ev te σ H (.ref p)) (ha : Ev ta σ H y) (hs : FT H p ys) (fy : flatV y = true) (fs : ys.all flatV = true) (hz : ys[j]? = some z) (he : eqV z y = true)
    (hn : ∀ (m : Nat) (z' : V), m < j → ys[m]? = some z' → eqV z' y = false) : Ev (tBMT (rTIx K) te (tCons ta tNil)) σ H (.int (j : Int)) := fun H1 e Q q =>
  h H1 e _ fun H2 e2 => ⟨⟨p, ys, rfl, hs.ex (e.trans e2)⟩, ha H2 (e.trans e2) _ fun H3 e3 => ⟨p, ys, y, j, z, rfl, rfl, (hs.ex ((e.trans e2).trans e3)).sq, fy, fs, hz, he, hn, q H3 (e2.trans e3)⟩⟩
end
end Lp

set_option Elab.async false
set_option linter.all false
set_option maxRecDepth 100000
set_option maxHeartbeats 4000000
/-! Lostplates: how houses, orders, logs and plans lie in the heap. -/
namespace Lp
open PySem PySem.Spec PyProof.Rows L2
open Evl (Ex Ev EvT EvA ex_l ex_t)

/-- the codes of a text -/
abbrev cs (z : Str) : List Nat := z.cps.toList
/-- a house: names, plates, manners -/
structure Hs where
  names : List Str
  signs : List Str
  ways : List Man
def Hs.n (h : Hs) : Nat := h.signs.length
/-- box b has a plate; its plate can be that of a name -/
def Hs.need (h : Hs) (b : Nat) : Bool := !(cs (h.signs.getD b Str.empty)).isEmpty
def Hs.mt (h : Hs) (b : Nat) (x : Str) : Bool := mat (cs (h.signs.getD b Str.empty)) (cs x)
def Hs.ords (h : Hs) : List (List Nat) := Lp.ords h.n h.need h.mt h.names
/-- what all houses here are -/
structure Hs.Ok (h : Hs) : Prop where
  l0 : 1 ≤ h.names.length
  l1 : h.names.length ≤ 4
  l2 : h.names.length ≤ h.signs.length
  l3 : h.signs.length ≤ 5
  nd : h.names.Nodup
  nx : ∀ x ∈ h.names, 1 ≤ x.length ∧ x.length ≤ 8
  sx : ∀ z ∈ h.signs, z.length ≤ 8
  wl : h.ways.length = h.names.length
  gs : Guess h.signs.length h.ways
  gl : ∀ (k : Nat) (g : List (Option Nat)), h.ways[k]? = some (.guess g) → g.length = h.names.length

def bx (b : Nat) : V := .int (b : Int)
def ob : Option Nat → V
  | none => .non
  | some b => bx b
theorem bx_inj {a b : Nat} (h : bx a = bx b) : a = b := by
  unfold bx at h
  have := V.int.inj h
  omega
theorem ob_inj {a b : Option Nat} (h : ob a = ob b) : a = b := by
  cases a with
  | none => cases b with
    | none => rfl
    | some b => cases h
  | some a => cases b with
    | none => cases h
    | some b => rw [bx_inj h]
/-- an order: a tuple of boxes -/
def TupAt (H : Hp) (a : Addr) (o : List Nat) : Prop := Rd H a (.tup (o.map bx))
/-- an order of the program's: it is asked for places -/
def OrdF (H : Hp) (a : Addr) (o : List Nat) : Prop := FT H a (o.map bx)
/-- a list of orders -/
def OrdL (H : Hp) (p : Addr) (os : List (List Nat)) : Prop := ∃ as : List Addr, H p = some (.lst (as.map V.ref)) ∧ Paired (TupAt H) as os
def OrdLF (H : Hp) (p : Addr) (os : List (List Nat)) : Prop := ∃ as : List Addr, H p = some (.lst (as.map V.ref)) ∧ Paired (OrdF H) as os
def ManAt (H : Hp) (v : V) : Man → Prop
  | .back => v = .str "back"
  | .keep => v = .str "keep"
  | .guess g => ∃ a, v = .ref a ∧ H a = some (.tup (g.map ob))
/-- the manners: a dict by name -/
def kvW (names : List Str) (vs : List V) : List (Key × V) := (names.map fun x => (Sum.inr x : Key)).zip vs
def WaysAt (H : Hp) (d : Addr) (names : List Str) (ways : List Man) : Prop := ∃ vs : List V, H d = some (.dK (kvW names vs)) ∧ Paired (ManAt H) vs ways
/-- a house -/
def HouseAt (C : Addr) (H : Hp) (p : Addr) (h : Hs) : Prop := ∃ dx nT sT wD : Addr, SlAt H p C dx [some (.ref nT), some (.ref sT), some (.ref wD)] ∧
  FT H nT (h.names.map V.str) ∧ H sT = some (.tup (h.signs.map V.str)) ∧ WaysAt H wD h.names h.ways
/-- the law's plan of a house, the true order -/
def PlanAt (H : Hp) (p : Addr) (h : Hs) (o : List Nat) : Prop := ∃ nT sT wD tT : Addr, H p = some (.tup [.ref nT, .ref sT, .ref wD, .ref tT]) ∧
  FT H nT (h.names.map V.str) ∧ H sT = some (.tup (h.signs.map V.str)) ∧ WaysAt H wD h.names h.ways ∧ TupAt H tT o
/-- a letter of a log -/
def EntAt (names : List Str) (H : Hp) (a : Addr) (e : Ent) : Prop := ∃ x, names[e.j]? = some x ∧ H a = some (.tup [.str x, bx e.b, ob e.seen])
def LogL (names : List Str) (H : Hp) (p : Addr) (log : List Ent) : Prop := ∃ as : List Addr, H p = some (.lst (as.map V.ref)) ∧ Paired (EntAt names H) as log

section
variable {H H' : Hp} {a p d C : Addr}
theorem FT.kt {xs : List V} (k : Kt H H') (h : FT H a xs) : FT H' a xs := by
  obtain ⟨o, h1, h2⟩ := h
  exact ⟨o, h1, k a _ h2 fun _ z => by cases z⟩
theorem TupAt.kt {o : List Nat} (k : Kt H H') (h : TupAt H a o) : TupAt H' a o := by
  rcases h with h | ⟨u, h⟩
  · exact .inl (k.tup h)
  · exact .inr ⟨u, k a _ h fun _ z => by cases z⟩
theorem TupAt.ex {o : List Nat} (e : Ex H H') (h : TupAt H a o) : TupAt H' a o := h.kt (Kt.of e)
theorem TupAt.sq {K : PySem.W.Frag} {o : List Nat} (h : TupAt H a o) : SqT K H a (o.map bx) := .inl h
theorem OrdF.kt {o : List Nat} (k : Kt H H') (h : OrdF H a o) : OrdF H' a o := FT.kt k h
theorem OrdF.ex {o : List Nat} (e : Ex H H') (h : OrdF H a o) : OrdF H' a o := FT.ex e h
theorem OrdF.tup {o : List Nat} (h : OrdF H a o) : TupAt H a o := FT.rd h
theorem OrdLF.ex {os : List (List Nat)} (e : Ex H H') (h : OrdLF H p os) : OrdLF H' p os := by
  obtain ⟨as, h1, h2⟩ := h
  exact ⟨as, e _ _ h1, paired_mono (fun _ _ q => q.ex e) h2⟩
theorem OrdLF.tup {os : List (List Nat)} (h : OrdLF H p os) : OrdL H p os := by
  obtain ⟨as, h1, h2⟩ := h
  exact ⟨as, h1, paired_mono (fun _ _ q => q.tup) h2⟩
theorem OrdL.ex {os : List (List Nat)} (e : Ex H H') (h : OrdL H p os) : OrdL H' p os := by
  obtain ⟨as, h1, h2⟩ := h
  exact ⟨as, e _ _ h1, paired_mono (fun _ _ q => q.ex e) h2⟩
theorem ManAt.kt {v : V} {m : Man} (k : Kt H H') (h : ManAt H v m) : ManAt H' v m := by
  cases m with
  | back => exact h
  | keep => exact h
  | guess g =>
    obtain ⟨a, h1, h2⟩ := h
    exact ⟨a, h1, k.tup h2⟩
theorem ManAt.ex {v : V} {m : Man} (e : Ex H H') (h : ManAt H v m) : ManAt H' v m := h.kt (Kt.of e)
theorem WaysAt.ex {names : List Str} {ways : List Man} (e : Ex H H') (h : WaysAt H d names ways) : WaysAt H' d names ways := by
  obtain ⟨vs, h1, h2⟩ := h
  exact ⟨vs, e _ _ h1, paired_mono (fun _ _ q => q.ex e) h2⟩
theorem slAt_ex {x dx : Addr} {vs : List (Option V)} (e : Ex H H') (h : SlAt H x C dx vs) : SlAt H' x C dx vs := by
  obtain ⟨h1, h2, h3⟩ := h
  refine ⟨e _ _ h1, h2, ?_⟩
  rcases h3 with h3 | ⟨h3, h4⟩
  · exact .inl (e _ _ h3)
  · exact .inr ⟨h3, e _ _ h4⟩
theorem HouseAt.ex {h : Hs} (e : Ex H H') (q : HouseAt C H p h) : HouseAt C H' p h := by
  obtain ⟨dx, nT, sT, wD, h1, h2, h3, h4⟩ := q
  exact ⟨dx, nT, sT, wD, slAt_ex e h1, h2.ex e, e _ _ h3, h4.ex e⟩
theorem PlanAt.ex {h : Hs} {o : List Nat} (e : Ex H H') (q : PlanAt H p h o) : PlanAt H' p h o := by
  obtain ⟨nT, sT, wD, tT, h1, h2, h3, h4, h5⟩ := q
  exact ⟨nT, sT, wD, tT, e _ _ h1, h2.ex e, e _ _ h3, h4.ex e, h5.ex e⟩
theorem EntAt.kt {names : List Str} {t : Ent} (k : Kt H H') (h : EntAt names H a t) : EntAt names H' a t := by
  obtain ⟨x, h1, h2⟩ := h
  exact ⟨x, h1, k.tup h2⟩
theorem EntAt.ex {names : List Str} {t : Ent} (e : Ex H H') (h : EntAt names H a t) : EntAt names H' a t := h.kt (Kt.of e)
theorem LogL.ex {names : List Str} {log : List Ent} (e : Ex H H') (h : LogL names H p log) : LogL names H' p log := by
  obtain ⟨as, h1, h2⟩ := h
  exact ⟨as, e _ _ h1, paired_mono (fun _ _ q => q.ex e) h2⟩
end
/-- the dict of the manners: each name has its own -/
theorem kvW_val : ∀ {names : List Str} {vs : List V} {k : Nat} {x : Str} {v : V}, names.Nodup → names[k]? = some x → vs[k]? = some v → valV (kvW names vs) (Sum.inr x : Key) = some v
  | [], _, _, _, _, _, h, _ => by simp at h
  | _ :: _, [], _, _, _, _, _, h => by simp at h
  | y :: ys, u :: us, 0, x, v, _, h1, h2 => by
    have e1 := Option.some.inj h1
    have e2 := Option.some.inj h2
    subst e1 e2
    exact valV_pos rfl
  | y :: ys, u :: us, k + 1, x, v, nd, h1, h2 => by
    obtain ⟨n1, n2⟩ := List.nodup_cons.mp nd
    have h1' : ys[k]? = some x := h1
    have hne : ¬ ((Sum.inr y : Key) = Sum.inr x) := fun e => n1 (by
      have e' := Sum.inr.inj e
      rw [e']
      exact List.mem_of_getElem? h1')
    show valV ((Sum.inr y, u) :: kvW ys us) (Sum.inr x : Key) = some v
    rw [valV_neg hne]
    exact kvW_val (k := k) n2 h1' h2
theorem kvW_len (names : List Str) (vs : List V) : (kvW names vs).length = min names.length vs.length := by
  unfold kvW
  rw [List.length_zip, List.length_map]
/-- two names at their places -/
theorem nd_at {names : List Str} (nd : names.Nodup) {i j : Nat} {x : Str} (a : names[i]? = some x) (b : names[j]? = some x) : i = j := nd_ix nd a b

/-! ### flat things -/
theorem flat_bx (o : List Nat) : (o.map bx).all flatV = true := by
  rw [List.all_map]
  exact List.all_eq_true.mpr fun _ _ => rfl
theorem eq_bx (a b : Nat) : eqV (bx a) (bx b) = (a == b) := by
  show ((a : Int) == (b : Int)) = (a == b)
  rw [Bool.eq_iff_iff, beq_iff_eq, beq_iff_eq]
  omega
theorem in_bx (b : Nat) (o : List Nat) : inV (bx b) (o.map bx) = o.contains b := by
  unfold inV
  rw [List.any_map, List.contains_eq_any_beq]
  refine congrArg (fun f => o.any f) (funext fun c => ?_)
  show eqV (bx c) (bx b) = (b == c)
  rw [eq_bx, Bool.eq_iff_iff, beq_iff_eq, beq_iff_eq]
  exact eq_comm
/-- the first place of a box in an order, as tuple.index has it -/
theorem find_first {o : List Nat} {b k : Nat} (h : o.findIdx? (· == b) = some k) : (o.map bx)[k]? = some (bx b) ∧ eqV (bx b) (bx b) = true ∧ ∀ (m : Nat) (z' : V), m < k → (o.map bx)[m]? = some z' → eqV z' (bx b) = false := by
  refine ⟨by rw [List.getElem?_map, find_at h]; rfl, by rw [eq_bx]; exact beq_self_eq_true b, fun m z' hm hz => ?_⟩
  rw [List.findIdx?_eq_some_iff_getElem] at h
  obtain ⟨h1, _, h3⟩ := h
  have h4 := h3 m hm
  have hml : m < o.length := by omega
  rw [List.getElem?_map, List.getElem?_eq_getElem hml] at hz
  have e := Option.some.inj hz
  rw [← e, eq_bx]
  cases hc : (o[m] == b) with
  | false => rfl
  | true => rw [hc] at h4; exact absurd rfl h4
end Lp

set_option Elab.async false
set_option linter.all false
set_option maxRecDepth 100000
set_option maxHeartbeats 4000000
/-! Lostplates: the text by places; what the walks ask of the module; how a def's promise is made. -/
namespace Lp
open PySem PySem.Spec PyProof.Rows L2
open Evl
def top (i : Nat) : Stmt := PySem.Challenge.pw_lostplates_k06_whole_logs_leave_what_is.main.body.getD i (.Pass ⟨0, 0, 0, 0⟩)
/-- the module's names -/
structure Tx (K : PySem.W.Frag) (mg : Str → Option Value) : Prop where
  isi : mg "isinstance" = none
  int : mg "int" = none
  bool : mg "bool" = none
  str : mg "str" = none
  tuple : mg "tuple" = none
  list : mg "list" = none
  dict : mg "dict" = none
  set : mg "set" = none
  len : mg "len" = none
  all : mg "all" = none
  any : mg "any" = none
  zip : mg "zip" = none
  enum : mg "enumerate" = none
  range : mg "range" = none
  sorted : mg "sorted" = none
  min : mg "min" = none
  letters : ∃ t, mg "LETTERS" = some (.str "abcdefghijklmnopqrstuvwxyz" t)
  point : ∃ t, mg "POINT" = some (.str "." t)
  maxLetters : ∃ t, mg "MAX_LETTERS" = some (.int 8 t)
  maxNames : ∃ t, mg "MAX_NAMES" = some (.int 6 t)
  maxBoxes : ∃ t, mg "MAX_BOXES" = some (.int 6 t)
  back : ∃ t, mg "BACK" = some (.str "back" t)
  keep : ∃ t, mg "KEEP" = some (.str "keep" t)
  kept : ∃ t, mg "KEPT" = some (.str "kept" t)
  lies : ∃ t, mg "LIES" = some (.str "lies" t)
  round : ∃ t, mg "ROUND" = some (.str "round" t)
  maxAnswer : ∃ t, mg "MAX_ANSWER" = some (.int 6 t)
/-- what the walks ask of the class of houses -/
structure Hc (K : PySem.W.Frag) (mg : Str → Option Value) (C : Addr) : Prop where
  mgC : mg "House" = some (.ref C)
  cl : SCls K C
  s0 : ∃ p, Slt K C "folk" 0 p
  s1 : ∃ p, Slt K C "signs" 1 p
  s2 : ∃ p, Slt K C "ways" 2 p
/-- a module's text -/
theorem pe_gs {X : Cx} {x z : Str} {pos : Pos} (hg : Gl X x) (h : ∃ t, X.mg x = some (.str z t)) (hd : (x == ("__debug__" : Str)) = false := by decide) : PE X (.Name x pos) (tC (.str z)) := by
  obtain ⟨t, e⟩ := h
  exact pe_glob hg e ⟨t, rfl⟩ hd
/-- a module's number -/
theorem pe_gi {X : Cx} {x : Str} {i : Int} {pos : Pos} (hg : Gl X x) (h : ∃ t, X.mg x = some (.int i t)) (hd : (x == ("__debug__" : Str)) = false := by decide) : PE X (.Name x pos) (tC (.int i)) := by
  obtain ⟨t, e⟩ := h
  exact pe_glob hg e ⟨t, rfl⟩ hd
/-- a def of the module -/
def DefAt (K : PySem.W.Frag) (mg : Str → Option Value) (x : Str) (st : Stmt) : Prop := ∃ f fd, mg x = some (.ref f) ∧ FunD K x x (defArgs st) (defBody st) (defScope st) [] [] f fd
section
variable {P : Program} {w : World} {K : PySem.W.Frag} {mg : Str → Option Value} {base : Heap} {CX : CXT} {k : Nat} {x : Str} {sp : Sp}
theorem DefAt.okX {st : Stmt} {N ps : List Str} (D : DefAt K mg x st) (S : FnScope N ps (defScope st))
    (hb : ∀ (kV doc pm : Value) (an : Option Addr) (cdv ct : Value) (us : List Value), us.length = ps.length → bindArgs (PySem.W.fnOf x x (defArgs st) (defBody st) (defScope st) .none kV doc pm an cdv ct) ⟨us, []⟩ = pure (ps.zip us))
    (len : ∀ vs H Q E, sp vs H Q E → vs.length = ps.length)
    (hbody : ∀ (f : Addr) (cdv : Value) (A : Around) (outer : List Env) (s : Shared) (H : Hp) (vs : List V) (Q : VK) (E : XK), Room k (A.deeper (envOfC x (defScope st) s.heap.objs.size f cdv)) → sp vs H Q E →
      ∃ t, PSs (cxOf CX P w K mg base N x (defScope st) f cdv A outer s H E) (defBody st) t ∧ t { nx := fun _ H' => Q .non H', rt := Q } (start N vs) H) : Df P w K mg base CX (k + 1) x sp := by
  obtain ⟨f, fd, hm, F⟩ := D
  refine ⟨f, hm, F.kp, ?_⟩
  have G : FnOk P w K mg base CX (k + 1) f fd ps sp := F.ok S len fun cdv A outer s H vs Q E hr h => hbody f cdv A outer s H vs Q E hr h
  refine (G.raw (F.bindsN hb) .nil).imp fun vs H Q E h => ?_
  rw [List.append_nil]
  exact h
/-- .. that lets nothing out -/
theorem DefAt.ok {st : Stmt} {N ps : List Str} (D : DefAt K mg x st) (S : FnScope N ps (defScope st))
    (hb : ∀ (kV doc pm : Value) (an : Option Addr) (cdv ct : Value) (us : List Value), us.length = ps.length → bindArgs (PySem.W.fnOf x x (defArgs st) (defBody st) (defScope st) .none kV doc pm an cdv ct) ⟨us, []⟩ = pure (ps.zip us))
    (len : ∀ vs H Q E, sp vs H Q E → vs.length = ps.length)
    (hbody : ∀ (f : Addr) (cdv : Value) (A : Around) (outer : List Env) (s : Shared) (H : Hp) (vs : List V) (Q : VK) (E : XK), Room k (A.deeper (envOfC x (defScope st) s.heap.objs.size f cdv)) → sp vs H Q E →
      ∃ t, PSs (cxOf CX0 P w K mg base N x (defScope st) f cdv A outer s H E).nox (defBody st) t ∧ t { nx := fun _ H' => Q .non H', rt := Q } (start N vs) H) : Df P w K mg base CX0 (k + 1) x sp := by
  refine D.okX S hb len fun f cdv A outer s H vs Q E hr h => ?_
  obtain ⟨t, h1, h2⟩ := hbody f cdv A outer s H vs Q E hr h
  exact ⟨t, h1.nox, h2⟩
end
/-! ### promises that give, leaving all that is known -/
def spG (G : List V → Hp → (V → Hp → Prop) → Prop) : Sp := fun vs H Q _ => ∃ R, G vs H R ∧ ∀ v H', Ex H H' → R v H' → Q v H'
def spV (G : List V → Hp → V → Prop) : Sp := fun vs H Q _ => ∃ z, G vs H z ∧ ∀ H', Ex H H' → Q z H'
theorem spV_g {G : List V → Hp → V → Prop} {vs : List V} {H : Hp} {z : V} (h : ∀ H1, Ex H H1 → G vs H1 z) : SpG (spV G) vs H (fun u _ => u = z) := fun H1 e Q q E =>
  ⟨z, h H1 e, fun H2 e2 => q z H2 e2 rfl⟩
theorem spG_g {G : List V → Hp → (V → Hp → Prop) → Prop} {vs : List V} {H : Hp} {R : V → Hp → Prop} (h : ∀ H1, Ex H H1 → G vs H1 R) : SpG (spG G) vs H R := fun H1 e Q q E =>
  ⟨R, h H1 e, fun v H2 e2 r => q v H2 e2 r⟩
section
variable {K : PySem.W.Frag} {σ : L2.St} {H : Hp} {te ta tb tc : TE} {v : V}
/-- isinstance of what is no object -/
theorem ev_isi {x c : V} {t u : Value} {b : Bool} (ha : Ev ta σ H x) (hb : Ev tb σ H c) (hc : ClsV c u) (ht : ∀ H1, Ex H H1 → TyX K H1 x t) (hk : PySem.W.kitOne K t u = some b) : Ev (tCB (rIsi K) (tCons ta (tCons tb tNil))) σ H (.bl b) := fun H1 e Q q =>
  ha H1 e _ fun H2 e2 => hb H2 (e.trans e2) _ fun H3 e3 => ⟨x, c, t, u, b, rfl, hc, ht H3 ((e.trans e2).trans e3), hk, q H3 (e2.trans e3)⟩
theorem ev_chain {r r' : R2} {x y z : V} {a b : Bool} (ha : Ev ta σ H x) (hb : Ev tb σ H y) (hr : RV r x y H (.bl a)) (hc : Ev tc σ H z) (hr' : RV r' y z H (.bl b)) : Ev (tChain r r' ta tb tc) σ H (.bl (a && b)) := fun H1 e Q q =>
  ha H1 e _ fun H2 e2 => hb H2 (e.trans e2) _ fun H3 e3 => hr H3 ((e.trans e2).trans e3) _ fun H4 e4 => ⟨a, rfl, by
    have e5 := ((e.trans e2).trans e3).trans e4
    have e6 := (e2.trans e3).trans e4
    cases a with
    | true =>
      rw [if_pos rfl]
      exact hc H4 e5 _ fun H5 f1 => hr' H5 (e5.trans f1) _ fun H6 f2 => q H6 ((e6.trans f1).trans f2)
    | false =>
      rw [if_neg Bool.false_ne_true]
      exact q H4 e6⟩
theorem ev_all {bs : List Bool} {P : List V → Hp → Prop} (h : EvLG te σ H P) (hP : ∀ us H1, P us H1 → us = bs.map V.bl) : Ev (tCB (rAll K) (tCons te tNil)) σ H (.bl (bs.all id)) := fun H1 e Q q =>
  h H1 e _ fun p H2 us hp e2 h2 hu => ⟨p, bs, rfl, .inl (.inl (by rw [← hP us H2 hu]; exact h2)), q H2 e2⟩
theorem ev_any {bs : List Bool} {P : List V → Hp → Prop} (h : EvLG te σ H P) (hP : ∀ us H1, P us H1 → us = bs.map V.bl) : Ev (tCB (rAny K) (tCons te tNil)) σ H (.bl (bs.any id)) := fun H1 e Q q =>
  h H1 e _ fun p H2 us hp e2 h2 hu => ⟨p, bs, rfl, .inl (.inl (by rw [← hP us H2 hu]; exact h2)), q H2 e2⟩
end
end Lp

set_option Elab.async false
set_option linter.all false
set_option maxRecDepth 100000
set_option maxHeartbeats 4000000
/-! Lostplates: comprehensions over what is known as a list. -/
namespace Lp
open PySem PySem.Spec PyProof.Rows L2
open Evl
theorem not_t {b : Bool} (h : (!b) = true) : b = false := by cases b with | false => rfl | true => cases h
theorem not_f {b : Bool} (h : (!b) = false) : b = true := by cases b with | true => rfl | false => cases h
theorem et_yes {σ : L2.St} {H : Hp} : EvT tYes σ H true := fun H1 _ Q q => q H1 (Ex.refl H1)
/-- the chosen ones by places, and by the list -/
theorem range_any {α : Type} (p : α → Bool) : ∀ (l : List α) (s : Nat) (f : Nat → Bool), (∀ i, f (s + i) = (l[i]?).any p) → ∀ {β : Type} (v : Nat → β) (g : α → β), (∀ i a, l[i]? = some a → v (s + i) = g a) →
    ((List.range' s l.length).filter f).map v = (l.filter p).map g
  | [], s, f, hf, β, v, g, hv => rfl
  | a :: l, s, f, hf, β, v, g, hv => by
    have ih := range_any p l (s + 1) f (fun i => by
      have := hf (i + 1)
      rw [Nat.add_assoc, Nat.add_comm 1 i]
      exact this) v g (fun i b hb => by
      have := hv (i + 1) b hb
      rw [Nat.add_assoc, Nat.add_comm 1 i]
      exact this)
    have h0 : f s = p a := hf 0
    have v0 : v s = g a := hv 0 a rfl
    rw [List.length_cons, List.range'_succ, List.filter_cons, List.filter_cons, h0]
    cases p a with
    | true => rw [if_pos rfl, if_pos rfl, List.map_cons, List.map_cons, v0, ih]
    | false => rw [if_neg Bool.false_ne_true, if_neg Bool.false_ne_true, ih]
theorem range_fil {α : Type} (p : α → Bool) (l : List α) {β : Type} (v : Nat → β) (g : α → β) (hv : ∀ i a, l[i]? = some a → v i = g a) :
    ((List.range l.length).filter fun i => (l[i]?).any p).map v = (l.filter p).map g := by
  rw [List.range_eq_range']
  exact range_any p l 0 _ (fun i => by rw [Nat.zero_add]) v g fun i a h => by
    rw [Nat.zero_add]
    exact hv i a h
/-- a relation by places, and by the list -/
theorem paired_range {α : Type} {R : α → V → Prop} : ∀ (l : List α) (f : Nat → Bool) (p : α → Bool) (us : List V) (s : Nat), (∀ i, f (s + i) = (l[i]?).any p) →
    Paired (fun i v => ∀ a, l[i - s]? = some a → R a v) ((List.range' s l.length).filter f) us → Paired (fun v a => R a v) us (l.filter p)
  | [], f, p, us, s, hf, h => by
    cases h
    exact .nil
  | a :: l, f, p, us, s, hf, h => by
    have h0 : f s = p a := hf 0
    have hf' : ∀ i, f (s + 1 + i) = (l[i]?).any p := fun i => by
      have := hf (i + 1)
      rw [Nat.add_assoc, Nat.add_comm 1 i]
      exact this
    have sub : ∀ {us : List V}, Paired (fun i v => ∀ b, (a :: l)[i - s]? = some b → R b v) ((List.range' (s + 1) l.length).filter f) us → Paired (fun i v => ∀ b, l[i - (s + 1)]? = some b → R b v) ((List.range' (s + 1) l.length).filter f) us := by
      have key : ∀ (m : List Nat), (∀ i ∈ m, s + 1 ≤ i) → ∀ {us : List V}, Paired (fun i v => ∀ b, (a :: l)[i - s]? = some b → R b v) m us → Paired (fun i v => ∀ b, l[i - (s + 1)]? = some b → R b v) m us := by
        intro m hm us q
        induction q with
        | nil => exact .nil
        | @cons i v m us h1 h2 ih =>
          refine .cons (fun b hb => h1 b ?_) (ih fun j hj => hm j (List.mem_cons_of_mem _ hj))
          have hi := hm i (List.mem_cons_self ..)
          have e : i - s = (i - (s + 1)) + 1 := by omega
          rw [e, List.getElem?_cons_succ]
          exact hb
      intro us q
      refine key _ (fun i hi => ?_) q
      have := (List.mem_filter.mp hi).1
      exact (List.mem_range'_1.mp this).1
    rw [List.length_cons, List.range'_succ, List.filter_cons, h0] at h
    rw [List.filter_cons]
    cases hp : p a with
    | true =>
      rw [hp, if_pos rfl] at h
      rw [if_pos rfl]
      cases h with
      | cons h1 h2 =>
        refine .cons (h1 a ?_) (paired_range l f p _ (s + 1) hf' (sub h2))
        rw [Nat.sub_self]
        rfl
    | false =>
      rw [hp, if_neg Bool.false_ne_true] at h
      rw [if_neg Bool.false_ne_true]
      exact paired_range l f p _ (s + 1) hf' (sub h)
section
variable {σ : L2.St} {H : Hp} {wi : TI} {Y : Nat → Hp → V → Hp → Prop} {g : TG} {tt : TT} {te : TE} {vs : List Nat}
/-- one turn of a comprehension over l: p tells what is chosen, R what is given -/
def LTurn {α : Type} (l : List α) (Y : Nat → Hp → V → Hp → Prop) (g : TG) (tt : TT) (te : TE) (vs : List Nat) (σ : L2.St) (p : α → Bool) (R : α → V → Hp → Prop) (H : Hp) : Prop :=
  ∀ i a H1 x H2, l[i]? = some a → Ex H H1 → Y i H1 x H2 → Ex H1 H2 ∧ ∃ σ2, wipe σ2 vs = wipe σ vs ∧ (∀ Kk : L2.St → Hp → Prop, (∀ H3, Ex H2 H3 → Kk σ2 H3) → g x (wipe σ vs) H2 Kk) ∧ EvT tt σ2 H2 (p a) ∧ (p a = true → EvG te σ2 H2 (R a))
theorem LTurn.lc {α : Type} {l : List α} {p : α → Bool} {R : α → V → Hp → Prop} (h : LTurn l Y g tt te vs σ p R H) : LcTurn Y g tt te vs σ l.length (fun i => (l[i]?).any p) (fun i v H' => ∀ a, l[i]? = some a → R a v H') H := by
  intro i H1 x H2 hi e hy
  have ha : l[i]? = some l[i] := List.getElem?_eq_getElem hi
  obtain ⟨h1, σ2, h2, h3, h4, h5⟩ := h i _ H1 x H2 ha e hy
  refine ⟨h1, σ2, h2, h3, ?_, fun hp => ?_⟩
  · show EvT tt σ2 H2 ((l[i]?).any p)
    rw [ha]
    exact h4
  · have hp' : p l[i] = true := by
      have hp : (l[i]?).any p = true := hp
      rw [ha] at hp
      exact hp
    exact (h5 hp').imp fun v H3 _ r b hb => by
      rw [ha] at hb
      rw [← Option.some.inj hb]
      exact r
/-- the new list's items stand in R to the chosen ones -/
theorem el_lst_ {α : Type} {l : List α} (hi : EvI wi σ H l.length Y) (hn : l.length ≤ 40000) (p : α → Bool) (R : α → V → Hp → Prop) (hR : ∀ a v H H', Kt H H' → R a v H → R a v H') (turn : LTurn l Y g tt te vs σ p R H) :
    EvLG (tLc wi g tt te vs) σ H (fun us H' => Paired (fun v a => R a v H') us (l.filter p)) := fun H0 e Q q =>
  el_lc hi hn _ _ (fun i v H1 H2 k r a ha => hR a v H1 H2 k (r a ha)) turn.lc H0 e Q fun D H2 us hD e2 h2 hP => q D H2 us hD e2 h2 (by
    rw [List.range_eq_range'] at hP
    exact paired_range l _ p us 0 (fun i => by rw [Nat.zero_add]) hP)
/-- .. they lean on nothing -/
theorem el_lstV {α : Type} {l : List α} (hi : EvI wi σ H l.length Y) (hn : l.length ≤ 40000) (p : α → Bool) (val : α → V) (turn : LTurn l Y g tt te vs σ p (fun a v _ => v = val a) H) :
    EvLG (tLc wi g tt te vs) σ H (fun us _ => us = (l.filter p).map val) := fun H0 e Q q =>
  el_lst_ hi hn p (fun a v _ => v = val a) (fun _ _ _ _ _ z => z) turn H0 e Q fun D H2 us hD e2 h2 hP => q D H2 us hD e2 h2 (by
    have : ∀ {us : List V} {m : List α}, Paired (fun v a => v = val a) us m → us = m.map val := by
      intro us m q
      induction q with
      | nil => rfl
      | cons h1 h2 ih => rw [h1, ih, List.map_cons]
    exact this hP)
/-- without a test -/
theorem el_lstM {α : Type} {l : List α} (hi : EvI wi σ H l.length Y) (hn : l.length ≤ 40000) (val : α → V) (turn : LTurn l Y g tt te vs σ (fun _ => true) (fun a v _ => v = val a) H) :
    EvLG (tLc wi g tt te vs) σ H (fun us _ => us = l.map val) := fun H0 e Q q =>
  el_lstV hi hn (fun _ => true) val turn H0 e Q fun D H2 us hD e2 h2 hP => q D H2 us hD e2 h2 (by
    rw [hP, List.filter_eq_self.mpr fun _ _ => rfl])
end
/-- a name as the target -/
theorem g_name {vs : List Nat} {σ : L2.St} {i : Nat} {x : V} {H2 : Hp} {Kk : L2.St → Hp → Prop} (h : ∀ H3, Ex H2 H3 → Kk ((wipe σ vs).set i (some x)) H3) : gName i x (wipe σ vs) H2 Kk := h H2 (Ex.refl H2)
/-- two names for a pair -/
theorem g_two {K : PySem.W.Frag} {σ : L2.St} {i j : Nat} {a : Addr} {x y : V} {H2 : Hp} {Kk : L2.St → Hp → Prop} (ha : SqT K H2 a [x, y]) (h : Kk ((σ.set i (some x)).set j (some y)) H2) : gTup K 2 (gCons (gName i) (gCons (gName j) gNil)) (.ref a) σ H2 Kk :=
  ⟨a, [x, y], rfl, ha, rfl, x, [y], rfl, y, [], rfl, rfl, h⟩
/-- three names -/
theorem g_three {K : PySem.W.Frag} {σ : L2.St} {i j k : Nat} {a : Addr} {x y z : V} {H2 : Hp} {Kk : L2.St → Hp → Prop} (ha : SqT K H2 a [x, y, z]) (h : Kk (((σ.set i (some x)).set j (some y)).set k (some z)) H2) :
    gTup K 3 (gCons (gName i) (gCons (gName j) (gCons (gName k) gNil))) (.ref a) σ H2 Kk :=
  ⟨a, [x, y, z], rfl, ha, rfl, x, [y, z], rfl, y, [z], rfl, z, [], rfl, rfl, h⟩
theorem ev_lenS {σ : L2.St} {H : Hp} {te : TE} {z : Str} (h : Ev te σ H (.str z)) (hz : z.length ≤ 100000) : Ev (tCB (fun xs H Q => ∃ z, xs = [.str z] ∧ z.length ≤ sizeLine ∧ Q (.int z.length) H) (tCons te tNil)) σ H (.int (z.length : Int)) := fun H1 e Q q =>
  h H1 e _ fun H2 e2 => ⟨z, rfl, sz_of hz, q H2 e2⟩
theorem ev_lenT {K : PySem.W.Frag} {σ : L2.St} {H : Hp} {te : TE} {p : Addr} {xs : List V} (h : Ev te σ H (.ref p)) (hs : SqT K H p xs) : Ev (tCB (rLenS K) (tCons te tNil)) σ H (.int (xs.length : Int)) := fun H1 e Q q =>
  h H1 e _ fun H2 e2 => ⟨p, xs, rfl, .inr (ex_t (e.trans e2) hs), q H2 e2⟩
theorem ei_strL {σ : L2.St} {H : Hp} {tl : TE} {z : Str} (h : Ev tl σ H (.str z)) : EvI (iStr tl) σ H (cs z).length (fun i H v H' => H' = H ∧ ∃ c, (cs z)[i]? = some c ∧ v = .str ⟨#[c]⟩) := by
  have e1 : (cs z).length = z.cps.size := Array.length_toList
  have e2 : ∀ i : Nat, (cs z)[i]? = z.cps[i]? := fun i => Array.getElem?_toList
  rw [e1]
  simp only [e2]
  exact ei_str h
theorem s_retG {σ : L2.St} {H : Hp} {te : TE} {G : V → Hp → Prop} {D : Ends} (h : EvG te σ H G) (k : ∀ v H1, Ex H H1 → G v H1 → D.rt v H1) : tRet te D σ H := h H (Ex.refl H) _ k
theorem s_asgG {σ : L2.St} {H : Hp} {te : TE} {G : V → Hp → Prop} {D : Ends} {i : Nat} (h : EvG te σ H G) (k : ∀ v H1, Ex H H1 → G v H1 → D.nx (σ.set i (some v)) H1) : tAsg te (gName i) D σ H := h H (Ex.refl H) _ k
theorem q_asgG {σ : L2.St} {H : Hp} {te : TE} {G : V → Hp → Prop} {D : Ends} {i : Nat} {tz : TS} (h : EvG te σ H G) (k : ∀ v H1, Ex H H1 → G v H1 → tz D (σ.set i (some v)) H1) : tSeq (tAsg te (gName i)) tz D σ H := s_asgG (D := { D with nx := tz D }) h k
/-- a new list, of which something is known -/
theorem q_asgLG {σ : L2.St} {H : Hp} {te : TE} {P : List V → Hp → Prop} {D : Ends} {i : Nat} {tz : TS} (h : EvLG te σ H P) (k : ∀ p H1 vs, H p = none → Ex H H1 → H1 p = some (.lst vs) → P vs H1 → tz D (σ.set i (some (.ref p))) H1) : tSeq (tAsg te (gName i)) tz D σ H := h H (Ex.refl H) _ k
theorem s_retLG {σ : L2.St} {H : Hp} {te : TE} {P : List V → Hp → Prop} {D : Ends} (h : EvLG te σ H P) (k : ∀ p H1 vs, H p = none → Ex H H1 → H1 p = some (.lst vs) → P vs H1 → D.rt (.ref p) H1) : tRet te D σ H := h H (Ex.refl H) _ k
theorem q_forI {σ : L2.St} {H : Hp} {wi : TI} {n : Nat} {Y : Nat → Hp → V → Hp → Prop} {g : TG} {tu tz : TS} {D : Ends} (hi : EvI wi σ H n Y) (Pv : Nat → L2.St → Hp → Prop) (h0 : ∀ H1, Ex H H1 → Pv 0 σ H1) (hE : ∀ i σ' H', Pv i σ' H' → Ex H H')
    (turn : ∀ i x σ' H' H'', i < n → Pv i σ' H' → Y i H' x H'' → g x σ' H'' fun σ2 H2 => tu { D with nx := Pv (i + 1), ct := Pv (i + 1), bk := tz D } σ2 H2)
    (hd : ∀ σ' H', Pv n σ' H' → tz D σ' H') : tSeq (tFor wi g tu) tz D σ H := s_forI (D := { D with nx := tz D }) hi Pv h0 hE turn hd
/-- the same where what is walked stood ahead of a list that grows -/
theorem s_forB {σ : L2.St} {HB H : Hp} {wi : TI} {n : Nat} {Y : Nat → Hp → V → Hp → Prop} {g : TG} {tu : TS} {D : Ends} (hi : EvI wi σ HB n Y) (e0 : Ex HB H) (Pv : Nat → L2.St → Hp → Prop) (h0 : ∀ H1, Ex H H1 → Pv 0 σ H1) (hE : ∀ i σ' H', Pv i σ' H' → Ex HB H')
    (turn : ∀ i x σ' H' H'', i < n → Pv i σ' H' → Y i H' x H'' → g x σ' H'' fun σ2 H2 => tu { D with nx := Pv (i + 1), ct := Pv (i + 1), bk := D.nx } σ2 H2)
    (hd : ∀ σ' H', Pv n σ' H' → D.nx σ' H') : tFor wi g tu D σ H := by
  refine hi H e0 _ fun J H1 G e1 w hG => ?_
  exact for_it w Pv (h0 H1 e1) (fun i σ' H' _ p => hG H' (hE i σ' H' p)) turn hd
theorem q_forB {σ : L2.St} {HB H : Hp} {wi : TI} {n : Nat} {Y : Nat → Hp → V → Hp → Prop} {g : TG} {tu tz : TS} {D : Ends} (hi : EvI wi σ HB n Y) (e0 : Ex HB H) (Pv : Nat → L2.St → Hp → Prop) (h0 : ∀ H1, Ex H H1 → Pv 0 σ H1) (hE : ∀ i σ' H', Pv i σ' H' → Ex HB H')
    (turn : ∀ i x σ' H' H'', i < n → Pv i σ' H' → Y i H' x H'' → g x σ' H'' fun σ2 H2 => tu { D with nx := Pv (i + 1), ct := Pv (i + 1), bk := tz D } σ2 H2)
    (hd : ∀ σ' H', Pv n σ' H' → tz D σ' H') : tSeq (tFor wi g tu) tz D σ H := s_forB (D := { D with nx := tz D }) hi e0 Pv h0 hE turn hd
theorem paired_refs {β : Type} {F : Addr → β → Prop} : ∀ {us : List V} {os : List β}, Paired (fun v o => ∃ c, v = V.ref c ∧ F c o) us os → ∃ as : List Addr, us = as.map V.ref ∧ Paired F as os
  | _, _, .nil => ⟨[], rfl, .nil⟩
  | _, _, .cons ⟨c, h1, h2⟩ t => by
    obtain ⟨as, e, q⟩ := paired_refs t
    exact ⟨c :: as, by rw [h1, e, List.map_cons], .cons h2 q⟩
/-- xs.append(e), of e something is known -/
theorem s_appG {K : PySem.W.Frag} {σ : L2.St} {H : Hp} {ta te : TE} {G : V → Hp → Prop} {D : Ends} {l : Addr} {xs : List V} (hl : H l = some (.lst xs)) (ha : Ev ta σ H (.ref l)) (h : EvG te σ H G) (hz : xs.length < 100000)
    (k : ∀ v H1, Ex H H1 → G v H1 → D.nx σ (upd H1 l (.lst (xs ++ [v])))) : tDrop (tBM K "list" rAppend ta (tCons te tNil)) D σ H := ha H (Ex.refl H) _ fun H1 e1 =>
  ⟨.inl ⟨rfl, xs, .inl (.inl (e1 l _ hl))⟩, h H1 e1 _ fun v H2 e2 hv => ⟨l, xs, v, rfl, rfl, e2 l _ (e1 l _ hl), sz_lt hz, k v H2 (e1.trans e2) hv⟩⟩
theorem ea_star {K : PySem.W.Frag} {σ : L2.St} {H : Hp} {te : TE} {t : TA} {p : Addr} {xs ys : List V} (h : Ev te σ H (.ref p)) (hs : SqT K H p xs) (hr : EvA t σ H ys) : EvA (StX.tStar K te t) σ H (xs ++ ys) := fun H1 e Q q =>
  h H1 e _ fun H2 e2 => ⟨p, xs, rfl, .inl (ex_t (e.trans e2) hs), hr H2 (e.trans e2) _ fun H3 e3 => q H3 (e2.trans e3)⟩
theorem ei_rng {σ : L2.St} {H : Hp} {ta : TA} {n : Nat} (h : EvA ta σ H [.int (n : Int)]) (hn : n ≤ 100000) : EvI (iRng1 ta) σ H n (YFn bx) := by
  have e : (fun i : Nat => V.int ((0 : Int) + (i : Int))) = bx := funext fun i => by
    rw [Int.zero_add]
    rfl
  rw [← e]
  exact ei_rng1 h hn
theorem all_map_bl {α : Type} (l : List α) (p : α → Bool) : (l.map p).all id = l.all p := by
  rw [List.all_map]
  rfl
theorem any_map_bl {α : Type} (l : List α) (p : α → Bool) : (l.map p).any id = l.any p := by
  rw [List.any_map]
  rfl
end Lp

set_option Elab.async false
set_option linter.all false
set_option maxRecDepth 100000
set_option maxHeartbeats 4000000
/-! Lostplates: the walks of is_number, is_text, does_match, owner_of. -/
namespace Lp
open PySem PySem.Spec PyProof.Rows L2
open Evl
theorem eq_sign (a b : Nat) : eqV (.str ⟨#[a]⟩) (.str ⟨#[b]⟩) = (a == b) := by
  show ((⟨#[a]⟩ : Str) == ⟨#[b]⟩) = (a == b)
  rw [Bool.eq_iff_iff, beq_iff_eq, beq_iff_eq]
  constructor
  · intro h
    have h2 := congrArg (fun z : Str => z.cps[0]?) h
    exact Option.some.inj h2
  · intro h
    rw [h]
theorem point_eq : ("." : Str) = ⟨#[46]⟩ := by decide +kernel
theorem in_point (a b : Nat) : inV (.str ⟨#[a]⟩) [.str ".", .str ⟨#[b]⟩] = (a == 46 || a == b) := by
  show (eqV (.str ".") (.str ⟨#[a]⟩) || (eqV (.str ⟨#[b]⟩) (.str ⟨#[a]⟩) || false)) = _
  rw [point_eq, eq_sign, eq_sign, Bool.or_false, Bool.eq_iff_iff, Bool.or_eq_true, Bool.or_eq_true, beq_iff_eq, beq_iff_eq, beq_iff_eq, beq_iff_eq]
  constructor <;> rintro (h | h) <;> first | exact .inl h.symm | exact .inr h.symm
abbrev sNumber : Stmt := top 22
abbrev sText : Stmt := top 23
abbrev sMatch : Stmt := top 30
abbrev sOwner : Stmt := top 33
section
variable {P : Program} {w : World} {K : PySem.W.Frag} {mg : Str → Option Value} {base : Heap}

/-! ### is_number: of ints -/
def gNumber : List V → Hp → V → Prop := fun vs _ z => ∃ i lo hi : Int, vs = [.int i, .int lo, .int hi] ∧ z = .bl (decide (lo ≤ i) && decide (i ≤ hi))
theorem scNumber : FnScope ["value", "smallest", "largest"] ["value", "smallest", "largest"] (defScope sNumber) := ⟨rfl, rfl, rfl, by decide +kernel, rfl, by decide +kernel, by decide +kernel⟩
theorem ok_number (D : DefAt K mg "is_number" sNumber) (T : Tx K mg) : Df P w K mg base CX0 1 "is_number" (spV gNumber) := by
  refine D.ok scNumber (fun _ _ _ _ _ _ us hl => match us, hl with | [_, _, _], _ => rfl) (fun vs H Q E h => ?_) (fun f cdv A outer s H vs Q E hr h => ?_)
  · obtain ⟨z, ⟨i, lo, hi, rfl, _⟩, _⟩ := h
    rfl
  · obtain ⟨z, ⟨i, lo, hi, rfl, rfl⟩, k⟩ := h
    refine ⟨_, pss_one (ps_ret (pe_and (pe_callB call_isi (by rfl) T.isi boot_isinstance (pa_cons (pv 0) (pa_cons (pe_bltn (by rfl) T.int boot_int (v := .ty "int") rfl) pa_nil)))
      (pe_and (pe_not (pe_callB call_isi (by rfl) T.isi boot_isinstance (pa_cons (pv 0) (pa_cons (pe_bltn (by rfl) T.bool boot_bool (v := .ty "bool") rfl) pa_nil))))
      (pe_one (pe_chain op_le op_le (pv 1) (pv 0) (pv 2)))))), ?_⟩
    exact s_ret (ev_andV (ev_isi (ev_var rfl) ev_c (ClsV.ty _) (fun _ _ => TyX.base (TyOf.int i)) (kit_ty (r := true) (by decide +kernel))) fun _ =>
      ev_andV (ev_notV (ev_isi (ev_var rfl) ev_c (ClsV.ty _) (fun _ _ => TyX.base (TyOf.int i)) (kit_ty (r := false) (by decide +kernel)))) fun _ =>
        ev_chain (ev_var rfl) (ev_var rfl) rv_I0 (ev_var rfl) rv_I0) k

/-! ### is_text: a text -/
def gText : List V → Hp → V → Prop := fun vs _ z => ∃ x y : Str, vs = [.str x, .str y] ∧ x.length ≤ 1000 ∧ z = .bl (decide (1 ≤ x.length ∧ x.length ≤ 8) && (cs x).all fun c => decide (c ∈ cs y))
theorem scText : FnScope ["value", "signs", "sign"] ["value", "signs"] (defScope sText) := ⟨rfl, rfl, rfl, by decide +kernel, rfl, by decide +kernel, by decide +kernel⟩
theorem ok_text (D : DefAt K mg "is_text" sText) (T : Tx K mg) : Df P w K mg base CX0 1 "is_text" (spV gText) := by
  refine D.ok scText (fun _ _ _ _ _ _ us hl => match us, hl with | [_, _], _ => rfl) (fun vs H Q E h => ?_) (fun f cdv A outer s H vs Q E hr h => ?_)
  · obtain ⟨z, ⟨x, y, rfl, _⟩, _⟩ := h
    rfl
  · obtain ⟨z, ⟨x, y, rfl, lx, rfl⟩, k⟩ := h
    refine ⟨_, pss_cons (ps_if (PW.pt (pw_or (pt_not (pt_val (pe_callB call_isi (by rfl) T.isi boot_isinstance (pa_cons (pv 0) (pa_cons (pe_bltn (by rfl) T.str boot_str (v := .ty "str") rfl) pa_nil)))))
        (pw_or1 (pt_not (pt_chain op_le op_le pe_int (pe_callB call_len_str (by rfl) T.len PySem.boot_len (pa_cons (pv 0) pa_nil)) (pe_gi (by rfl) T.maxLetters))))))
        (pss_one (ps_ret pe_bl)) pss_nil)
      (pss_one (ps_ret (pe_callB (cr_all rfl) (by rfl) T.all boot_all (pa_cons (pe_lc (own := [("sign", 2)]) (g := gName 2) (tt := tYes) rfl scText.nd (pi_str (pv 0)) (blkOk_by (N := ["value", "signs", "sign"]) (sc := defScope sText) (by decide +kernel))
        (fun _ _ _ _ _ => pg_name (i := 2) scText.nd rfl (Or.inl rfl)) (fun _ _ _ _ _ => pts_nil) (fun _ _ _ _ _ => pe_cmpR op_in_sign (pv 2) (pv 1) rfl)) pa_nil)))), ?_⟩
    refine q_when (b := !decide (1 ≤ x.length ∧ x.length ≤ 8)) (et_is (et_or (et_not (et_B (ev_isi (ev_var rfl) ev_c (ClsV.ty _) (fun _ _ => TyX.base (TyOf.str x)) (kit_ty (r := true) (by decide +kernel))))) fun _ =>
      et_not (et_test (ev_chain ev_c (ev_lenS (ev_var rfl) (by omega)) rv_I0 ev_c rv_I0))) ?_) (fun hb H1 e => ?_) (fun hb H1 e => ?_)
    · by_cases h1 : 1 ≤ x.length <;> by_cases h2 : x.length ≤ 8 <;> simp [h1, h2] <;> omega
    · have hb' : decide (1 ≤ x.length ∧ x.length ≤ 8) = false := not_t hb
      rw [hb'] at k
      exact s_ret ev_c fun H2 e2 => k H2 (e.trans e2)
    · have hb' : decide (1 ≤ x.length ∧ x.length ≤ 8) = true := not_f hb
      rw [hb'] at k
      have hl := of_decide_eq_true hb'
      refine s_ret (ev_all (bs := (cs x).map fun c => decide (c ∈ cs y)) (el_lstM (l := cs x) (ei_strL (ev_var rfl)) (by show (cs x).length ≤ 40000; have : (cs x).length = x.length := Array.length_toList; omega) (fun c => .bl (decide (c ∈ cs y))) ?_) fun us H2 hu => ?_) fun H2 e2 => ?_
      · rintro i c H2 u H3 hi e2 ⟨rfl, c', hc, rfl⟩
        have ec : c' = c := Option.some.inj (hc.symm.trans hi)
        subst ec
        exact ⟨Ex.refl _, [some (.str x), some (.str y), some (.str ⟨#[c']⟩)], rfl, fun Kk q => q _ (Ex.refl _), et_yes, fun _ => Evl_g (ev_op (ev_var rfl) (ev_var rfl) fun H4 e4 Q q => ⟨c', y, rfl, rfl, q H4 (Ex.refl _)⟩)⟩
      · rw [hu, List.map_map]
        rfl
      · rw [all_map_bl]
        exact k H2 (e.trans e2)
/-! ### does_match -/
def gMatch : List V → Hp → V → Prop := fun vs _ z => ∃ x y : Str, vs = [.str x, .str y] ∧ x.length ≤ 1000 ∧ y.length ≤ 1000 ∧ z = .bl (mat (cs x) (cs y))
theorem scMatch : FnScope ["plate", "name", "sign", "letter"] ["plate", "name"] (defScope sMatch) := ⟨rfl, rfl, rfl, by decide +kernel, rfl, by decide +kernel, by decide +kernel⟩
theorem ok_match (D : DefAt K mg "does_match" sMatch) (T : Tx K mg) : Df P w K mg base CX0 1 "does_match" (spV gMatch) := by
  refine D.ok scMatch (fun _ _ _ _ _ _ us hl => match us, hl with | [_, _], _ => rfl) (fun vs H Q E h => ?_) (fun f cdv A outer s H vs Q E hr h => ?_)
  · obtain ⟨z, ⟨x, y, rfl, _⟩, _⟩ := h
    rfl
  · obtain ⟨z, ⟨x, y, rfl, lx, ly, rfl⟩, k⟩ := h
    refine ⟨_, pss_cons (ps_if (pt_cmpR op_ne (pe_callB call_len_str (by rfl) T.len PySem.boot_len (pa_cons (pv 0) pa_nil)) (pe_callB call_len_str (by rfl) T.len PySem.boot_len (pa_cons (pv 1) pa_nil)) (nomark _)) (pss_one (ps_ret pe_bl)) pss_nil)
      (pss_one (ps_ret (pe_callB (cr_all rfl) (by rfl) T.all boot_all (pa_cons (pe_lc (own := [("sign", 2), ("letter", 3)]) (g := gTup K 2 (gCons (gName 2) (gCons (gName 3) gNil))) (te := tOp (rIn K false) (tVar 2) (tTup (tCons (tC (.str ".")) (tCons (tVar 3) tNil)))) (tt := tYes) rfl scMatch.nd (pi_zipS (by rfl) T.zip (pa_cons (pv 0) (pa_cons (pv 1) pa_nil))) (blkOk_by (N := ["plate", "name", "sign", "letter"]) (sc := defScope sMatch) (by decide +kernel))
        (fun _ _ _ _ _ => pg_tup rfl (pgs_cons (pg_name (i := 2) scMatch.nd rfl (Or.inl rfl)) (pgs_cons (pg_name (i := 3) scMatch.nd rfl (Or.inl rfl)) pgs_nil))) (fun _ _ _ _ _ => pts_nil)
        (fun _ _ _ _ _ => pe_cmpR op_in_seq (pv 2) (pe_tup (pa_cons (pe_gs (by rfl) T.point) (pa_cons (pv 3) pa_nil))) rfl)) pa_nil)))), ?_⟩
    have lx' : (cs x).length = x.length := Array.length_toList
    have ly' : (cs y).length = y.length := Array.length_toList
    refine q_when (b := !decide (V.int (x.length : Int) = V.int (y.length : Int))) (et_test (ev_op (ev_lenS (ev_var rfl) (by omega)) (ev_lenS (ev_var rfl) (by omega)) (rv_ne rfl))) (fun hb H1 e => ?_) (fun hb H1 e => ?_)
    · have hb' := of_decide_eq_false (not_t hb)
      have em : mat (cs x) (cs y) = false := by
        unfold mat
        have : ((cs x).length == (cs y).length) = false := by
          rw [beq_eq_false_iff_ne]
          intro q
          exact hb' (by rw [← lx', ← ly', q])
        rw [this, Bool.false_and]
      rw [em] at k
      exact s_ret ev_c fun H2 e2 => k H2 (e.trans e2)
    · have hb' := V.int.inj (of_decide_eq_true (not_f hb))
      have hll : (cs x).length = (cs y).length := by omega
      have hn : ((cs x).zip (cs y)).length = min x.cps.size y.cps.size := List.length_zip
      refine s_ret (ev_all (bs := ((cs x).zip (cs y)).map fun q => q.1 == 46 || q.1 == q.2) (el_lstM (l := (cs x).zip (cs y)) (by rw [hn]; exact ei_zipS (ea_cons (ev_var rfl) (ea_cons (ev_var rfl) ea_nil))) (by rw [List.length_zip]; omega) (fun q => .bl (q.1 == 46 || q.1 == q.2)) ?_) fun us H2 hu => ?_) fun H2 e2 => ?_
      · rintro i ⟨c, d⟩ H2 u H3 hi e2 ⟨T', x1, y1, rfl, hT, rfl, a', b', ha, hb2, rfl, rfl⟩
        have hi' := List.getElem?_zip_eq_some.mp hi
        have ea : a' = c := Option.some.inj ((Array.getElem?_toList (xs := x.cps) (i := i)).trans ha |>.symm.trans hi'.1)
        have eb : b' = d := Option.some.inj ((Array.getElem?_toList (xs := y.cps) (i := i)).trans hb2 |>.symm.trans hi'.2)
        subst ea eb
        refine ⟨Ex.new hT, [some (.str x), some (.str y), some (.str ⟨#[a']⟩), some (.str ⟨#[b']⟩)], rfl, fun Kk q => g_two (.inl (.inl upd_same)) (q _ (Ex.refl _)), et_yes, fun _ => Evl_g (ev_is (ev_inU (ev_var rfl) (eu_tup (ea_cons ev_c (ea_cons (ev_var rfl) ea_nil)) (by show 2 ≤ 100000; decide)) rfl rfl) ?_)⟩
        rw [in_point]
      · rw [hu, List.map_map]
        rfl
      · rw [all_map_bl]
        have em : mat (cs x) (cs y) = ((cs x).zip (cs y)).all fun q => q.1 == 46 || q.1 == q.2 := by
          unfold mat
          rw [hll, beq_self_eq_true, Bool.true_and]
        rw [← em]
        exact k H2 (e.trans e2)
end
end Lp

set_option Elab.async false
set_option linter.all false
set_option maxRecDepth 100000
set_option maxHeartbeats 4000000
/-! Lostplates: the walks of owner_of, handed_on, way_of, answer_of. -/
namespace Lp
open PySem PySem.Spec PyProof.Rows L2
open Evl
abbrev sHanded : Stmt := top 38
abbrev sWay : Stmt := top 39
abbrev sAnswer : Stmt := top 40
/-- the name behind a box -/
def own (names : List Str) (o : List Nat) (b : Nat) : V := match o.findIdx? (· == b) with
  | none => .non
  | some k => .str (names.getD k Str.empty)
/-- what a household does with a letter -/
def handV (m : Man) (j b : Nat) : V := match m with
  | .back => .str "back"
  | .keep => .str "keep"
  | .guess g => match g[j]? with
    | some (some c) => if c = b then .str "back" else bx c
    | _ => .str "back"
theorem hand_none {g : List (Option Nat)} {j b : Nat} (h : g[j]? = some none) : handV (.guess g) j b = .str "back" := by
  show (match g[j]? with | some (some c) => if c = b then V.str "back" else bx c | _ => V.str "back") = _
  rw [h]
theorem hand_same {g : List (Option Nat)} {j b : Nat} (h : g[j]? = some (some b)) : handV (.guess g) j b = .str "back" := by
  show (match g[j]? with | some (some c) => if c = b then V.str "back" else bx c | _ => V.str "back") = _
  rw [h]
  exact if_pos rfl
theorem hand_goes {g : List (Option Nat)} {j b c : Nat} (h : g[j]? = some (some c)) (hc : ¬ c = b) : handV (.guess g) j b = bx c := by
  show (match g[j]? with | some (some c) => if c = b then V.str "back" else bx c | _ => V.str "back") = _
  rw [h]
  exact if_neg hc
def wd : Wd → Str
  | .kept => "kept"
  | .lies => "lies"
  | .back => "back"
  | .round => "round"
theorem ev_slot {C p dx : Addr} {i : Nat} {te : TE} {σ : L2.St} {H : Hp} {vs : List (Option V)} {v : V} (h : Ev te σ H (.ref p)) (hs : SlAt H p C dx vs) (hv : vs[i]? = some (some v)) : Ev (tSlot C i te) σ H v := fun H1 e Q q =>
  h H1 e _ fun H2 e2 => ⟨p, dx, vs, v, rfl, slAt_ex (e.trans e2) hs, hv, q H2 e2⟩
theorem ev_dget {d : Addr} {kvs : List (Key × V)} {k : Key} {v : V} {td ty : TE} {σ : L2.St} {H : Hp} (h : Ev td σ H (.ref d)) (hy : Ev ty σ H (kV k)) (hd : H d = some (.dK kvs)) (hv : valV kvs k = some v) : Ev (tDGet td ty) σ H v := fun H1 e Q q =>
  h H1 e _ fun H2 e2 => hy H2 (e.trans e2) _ fun H3 e3 => ⟨d, v, rfl, by rw [← hv]; exact DGet.k (e3 _ _ (e2 _ _ (e _ _ hd))), q H3 (e2.trans e3)⟩
theorem rv_isN {x : V} {H : Hp} : RV (fun x y H Q => y = .non ∧ Q (.bl (decide (x = .non))) H) x .non H (.bl (decide (x = .non))) := fun H1 e Q q => ⟨rfl, q H1 (Ex.refl H1)⟩
theorem flat_str (l : List Str) : (l.map V.str).all flatV = true := by
  rw [List.all_map]
  exact List.all_eq_true.mpr fun _ _ => rfl
theorem eq_str (a b : Str) : eqV (.str a) (.str b) = (a == b) := rfl
/-- the first place of a name -/
theorem str_first {l : List Str} (nd : l.Nodup) {j : Nat} {x : Str} (h : l[j]? = some x) : ∀ (m : Nat) (z' : V), m < j → (l.map V.str)[m]? = some z' → eqV z' (.str x) = false := by
  intro m z hm hz
  rw [List.getElem?_map] at hz
  obtain ⟨y, hy, rfl⟩ := Option.map_eq_some_iff.mp hz
  rw [eq_str]
  cases hc : y == x with
  | false => rfl
  | true =>
    rw [beq_iff_eq.mp hc] at hy
    have := nd_at nd hy h
    omega
section
variable {P : Program} {w : World} {K : PySem.W.Frag} {mg : Str → Option Value} {base : Heap} {C : Addr}

/-! ### owner_of -/
def gOwner (C : Addr) : List V → Hp → V → Prop := fun vs H z => ∃ (p a : Addr) (h : Hs) (o : List Nat) (b : Nat), vs = [.ref p, .ref a, bx b] ∧ HouseAt C H p h ∧ OrdF H a o ∧ o.length ≤ h.names.length ∧ z = own h.names o b
theorem scOwner : FnScope ["house", "order", "box"] ["house", "order", "box"] (defScope sOwner) := ⟨rfl, rfl, rfl, by decide +kernel, rfl, by decide +kernel, by decide +kernel⟩
theorem ok_owner (D : DefAt K mg "owner_of" sOwner) (T : Tx K mg) (Hh : Hc K mg C) : Df P w K mg base CX0 1 "owner_of" (spV (gOwner C)) := by
  refine D.ok scOwner (fun _ _ _ _ _ _ us hl => match us, hl with | [_, _, _], _ => rfl) (fun vs H Q E h => ?_) (fun f cdv A outer s H vs Q E hr h => ?_)
  · obtain ⟨z, ⟨p, a, h, o, b, rfl, _⟩, _⟩ := h
    rfl
  · obtain ⟨z, ⟨p, a, h, o, b, rfl, hh, ho, hl, rfl⟩, k⟩ := h
    obtain ⟨p0, S0⟩ := Hh.s0
    refine ⟨_, pss_one (ps_ret (pe_ifExp (pt_cmpR op_in_seq (pv 2) (pv 1) rfl) (pe_ix ix_tup (pe_slot Hh.cl S0 (pv 0)) (pe_bmT PySem.F.slot_tuple_index PySem.F.type_tuple_index mt_tupIx (pv 1) (pa_cons (pv 2) pa_nil)) (fun _ _ => rfl)) pe_non)), ?_⟩
    obtain ⟨dx, nT, sT, wD, h1, h2, h3, h4⟩ := hh
    refine s_ret (ev_if (et_test (ev_op (ev_var rfl) (ev_var rfl) (rv_isT (FT.sq ho) rfl (flat_bx o)))) (fun hb => ?_) (fun hb => ?_)) k
    · rw [in_bx] at hb
      have hs : (o.findIdx? (· == b)).isSome = true := find_mem.trans hb
      obtain ⟨k, hk⟩ := Option.isSome_iff_exists.mp hs
      obtain ⟨f1, f2, f3⟩ := find_first hk
      have hko : k < o.length := (List.getElem?_eq_some_iff.mp (find_at hk)).1
      have hkn : k < h.names.length := by omega
      refine ev_op (ev_slot (ev_var rfl) h1 rfl) (ev_tix (ev_var rfl) (ev_var rfl) ho rfl (flat_bx o) f1 f2 f3) (rv_ixT (FT.sq h2) (atI_nat (j := k) ?_))
      show _ = some (own h.names o b)
      unfold own
      rw [hk, List.getElem?_map, List.getElem?_eq_getElem hkn]
      show some (V.str _) = some (V.str (h.names.getD k Str.empty))
      rw [List.getD_eq_getElem?_getD, List.getElem?_eq_getElem hkn]
      rfl
    · rw [in_bx] at hb
      have hs : (o.findIdx? (· == b)).isSome = false := find_mem.trans hb
      have hn : o.findIdx? (· == b) = none := by
        cases hx : o.findIdx? (· == b) with
        | none => rfl
        | some k => rw [hx] at hs; cases hs
      refine ev_is ev_c ?_
      unfold own
      rw [hn]

/-! ### handed_on -/
def gHanded (C : Addr) : List V → Hp → V → Prop := fun vs H z => ∃ (p : Addr) (h : Hs) (k j b : Nat) (x y : Str) (m : Man), vs = [.ref p, .str x, .str y, bx b] ∧ HouseAt C H p h ∧ h.Ok ∧ h.names[k]? = some x ∧ h.names[j]? = some y ∧ h.ways[k]? = some m ∧ z = handV m j b
theorem scHanded : FnScope ["house", "owner", "name", "box", "manner", "goal"] ["house", "owner", "name", "box"] (defScope sHanded) := ⟨rfl, rfl, rfl, by decide +kernel, rfl, by decide +kernel, by decide +kernel⟩
theorem ok_handed (D : DefAt K mg "handed_on" sHanded) (T : Tx K mg) (Hh : Hc K mg C) : Df P w K mg base CX0 1 "handed_on" (spV (gHanded C)) := by
  refine D.ok scHanded (fun _ _ _ _ _ _ us hl => match us, hl with | [_, _, _, _], _ => rfl) (fun vs H Q E h => ?_) (fun f cdv A outer s H vs Q E hr h => ?_)
  · obtain ⟨z, ⟨p, h, k, j, b, x, y, m, rfl, _⟩, _⟩ := h
    rfl
  · obtain ⟨z, ⟨p, h, k, j, b, x, y, m, rfl, hh, O, hk, hj, hm, rfl⟩, kk⟩ := h
    obtain ⟨p0, S0⟩ := Hh.s0
    obtain ⟨p2, S2⟩ := Hh.s2
    refine ⟨_, pss_cons (ps_set (i := 4) scHanded.nd rfl (Or.inl rfl) (pe_dget (hu_of hr) (pe_slot Hh.cl S2 (pv 0)) (pv 1) (fun _ _ => rfl)))
      (pss_cons (ps_if (pt_not (pt_val (pe_callB call_isi (by rfl) T.isi boot_isinstance (pa_cons (pv 4) (pa_cons (pe_bltn (by rfl) T.tuple boot_tuple (v := .ty "tuple") rfl) pa_nil))))) (pss_one (ps_ret (pv 4))) pss_nil)
      (pss_cons (ps_set (i := 5) scHanded.nd rfl (Or.inl rfl) (pe_ix ix_tup (pv 4) (pe_bmT PySem.F.slot_tuple_index PySem.F.type_tuple_index mt_tupIx (pe_slot Hh.cl S0 (pv 0)) (pa_cons (pv 2) pa_nil)) (fun _ _ => rfl)))
      (pss_one (ps_ret (pe_ifExp (PW.pt (pw_or (pt_cmpR op_isN (pv 5) pe_non (nomark _)) (pw_or1 (pt_cmpR op_eq (pv 5) (pv 3) (nomark _))))) (pe_gs (by rfl) T.back) (pv 5)))))), ?_⟩
    obtain ⟨dx, nT, sT, wD, h1, h2, h3, vs, h4, h5⟩ := hh
    obtain ⟨v, hv, hmv⟩ := paired_at2 h5 hm
    refine q_asg (ev_dget (k := Sum.inr x) (ev_slot (ev_var rfl) h1 rfl) (ev_var rfl) h4 (kvW_val O.nd hk hv)) fun H1 e1 => ?_
    cases m with
    | back =>
      obtain rfl : v = .str "back" := hmv
      refine q_when (et_not (et_B (ev_isi (b := false) (ev_var rfl) ev_c (ClsV.ty _) (fun _ _ => TyX.base (TyOf.str _)) (kit_ty (by decide +kernel))))) (fun _ H2 e2 => ?_) (fun hb => by cases hb)
      exact s_ret (ev_var rfl) fun H3 e3 => kk H3 ((e1.trans e2).trans e3)
    | keep =>
      obtain rfl : v = .str "keep" := hmv
      refine q_when (et_not (et_B (ev_isi (b := false) (ev_var rfl) ev_c (ClsV.ty _) (fun _ _ => TyX.base (TyOf.str _)) (kit_ty (by decide +kernel))))) (fun _ H2 e2 => ?_) (fun hb => by cases hb)
      exact s_ret (ev_var rfl) fun H3 e3 => kk H3 ((e1.trans e2).trans e3)
    | guess g =>
      obtain ⟨a, rfl, ha⟩ := hmv
      refine q_when (et_not (et_B (ev_isi (b := true) (ev_var rfl) ev_c (ClsV.ty _) (fun H2 e2 => TyX.base (TyOf.tup (e2 _ _ (e1 _ _ ha)))) (kit_ty (by decide +kernel))))) (fun hb => by cases hb) (fun _ H2 e2 => ?_)
      have hjn : j < h.names.length := (List.getElem?_eq_some_iff.mp hj).1
      have hjg : j < g.length := by rw [O.gl k g hm]; exact hjn
      have e12 := e1.trans e2
      refine q_asg (v := ob (g[j])) (ev_op (ev_var rfl) (ev_tix (z := .str y) (ev_slot (ev_var rfl) (slAt_ex e12 h1) rfl) (ev_var rfl) (h2.ex e12) rfl (flat_str _) (by rw [List.getElem?_map, hj]; rfl) (beq_self_eq_true y) (str_first O.nd hj))
        (rv_ixT (.inl (.inl (e12 _ _ ha))) (atI_nat (by rw [List.getElem?_map, List.getElem?_eq_getElem hjg]; rfl)))) fun H3 e3 => ?_
      have hg : g[j]? = some g[j] := List.getElem?_eq_getElem hjg
      cases hc : g[j] with
      | none =>
        refine s_ret (ev_if (b := true) (et_or (a := true) (b := false) (et_test (ev_is (ev_op (ev_var rfl) ev_c rv_isN) rfl)) (fun hb => by cases hb)) (fun _ => ev_c) (fun hb => by cases hb)) fun H4 e4 => ?_
        have q := kk H4 ((e12.trans e3).trans e4)
        rw [hand_none (by rw [hg, hc])] at q
        exact q
      | some c =>
        by_cases hcb : c = b
        · subst hcb
          refine s_ret (ev_if (b := true) (et_or (a := false) (b := true) (et_test (ev_is (ev_op (ev_var rfl) ev_c rv_isN) rfl)) (fun _ => et_test (ev_is (ev_op (ev_var rfl) (ev_var rfl) (rv_eq rfl)) (by rw [decide_eq_true (show ob (some c) = bx c from rfl)])))) (fun _ => ev_c) (fun hb => by cases hb)) fun H4 e4 => ?_
          have q := kk H4 ((e12.trans e3).trans e4)
          rw [hand_same (by rw [hg, hc])] at q
          exact q
        · refine s_ret (ev_if (b := false) (et_or (a := false) (b := false) (et_test (ev_is (ev_op (ev_var rfl) ev_c rv_isN) rfl)) (fun _ => et_test (ev_is (ev_op (ev_var rfl) (ev_var rfl) (rv_eq rfl)) (by rw [decide_eq_false (show ¬ ob (some c) = bx b from fun q => hcb (bx_inj q))])))) (fun hb => by cases hb) (fun _ => ev_var rfl)) fun H4 e4 => ?_
          have q := kk H4 ((e12.trans e3).trans e4)
          rw [hand_goes (by rw [hg, hc]) hcb] at q
          exact q
/-! ### way_of -/
/-- (the boxes met, the word) -/
def WayR (met : List Nat) (u : Wd) : V → Hp → Prop := fun v H => ∃ t m : Addr, v = .ref t ∧ H t = some (.tup [.ref m, .str (wd u)]) ∧ H m = some (.tup (met.map bx))
def gWay (C : Addr) : List V → Hp → (V → Hp → Prop) → Prop := fun vs H R => ∃ (p a : Addr) (h : Hs) (o : List Nat) (j b : Nat) (y : Str), vs = [.ref p, .ref a, .str y, bx b] ∧ HouseAt C H p h ∧ h.Ok ∧ OrdF H a o ∧ o.length = h.names.length ∧ h.names[j]? = some y ∧ b < h.n ∧
  R = WayR (way h.ways o j b).1 (way h.ways o j b).2
theorem scWay : FnScope ["house", "order", "name", "box", "boxes", "here", "owner", "goal"] ["house", "order", "name", "box"] (defScope sWay) := ⟨rfl, rfl, rfl, by decide +kernel, rfl, by decide +kernel, by decide +kernel⟩
/-- (tuple(boxes), WORD) -/
theorem eg_way {σ : L2.St} {H : Hp} {ta tb : TE} {l : Addr} {met : List Nat} {u : Wd} (ha : Ev ta σ H (.ref l)) (hb : Ev tb σ H (.str (wd u))) (hl : H l = some (.lst (met.map bx))) :
    EvG (tTup (tCons (tCB (fun xs H Q => ∃ p ys, xs = [.ref p] ∧ ((SqL K H p ys ∧ ∀ l, H l = none → Q (.ref l) (upd H l (.tup ys))) ∨ (SqT K H p ys ∧ Q (.ref p) H))) (tCons ta tNil)) (tCons tb tNil))) σ H (WayR met u) := fun H1 e Q q =>
  ha H1 e _ fun H2 e2 => ⟨l, _, rfl, .inl ⟨.inl (.inl (e2 _ _ (e _ _ hl))), fun m hm => hb _ ((e.trans e2).trans (Ex.new hm)) _ fun H3 e3 => ⟨by show 2 ≤ sizeLine; decide, fun t ht =>
    q _ _ ((e2.trans (Ex.new hm)).trans (e3.trans (Ex.new ht))) ⟨t, m, rfl, upd_same, (e3.trans (Ex.new ht)) _ _ upd_same⟩⟩⟩⟩
theorem wayF_end {ways : List Man} {o : List Nat} {j f c : Nat} {m0 : List Nat} {u : Wd} (h : step ways o j c = .inl u) : wayF ways o j (f + 1) (m0 ++ [c]) = (m0 ++ [c], u) := by
  have hl : (m0 ++ [c]).getLastD 0 = c := by simp
  show (match step ways o j ((m0 ++ [c]).getLastD 0) with | .inl w => (m0 ++ [c], w) | .inr b => if (m0 ++ [c]).contains b then (m0 ++ [c], .round) else wayF ways o j f ((m0 ++ [c]) ++ [b])) = _
  rw [hl, h]
theorem wayF_next {ways : List Man} {o : List Nat} {j f c b : Nat} {m0 : List Nat} (h : step ways o j c = .inr b) : wayF ways o j (f + 1) (m0 ++ [c]) = if (m0 ++ [c]).contains b then (m0 ++ [c], .round) else wayF ways o j f ((m0 ++ [c]) ++ [b]) := by
  have hl : (m0 ++ [c]).getLastD 0 = c := by simp
  show (match step ways o j ((m0 ++ [c]).getLastD 0) with | .inl w => (m0 ++ [c], w) | .inr b => if (m0 ++ [c]).contains b then (m0 ++ [c], .round) else wayF ways o j f ((m0 ++ [c]) ++ [b])) = _
  rw [hl, h]
theorem step_none {ways : List Man} {o : List Nat} {j c : Nat} (h : o.findIdx? (· == c) = none) : step ways o j c = .inl .lies := by
  unfold step
  rw [h]
theorem step_own {ways : List Man} {o : List Nat} {j c : Nat} (h : o.findIdx? (· == c) = some j) : step ways o j c = .inl .kept := by
  unfold step
  rw [h]
  exact if_pos rfl
/-- a household that hands on: what it says -/
def stepM (m : Man) (j c : Nat) : Sum Wd Nat := match m with
  | .back => .inl .back
  | .keep => .inl .lies
  | .guess g => match g[j]? with
    | some (some b) => if b = c then .inl .back else .inr b
    | _ => .inl .back
theorem step_other {ways : List Man} {o : List Nat} {j c k : Nat} {m : Man} (h : o.findIdx? (· == c) = some k) (hk : ¬ k = j) (hm : ways[k]? = some m) : step ways o j c = stepM m j c := by
  unfold step
  rw [h]
  show (if k = j then _ else _) = _
  rw [if_neg hk, hm]
  cases m <;> rfl
/-- what is said, as the program says it -/
theorem hand_says (m : Man) (j c : Nat) : (stepM m j c = .inl .back ∧ handV m j c = .str "back") ∨ (stepM m j c = .inl .lies ∧ handV m j c = .str "keep") ∨ ∃ b, stepM m j c = .inr b ∧ handV m j c = bx b := by
  cases m with
  | back => exact .inl ⟨rfl, rfl⟩
  | keep => exact .inr (.inl ⟨rfl, rfl⟩)
  | guess g =>
    cases hg : g[j]? with
    | none =>
      refine .inl ⟨?_, ?_⟩
      · show (match g[j]? with | some (some b) => if b = c then (.inl .back : Sum Wd Nat) else .inr b | _ => .inl .back) = _
        rw [hg]
      · show (match g[j]? with | some (some b) => if b = c then V.str "back" else bx b | _ => V.str "back") = _
        rw [hg]
    | some x =>
      cases x with
      | none =>
        refine .inl ⟨?_, hand_none hg⟩
        show (match g[j]? with | some (some b) => if b = c then (.inl .back : Sum Wd Nat) else .inr b | _ => .inl .back) = _
        rw [hg]
      | some b =>
        by_cases hb : b = c
        · subst hb
          refine .inl ⟨?_, hand_same hg⟩
          show (match g[j]? with | some (some d) => if d = b then (.inl .back : Sum Wd Nat) else .inr d | _ => .inl .back) = _
          rw [hg]
          exact if_pos rfl
        · refine .inr (.inr ⟨b, ?_, hand_goes hg hb⟩)
          show (match g[j]? with | some (some b) => if b = c then (.inl .back : Sum Wd Nat) else .inr b | _ => .inl .back) = _
          rw [hg]
          exact if_neg hb
theorem ok_way (D : DefAt K mg "way_of" sWay) (T : Tx K mg) (Hh : Hc K mg C) (F1 : Df P w K mg base CX0 1 "owner_of" (spV (gOwner C))) (F2 : Df P w K mg base CX0 1 "handed_on" (spV (gHanded C))) : Df P w K mg base CX0 2 "way_of" (spG (gWay C)) := by
  refine D.ok scWay (fun _ _ _ _ _ _ us hl => match us, hl with | [_, _, _, _], _ => rfl) (fun vs H Q E h => ?_) (fun f cdv A outer s H vs Q E hr h => ?_)
  · obtain ⟨z, ⟨p, a, h, o, j, b, y, rfl, _⟩, _⟩ := h
    rfl
  · obtain ⟨z, ⟨p, a, h, o, j, b, y, rfl, hh, O, ho, hol, hj, hb, rfl⟩, kk⟩ := h
    refine ⟨_, pss_cons (ps_set (i := 4) scWay.nd rfl (Or.inl rfl) (pe_lst (pa_cons (pv 3) pa_nil)))
      (pss_one (ps_while PassesOwn.never (pt_val pe_bl)
        (pss_cons (ps_set (i := 5) scWay.nd rfl (Or.inl rfl) (pe_ix ix_list (pv 4) (pe_un un_neg pe_int) (fun _ _ => rfl)))
        (pss_cons (ps_set (i := 6) scWay.nd rfl (Or.inl rfl) (pe_df F1 hr (by rfl) pass0 (pa_cons (pv 0) (pa_cons (pv 1) (pa_cons (pv 5) pa_nil)))))
        (pss_cons (ps_if (pt_cmpR op_isN (pv 6) pe_non (nomark _)) (pss_one (ps_ret (pe_tup (pa_cons (pe_callTy call_tuple_of (by rfl) T.tuple boot_tuple (pa_cons (pv 4) pa_nil)) (pa_cons (pe_gs (by rfl) T.lies) pa_nil))))) pss_nil)
        (pss_cons (ps_if (pt_cmpR op_eq (pv 6) (pv 2) (nomark _)) (pss_one (ps_ret (pe_tup (pa_cons (pe_callTy call_tuple_of (by rfl) T.tuple boot_tuple (pa_cons (pv 4) pa_nil)) (pa_cons (pe_gs (by rfl) T.kept) pa_nil))))) pss_nil)
        (pss_cons (ps_set (i := 7) scWay.nd rfl (Or.inl rfl) (pe_df F2 hr (by rfl) pass0 (pa_cons (pv 0) (pa_cons (pv 6) (pa_cons (pv 2) (pa_cons (pv 5) pa_nil))))))
        (pss_cons (ps_if (pt_cmpR op_in_seq (pv 7) (pe_tup (pa_cons (pe_gs (by rfl) T.back) (pa_cons (pe_gs (by rfl) T.keep) pa_nil))) rfl) (pss_one (ps_ret (pe_tup (pa_cons (pe_callTy call_tuple_of (by rfl) T.tuple boot_tuple (pa_cons (pv 4) pa_nil)) (pa_cons (pe_ifExp (pt_cmpR op_eq (pv 7) (pe_gs (by rfl) T.back) (nomark _)) (pe_gs (by rfl) T.back) (pe_gs (by rfl) T.lies)) pa_nil))))) pss_nil)
        (pss_cons (ps_if (pt_cmpR op_in_seq (pv 7) (pv 4) rfl) (pss_one (ps_ret (pe_tup (pa_cons (pe_callTy call_tuple_of (by rfl) T.tuple boot_tuple (pa_cons (pv 4) pa_nil)) (pa_cons (pe_gs (by rfl) T.round) pa_nil))))) pss_nil)
        (pss_one (ps_expr (pe_bm PySem.F.plainAttrs_list PySem.F.slot_list_append PySem.F.type_list_append mt_append (pv 4) (pa_cons (pv 7) pa_nil))))))))))))), ?_⟩
    refine q_asgL (el_lst (ea_cons (ev_var rfl) ea_nil) (by show 1 ≤ 100000; decide)) fun l H1 hl e1 h1 => ?_
    refine s_while (fun m σ' H' => ∃ (met : List Nat) (v5 v6 v7 : Option V), Met h.n met ∧ m + met.length = 10 ∧ wayF h.ways o j m met = way h.ways o j b ∧ σ' = [some (.ref p), some (.ref a), some (.str y), some (bx b), some (.ref l), v5, v6, v7] ∧ Ex H H' ∧ H' l = some (.lst (met.map bx))) 9 ?_ ?_
    · refine ⟨[b], none, none, none, ⟨by simp, by simp, fun c hc => ?_⟩, rfl, rfl, rfl, e1, h1⟩
      have ec : c = b := by simpa using hc
      rw [ec]
      exact hb
    · rintro m σ' H' ⟨met, v5, v6, v7, M, hm, hw, rfl, e2, hl2⟩
      refine ⟨true, et_B ev_c, fun _ H3 e3 => ?_, fun hb => by cases hb⟩
      have hml := M.le
      have hn6 : h.n ≤ 5 := O.l3
      obtain ⟨f, rfl⟩ : ∃ f, m = f + 1 := ⟨m - 1, by omega⟩
      obtain ⟨m0, c, rfl⟩ : ∃ m0 c, met = m0 ++ [c] := ⟨met.dropLast, met.getLast M.ne, (List.dropLast_concat_getLast M.ne).symm⟩
      have hcn : c < h.n := M.lt c (by simp)
      have e23 := e2.trans e3
      have hl3 := e3 _ _ hl2
      rw [← hw] at kk
      refine ⟨_, fun _ _ q => q, ?_⟩
      refine q_asg (v := bx c) (ev_op (ev_var rfl) (ev_un ev_c ru_neg) (rv_ixL (.inl (.inl hl3)) (by rw [List.map_append]; exact atI_last _ _))) fun H4 e4 => ?_
      refine q_asg (ev_clV (z := own h.names o c) (ea_cons (ev_var rfl) (ea_cons (ev_var rfl) (ea_cons (ev_var rfl) ea_nil))) (spV_g fun H5 e5 => ⟨p, a, h, o, c, rfl, hh.ex ((e23.trans e4).trans e5), OrdF.ex ((e23.trans e4).trans e5) ho, Nat.le_of_eq hol, rfl⟩)) fun H5 e5 => ?_
      have e45 := e4.trans e5
      cases hk : o.findIdx? (· == c) with
      | none =>
        have ho1 : own h.names o c = .non := by
          unfold own
          rw [hk]
        rw [ho1]
        refine q_when (b := true) (et_test (ev_is (ev_op (ev_var rfl) ev_c rv_isN) rfl)) (fun _ H6 e6 => ?_) (fun hb => by cases hb)
        rw [wayF_end (step_none hk)] at kk
        exact s_retG (eg_way (u := .lies) (ev_var rfl) ev_c ((e45.trans e6) _ _ hl3)) fun v H7 e7 hv => kk v H7 ((e23.trans (e45.trans e6)).trans e7) hv
      | some k =>
        have hko : k < o.length := (List.getElem?_eq_some_iff.mp (find_at hk)).1
        have hkn : k < h.names.length := by omega
        have hx : h.names[k]? = some h.names[k] := List.getElem?_eq_getElem hkn
        have ho1 : own h.names o c = .str h.names[k] := by
          unfold own
          rw [hk]
          show V.str (h.names.getD k Str.empty) = _
          rw [List.getD_eq_getElem?_getD, hx]
          rfl
        rw [ho1]
        refine q_when (b := false) (et_test (ev_is (ev_op (ev_var rfl) ev_c rv_isN) rfl)) (fun hb => by cases hb) (fun _ H6 e6 => ?_)
        have e46 := e45.trans e6
        by_cases hkj : k = j
        · subst hkj
          have exy : h.names[k] = y := Option.some.inj (hx.symm.trans hj)
          rw [exy]
          refine q_when (b := true) (et_test (ev_is (ev_op (ev_var rfl) (ev_var rfl) (rv_eq rfl)) (by rw [decide_eq_true rfl]))) (fun _ H7 e7 => ?_) (fun hb => by cases hb)
          rw [wayF_end (step_own hk)] at kk
          exact s_retG (eg_way (u := .kept) (ev_var rfl) ev_c ((e46.trans e7) _ _ hl3)) fun v H8 e8 hv => kk v H8 ((e23.trans (e46.trans e7)).trans e8) hv
        · have exy : ¬ V.str h.names[k] = V.str y := fun q => hkj (by
            have := V.str.inj q
            rw [this] at hx
            exact nd_at O.nd hx hj)
          refine q_when (b := false) (et_test (ev_is (ev_op (ev_var rfl) (ev_var rfl) (rv_eq rfl)) (by rw [decide_eq_false exy]))) (fun hb => by cases hb) (fun _ H7 e7 => ?_)
          have e47 := e46.trans e7
          have hkw : k < h.ways.length := by rw [O.wl]; exact hkn
          have hmk : h.ways[k]? = some h.ways[k] := List.getElem?_eq_getElem hkw
          refine q_asg (ev_clV (z := handV h.ways[k] j c) (ea_cons (ev_var rfl) (ea_cons (ev_var rfl) (ea_cons (ev_var rfl) (ea_cons (ev_var rfl) ea_nil)))) (spV_g fun H8 e8 => ⟨p, h, k, j, c, _, y, _, rfl, hh.ex ((e23.trans e47).trans e8), O, hx, hj, hmk, rfl⟩)) fun H8 e8 => ?_
          have e48 := e47.trans e8
          have hst := step_other hk hkj hmk
          have hl8 := e48 _ _ hl3
          rcases hand_says h.ways[k] j c with ⟨q1, q2⟩ | ⟨q1, q2⟩ | ⟨b', q1, q2⟩
          · rw [q2]
            rw [q1] at hst
            rw [wayF_end hst] at kk
            refine q_when (b := true) (et_test (ev_is (ev_inU (ev_var rfl) (eu_tup (ea_cons ev_c (ea_cons ev_c ea_nil)) (by show 2 ≤ 100000; decide)) rfl rfl) (by decide +kernel))) (fun _ H9 e9 => ?_) (fun hb => by cases hb)
            exact s_retG (eg_way (u := .back) (ev_var rfl) (ev_if (b := true) (et_test (ev_is (ev_op (ev_var rfl) ev_c (rv_eq rfl)) (by rw [decide_eq_true rfl]))) (fun _ => ev_c) (fun hb => by cases hb)) (e9 _ _ hl8)) fun v Ha ea hv => kk v Ha ((e23.trans (e48.trans e9)).trans ea) hv
          · rw [q2]
            rw [q1] at hst
            rw [wayF_end hst] at kk
            refine q_when (b := true) (et_test (ev_is (ev_inU (ev_var rfl) (eu_tup (ea_cons ev_c (ea_cons ev_c ea_nil)) (by show 2 ≤ 100000; decide)) rfl rfl) (by decide +kernel))) (fun _ H9 e9 => ?_) (fun hb => by cases hb)
            exact s_retG (eg_way (u := .lies) (ev_var rfl) (ev_if (b := false) (et_test (ev_is (ev_op (ev_var rfl) ev_c (rv_eq rfl)) (by rw [decide_eq_false (show ¬ V.str "keep" = V.str "back" by decide +kernel)]))) (fun hb => by cases hb) (fun _ => ev_c)) (e9 _ _ hl8)) fun v Ha ea hv => kk v Ha ((e23.trans (e48.trans e9)).trans ea) hv
          · rw [q2]
            rw [q1] at hst
            rw [wayF_next hst] at kk
            refine q_when (b := false) (et_test (ev_is (ev_inU (ev_var rfl) (eu_tup (ea_cons ev_c (ea_cons ev_c ea_nil)) (by show 2 ≤ 100000; decide)) rfl rfl) rfl)) (fun hb => by cases hb) (fun _ H9 e9 => ?_)
            have hl9 := e9 _ _ hl8
            have e49 := e48.trans e9
            refine q_when (et_test (ev_op (ev_var rfl) (ev_var rfl) (rv_isL (.inl (.inl hl9)) rfl (flat_bx _)))) (fun hb Ha ea => ?_) (fun hb Ha ea => ?_)
            · rw [in_bx] at hb
              rw [hb, if_pos rfl] at kk
              exact s_retG (eg_way (u := .round) (ev_var rfl) ev_c (ea _ _ hl9)) fun v Hb eb hv => kk v Hb ((e23.trans (e49.trans ea)).trans eb) hv
            · rw [in_bx] at hb
              rw [hb, if_neg Bool.false_ne_true] at kk
              have hbn := (step_lt O.gs hst).1
              have hw2 : wayF h.ways o j f (m0 ++ [c] ++ [b']) = way h.ways o j b := by
                rw [← hw, wayF_next hst, hb, if_neg Bool.false_ne_true]
              refine s_app (ea _ _ hl9) (ev_var rfl) (ev_var rfl) (by rw [List.length_map]; omega) fun Hb eb => ⟨f, Nat.lt_succ_self f, m0 ++ [c] ++ [b'], _, _, _, M.snoc hbn hb, by rw [List.length_append, List.length_singleton]; omega, hw2, rfl, ?_, ?_⟩
              · exact Ex.chg ((e23.trans (e49.trans ea)).trans eb) hl
              · rw [upd_same, List.map_append (l₁ := m0 ++ [c])]
                rfl

/-! ### answer_of -/
def gAnswer (C : Addr) : List V → Hp → V → Prop := fun vs H z => ∃ (p a : Addr) (h : Hs) (o : List Nat) (j b : Nat) (y : Str), vs = [.ref p, .ref a, .str y, bx b] ∧ HouseAt C H p h ∧ h.Ok ∧ OrdF H a o ∧ o.length = h.names.length ∧ h.names[j]? = some y ∧ b < h.n ∧
  z = ob (ans h.ways o j b)
theorem scAnswer : FnScope ["house", "order", "name", "box", "boxes", "word"] ["house", "order", "name", "box"] (defScope sAnswer) := ⟨rfl, rfl, rfl, by decide +kernel, rfl, by decide +kernel, by decide +kernel⟩
theorem wd_back {u : Wd} : (V.str (wd u) = V.str "back") ↔ u = .back := by
  cases u with
  | back => exact ⟨fun _ => rfl, fun _ => rfl⟩
  | kept => exact ⟨fun h => absurd h (by decide +kernel), fun h => by cases h⟩
  | lies => exact ⟨fun h => absurd h (by decide +kernel), fun h => by cases h⟩
  | round => exact ⟨fun h => absurd h (by decide +kernel), fun h => by cases h⟩
theorem ok_answer (D : DefAt K mg "answer_of" sAnswer) (T : Tx K mg) (F : Df P w K mg base CX0 2 "way_of" (spG (gWay C))) : Df P w K mg base CX0 3 "answer_of" (spV (gAnswer C)) := by
  refine D.ok scAnswer (fun _ _ _ _ _ _ us hl => match us, hl with | [_, _, _, _], _ => rfl) (fun vs H Q E h => ?_) (fun f cdv A outer s H vs Q E hr h => ?_)
  · obtain ⟨z, ⟨p, a, h, o, j, b, y, rfl, _⟩, _⟩ := h
    rfl
  · obtain ⟨z, ⟨p, a, h, o, j, b, y, rfl, hh, O, ho, hol, hj, hb, rfl⟩, kk⟩ := h
    refine ⟨_, pss_cons (ps_asg (pe_df F hr (by rfl) pass0 (pa_cons (pv 0) (pa_cons (pv 1) (pa_cons (pv 2) (pa_cons (pv 3) pa_nil))))) (pg_tup rfl (pgs_cons (pg_name (i := 4) scAnswer.nd rfl (Or.inl rfl)) (pgs_cons (pg_name (i := 5) scAnswer.nd rfl (Or.inl rfl)) pgs_nil))))
      (pss_one (ps_ret (pe_ifExp (pt_cmpR op_eq (pv 5) (pe_gs (by rfl) T.back) (nomark _)) (pe_op op_sub (pe_callB call_len_seq (by rfl) T.len PySem.boot_len (pa_cons (pv 4) pa_nil)) pe_int) pe_non))), ?_⟩
    refine ev_cl (G := WayR (way h.ways o j b).1 (way h.ways o j b).2) (ea_cons (ev_var rfl) (ea_cons (ev_var rfl) (ea_cons (ev_var rfl) (ea_cons (ev_var rfl) ea_nil)))) (spG_g fun H1 e1 => ⟨p, a, h, o, j, b, y, rfl, hh.ex e1, O, OrdF.ex e1 ho, hol, hj, hb, rfl⟩) H (Ex.refl H) _ fun v H1 e1 hv => ?_
    obtain ⟨t, m, rfl, ht, hm⟩ := hv
    refine g_two (.inl (.inl ht)) ?_
    have ha : ans h.ways o j b = if (way h.ways o j b).2 = .back then some ((way h.ways o j b).1.length - 1) else none := rfl
    rw [ha] at kk
    by_cases hw : (way h.ways o j b).2 = .back
    · rw [if_pos hw] at kk
      have M : Met h.n (way h.ways o j b).1 := wayF_met O.gs 9 [b] ⟨by simp, by simp, fun c hc => by
        have ec : c = b := by simpa using hc
        rw [ec]
        exact hb⟩
      have hp : 1 ≤ (way h.ways o j b).1.length := by
        cases hx : (way h.ways o j b).1 with
        | nil => exact absurd hx M.ne
        | cons _ _ => simp
      refine s_ret (ev_if (b := true) (et_test (ev_is (ev_op (ev_var rfl) ev_c (rv_eq rfl)) (by rw [decide_eq_true (wd_back.mpr hw)]))) (fun _ => ev_is (ev_op (ev_lenT (ev_var rfl) (.inl (.inl hm))) ev_c rv_I0) ?_) (fun q => by cases q)) fun H2 e2 => kk H2 (e1.trans e2)
      show V.int _ = V.int _
      rw [List.length_map]
      congr 1
      omega
    · rw [if_neg hw] at kk
      exact s_ret (ev_if (b := false) (et_test (ev_is (ev_op (ev_var rfl) ev_c (rv_eq rfl)) (by rw [decide_eq_false fun q => hw (wd_back.mp q)]))) (fun q => by cases q) (fun _ => ev_c)) fun H2 e2 => kk H2 (e1.trans e2)
end
end Lp

set_option Elab.async false
set_option linter.all false
set_option maxRecDepth 100000
set_option maxHeartbeats 4000000
/-! Lostplates: the walks of does_fit, all_orders. -/
namespace Lp
open PySem PySem.Spec PyProof.Rows L2
open Evl
abbrev sFit : Stmt := top 31
abbrev sOrders : Stmt := top 32
theorem str_nil {z : Str} : (V.str z = V.str "") ↔ cs z = [] := by
  have e : cs ("" : Str) = [] := by decide +kernel
  constructor
  · intro h
    rw [V.str.inj h]
    exact e
  · intro h
    obtain ⟨⟨l⟩⟩ := z
    have hl : l = [] := h
    subst hl
    exact congrArg V.str (by decide +kernel)
theorem need_at {h : Hs} {b : Nat} {z : Str} (hz : h.signs[b]? = some z) : h.need b = !decide (V.str z = V.str "") := by
  unfold Hs.need
  rw [List.getD_eq_getElem?_getD, hz]
  show (!(cs z).isEmpty) = _
  congr 1
  rw [Bool.eq_iff_iff, decide_eq_true_iff, str_nil, List.isEmpty_iff]
theorem mt_at {h : Hs} {b : Nat} {z x : Str} (hz : h.signs[b]? = some z) : h.mt b x = mat (cs z) (cs x) := by
  unfold Hs.mt
  rw [List.getD_eq_getElem?_getD, hz]
  rfl
/-- a box is that of a household whose name matches -/
def fitB (h : Hs) (o : List Nat) (b : Nat) : Bool := !h.need b || (match o.findIdx? (· == b) with
  | some k => (match h.names[k]? with
    | some x => h.mt b x
    | none => false)
  | none => false)
theorem fit_eq (h : Hs) (o : List Nat) : fit h.n h.need h.mt h.names o = (List.range h.n).all (fitB h o) := by
  unfold fit
  refine congrArg (fun g => (List.range h.n).all g) (funext fun b => ?_)
  unfold fitB
  cases o.findIdx? (· == b) with
  | none => rfl
  | some k =>
    dsimp only
    cases hx : h.names[k]? with
    | none => rfl
    | some x => rfl
section
variable {P : Program} {w : World} {K : PySem.W.Frag} {mg : Str → Option Value} {base : Heap} {C : Addr}
def gFit (C : Addr) : List V → Hp → V → Prop := fun vs H z => ∃ (p a : Addr) (h : Hs) (o : List Nat), vs = [.ref p, .ref a] ∧ HouseAt C H p h ∧ h.Ok ∧ OrdF H a o ∧ o.length = h.names.length ∧ z = .bl (fit h.n h.need h.mt h.names o)
theorem scFit : FnScope ["house", "order", "box", "plate"] ["house", "order"] (defScope sFit) := ⟨rfl, rfl, rfl, by decide +kernel, rfl, by decide +kernel, by decide +kernel⟩
theorem ok_fit (D : DefAt K mg "does_fit" sFit) (T : Tx K mg) (Hh : Hc K mg C) (F : Df P w K mg base CX0 1 "does_match" (spV gMatch)) : Df P w K mg base CX0 2 "does_fit" (spV (gFit C)) := by
  refine D.ok scFit (fun _ _ _ _ _ _ us hl => match us, hl with | [_, _], _ => rfl) (fun vs H Q E h => ?_) (fun f cdv A outer s H vs Q E hr h => ?_)
  · obtain ⟨z, ⟨p, a, h, o, rfl, _⟩, _⟩ := h
    rfl
  · obtain ⟨z, ⟨p, a, h, o, rfl, hh, O, ho, hol, rfl⟩, kk⟩ := h
    obtain ⟨p0, S0⟩ := Hh.s0
    obtain ⟨p1, S1⟩ := Hh.s1
    refine ⟨_, pss_cons (ps_for PassesOwn.never rfl (pi_enumT (by rfl) T.enum (pa_cons (pe_slot Hh.cl S1 (pv 0)) pa_nil)) (pg_tup rfl (pgs_cons (pg_name (i := 2) scFit.nd rfl (Or.inl rfl)) (pgs_cons (pg_name (i := 3) scFit.nd rfl (Or.inl rfl)) pgs_nil)))
      (pss_one (ps_if (pt_cmpR op_ne (pv 3) pe_str (nomark _))
        (pss_one (ps_if (PW.pt (pw_or (pt_cmpR op_notIn_seq (pv 2) (pv 1) rfl) (pw_or1 (pt_not (pt_val (pe_df F hr (by rfl) pass0
          (pa_cons (pv 3) (pa_cons (pe_ix ix_tup (pe_slot Hh.cl S0 (pv 0)) (pe_bmT PySem.F.slot_tuple_index PySem.F.type_tuple_index mt_tupIx (pv 1) (pa_cons (pv 2) pa_nil)) (fun _ _ => rfl)) pa_nil))))))))
          (pss_one (ps_ret pe_bl)) pss_nil)) pss_nil)))
      (pss_one (ps_ret pe_bl)), ?_⟩
    have hh0 := hh
    obtain ⟨dx, nT, sT, wD, h1, h2, h3, h4⟩ := hh
    rw [fit_eq] at kk
    refine q_forI (ei_enumT (ea_cons (ev_slot (ev_var rfl) h1 rfl) ea_nil) (.inl (.inl h3))) (fun i σ' H' => ∃ v2 v3 : Option V, σ' = [some (.ref p), some (.ref a), v2, v3] ∧ Ex H H' ∧ ∀ b, b < i → fitB h o b = true) (fun H1 e => ⟨none, none, rfl, e, fun b hb => by omega⟩) (fun i σ' H' ⟨_, _, _, e, _⟩ => e) ?_ ?_
    · rintro i x σ' H' H'' hi ⟨v2, v3, rfl, e, hp⟩ ⟨T', x, rfl, hT, rfl, hx⟩
      rw [List.getElem?_map] at hx
      obtain ⟨z, hz, rfl⟩ := Option.map_eq_some_iff.mp hx
      have e1 := e.trans (Ex.new (o := HO.tup [.int (i : Nat), .str z]) hT)
      refine g_two (.inl (.inl upd_same)) ?_
      have hin : i < h.n := (List.getElem?_eq_some_iff.mp hz).1
      have next : ∀ H2, Ex H H2 → fitB h o i = true → ∃ v2 v3 : Option V, [some (V.ref p), some (V.ref a), some (.int (i : Nat)), some (V.str z)] = [some (V.ref p), some (V.ref a), v2, v3] ∧ Ex H H2 ∧ ∀ b, b < i + 1 → fitB h o b = true := fun H2 e2 hb => ⟨_, _, rfl, e2, fun b hb' => by
        rcases Nat.lt_or_ge b i with q | q
        · exact hp b q
        · have : b = i := by omega
          rw [this]
          exact hb⟩
      have fail : fitB h o i = false → ∀ H2, Ex H H2 → Q (.bl false) H2 := fun hb H2 e2 => by
        have hf : (List.range h.n).all (fitB h o) = false := by
          rw [List.all_eq_false]
          exact ⟨i, List.mem_range.mpr hin, by rw [hb]; exact Bool.false_ne_true⟩
        rw [hf] at kk
        exact kk H2 e2
      refine s_when (et_test (ev_op (ev_var rfl) ev_c (rv_ne rfl))) (fun hb H2 e2 => ?_) (fun hb H2 e2 => ?_)
      · have hneed : h.need i = true := by rw [need_at hz]; exact hb
        have e12 := e1.trans e2
        cases hk : o.findIdx? (· == i) with
        | none =>
          have hc : o.contains i = false := by rw [← find_mem, hk]; rfl
          have hfb : fitB h o i = false := by
            unfold fitB
            rw [hneed, hk]
            rfl
          refine s_when (b := true) (et_or (a := true) (b := false) (et_test (ev_is (ev_op (ev_var rfl) (ev_var rfl) (rv_niT (FT.sq (OrdF.ex e12 ho)) rfl (flat_bx o))) (by show V.bl (!inV (bx i) (o.map bx)) = _; rw [in_bx, hc]; rfl))) (fun q => by cases q)) (fun _ H3 e3 => ?_) (fun q => by cases q)
          exact s_ret ev_c fun H4 e4 => fail hfb H4 ((e12.trans e3).trans e4)
        | some k =>
          have hc : o.contains i = true := by rw [← find_mem, hk]; rfl
          obtain ⟨f1, f2, f3⟩ := find_first hk
          have hko : k < o.length := (List.getElem?_eq_some_iff.mp (find_at hk)).1
          have hkn : k < h.names.length := by omega
          have hx : h.names[k]? = some h.names[k] := List.getElem?_eq_getElem hkn
          have hfb : fitB h o i = mat (cs z) (cs h.names[k]) := by
            unfold fitB
            rw [hneed, hk]
            show (false || (match h.names[k]? with | some x => h.mt i x | none => false)) = _
            rw [hx]
            show (false || h.mt i h.names[k]) = _
            rw [mt_at hz, Bool.false_or]
          have z8 := O.sx z (List.mem_of_getElem? hz)
          have x8 := O.nx _ (List.mem_of_getElem? hx)
          refine s_when (b := !fitB h o i) (et_or (a := false) (b := !fitB h o i) (et_test (ev_is (ev_op (ev_var rfl) (ev_var rfl) (rv_niT (FT.sq (OrdF.ex e12 ho)) rfl (flat_bx o))) (by show V.bl (!inV (bx i) (o.map bx)) = _; rw [in_bx, hc]; rfl))) (fun _ => et_not (et_B (ev_clV (z := .bl (fitB h o i)) (ea_cons (ev_var rfl) (ea_cons
            (ev_op (z := .str h.names[k]) (ev_slot (ev_var rfl) (slAt_ex e12 h1) rfl) (ev_tix (ev_var rfl) (ev_var rfl) (OrdF.ex e12 ho) rfl (flat_bx o) f1 f2 f3) (rv_ixT (FT.sq (h2.ex e12)) (atI_nat (j := k) (by rw [List.getElem?_map, hx]; rfl)))) ea_nil))
            (spV_g fun H3 e3 => ⟨z, _, rfl, by omega, by omega, by rw [hfb]⟩))))) (fun hb H3 e3 => ?_) (fun hb H3 e3 => ?_)
          · exact s_ret ev_c fun H4 e4 => fail (not_t hb) H4 ((e12.trans e3).trans e4)
          · exact next H3 (e12.trans e3) (not_f hb)
      · have hneed : h.need i = false := by rw [need_at hz]; exact hb
        refine next H2 (e1.trans e2) ?_
        unfold fitB
        rw [hneed]
        rfl
    · rintro σ' H' ⟨v2, v3, rfl, e, hp⟩
      have hf : (List.range h.n).all (fitB h o) = true := by
        rw [List.all_eq_true]
        intro b hb
        refine hp b ?_
        rw [List.length_map]
        exact List.mem_range.mp hb
      rw [hf] at kk
      exact s_ret ev_c fun H2 e2 => kk H2 (e.trans e2)

/-! ### all_orders -/
/-- a new row, one box more -/
theorem eg_row {σ : L2.St} {H : Hp} {te tb : TE} {a : Addr} {o : List Nat} {b : Nat} (h : Ev te σ H (.ref a)) (ho : OrdF H a o) (hb : Ev tb σ H (bx b)) (hl : o.length ≤ 1000) : EvG (tTupF (StX.tStar K te (tCons tb tNil))) σ H (fun v H1 => ∃ c, v = .ref c ∧ OrdF H1 c (o ++ [b])) := fun H1 e Q q =>
  euF_tup (vs := (o ++ [b]).map bx) (by rw [List.map_append]; exact ea_star h (FT.sq ho) (ea_cons hb ea_nil)) (by rw [List.length_map, List.length_append, List.length_singleton]; omega) H1 e Q fun p H2 hp e2 hf => q _ H2 e2 ⟨p, rfl, hf⟩
/-- [()] -/
theorem el_row0 {σ : L2.St} {H : Hp} : EvLG (tLst (tCons (tTupF tNil) tNil)) σ H (fun us H' => ∃ a, us = [.ref a] ∧ OrdF H' a []) := fun H1 e1 Q q => by
  unfold tLst tCons
  exact euF_tup (vs := []) ea_nil (Nat.zero_le _) H1 e1 _ fun a H2 ha e2 hf => ⟨by show 1 ≤ sizeLine; decide, fun l hl => q l _ _ (Ex.back e2 hl) (e2.trans (Ex.new hl)) upd_same ⟨a, rfl, hf.ex (Ex.new hl)⟩⟩
/-- the boxes so far -/
def exti (k : Nat) (ok : Nat → Bool) (r : List Nat) : List (List Nat) := ((List.range k).filter fun b => !r.contains b && ok b).map fun b => r ++ [b]
theorem exti_succ (k : Nat) (ok : Nat → Bool) (r : List Nat) : exti (k + 1) ok r = exti k ok r ++ (if (!r.contains k && ok k) = true then [r ++ [k]] else []) := by
  unfold exti
  rw [List.range_succ, List.filter_append, List.map_append, List.filter_cons]
  cases (!r.contains k && ok k) <;> rfl
theorem exti_len (k : Nat) (ok : Nat → Bool) (r : List Nat) : (exti k ok r).length ≤ k := by
  unfold exti
  rw [List.length_map]
  have := List.length_filter_le (fun b => !r.contains b && ok b) (List.range k)
  rw [List.length_range] at this
  exact this
theorem take_snoc {α : Type} {l : List α} {i : Nat} {x : α} (h : l[i]? = some x) : l.take (i + 1) = l.take i ++ [x] := by
  rw [List.take_succ, h]
  rfl
theorem grow_take {n : Nat} {ok : Nat → Bool} {rs : List (List Nat)} {i : Nat} {r : List Nat} (h : rs[i]? = some r) : grow n ok (rs.take (i + 1)) = grow n ok (rs.take i) ++ ext n ok r := by
  rw [take_snoc h, grow_app, grow_cons]
  show _ ++ (_ ++ grow n ok []) = _
  rw [show grow n ok [] = [] from rfl, List.append_nil]
def okB (h : Hs) (b : Nat) (x : Str) : Bool := !h.need b || h.mt b x
theorem pow_le (a b : Nat) (ha : a ≤ 5) (hb : b ≤ 4) : a ^ b ≤ 625 := Nat.le_trans (Nat.pow_le_pow_left ha b) (Nat.le_trans (Nat.pow_le_pow_right (by decide) hb) (by decide))
theorem rows_le {h : Hs} (O : h.Ok) (i : Nat) : (rows0 h.n (okB h) (h.names.take i)).length ≤ 625 := by
  refine Nat.le_trans (rows0_len _ _ _) (pow_le _ _ O.l3 ?_)
  have h1 := List.length_take_le' i h.names
  have h2 := O.l1
  omega
theorem ords_le {h : Hs} (O : h.Ok) : h.ords.length ≤ 625 := Nat.le_trans (ords_len _ _ _ _) (pow_le _ _ O.l3 O.l1)
def gOrders (C : Addr) : List V → Hp → (V → Hp → Prop) → Prop := fun vs H R => ∃ (p : Addr) (h : Hs), vs = [.ref p] ∧ HouseAt C H p h ∧ h.Ok ∧ R = fun v H' => ∃ q, v = .ref q ∧ H q = none ∧ OrdLF H' q h.ords
theorem scOrders : FnScope ["house", "rows", "name", "longer", "row", "box", "plate"] ["house"] (defScope sOrders) := ⟨rfl, rfl, rfl, by decide +kernel, rfl, by decide +kernel, by decide +kernel⟩
theorem ok_orders (D : DefAt K mg "all_orders" sOrders) (T : Tx K mg) (Hh : Hc K mg C) (F1 : Df P w K mg base CX0 1 "does_match" (spV gMatch)) (F2 : Df P w K mg base CX0 2 "does_fit" (spV (gFit C))) : Df P w K mg base CX0 3 "all_orders" (spG (gOrders C)) := by
  refine D.ok scOrders (fun _ _ _ _ _ _ us hl => match us, hl with | [_], _ => rfl) (fun vs H Q E h => ?_) (fun f cdv A outer s H vs Q E hr h => ?_)
  · obtain ⟨z, ⟨p, h, rfl, _⟩, _⟩ := h
    rfl
  · obtain ⟨z, ⟨p, h, rfl, hh, O, rfl⟩, kk⟩ := h
    obtain ⟨p0, S0⟩ := Hh.s0
    obtain ⟨p1, S1⟩ := Hh.s1
    refine ⟨_, pss_cons (ps_set (i := 1) scOrders.nd rfl (Or.inl rfl) (pe_lst (pa_cons (pe_tupF pa_nil) pa_nil)))
      (pss_cons (ps_for PassesOwn.never rfl (pi_tup (pe_slot Hh.cl S0 (pv 0))) (pg_name (i := 2) scOrders.nd rfl (Or.inl rfl))
        (pss_cons (ps_set (i := 3) scOrders.nd rfl (Or.inl rfl) (pe_lst pa_nil))
        (pss_cons (ps_for PassesOwn.never rfl (pi_list (pv 1)) (pg_name (i := 4) scOrders.nd rfl (Or.inl rfl))
          (pss_one (ps_for PassesOwn.never rfl (pi_enumT (by rfl) T.enum (pa_cons (pe_slot Hh.cl S1 (pv 0)) pa_nil)) (pg_tup rfl (pgs_cons (pg_name (i := 5) scOrders.nd rfl (Or.inl rfl)) (pgs_cons (pg_name (i := 6) scOrders.nd rfl (Or.inl rfl)) pgs_nil)))
            (pss_one (ps_if (PW.pt (pw_and (pt_cmpR op_notIn_seq (pv 5) (pv 4) rfl) (pw_and1 (PW.pt (pw_or (pt_cmpR op_eq (pv 6) pe_str (nomark _)) (pw_or1 (pt_val (pe_df F1 (hr.mono (by decide)) (by rfl) pass0 (pa_cons (pv 6) (pa_cons (pv 2) pa_nil))))))))))
              (pss_one (ps_expr (pe_bm PySem.F.plainAttrs_list PySem.F.slot_list_append PySem.F.type_list_append mt_append (pv 3) (pa_cons (pe_tupF (StX.pa_star (pv 4) (pa_cons (pv 5) pa_nil))) pa_nil)))) pss_nil)))))
        (pss_one (ps_set (i := 1) scOrders.nd rfl (Or.inl rfl) (pv 3))))))
      (pss_one (ps_ret (pe_lc (own := [("row", 4)]) (g := gName 4) rfl scOrders.nd (pi_list (pv 1)) (blkOk_by (N := ["house", "rows", "name", "longer", "row", "box", "plate"]) (sc := defScope sOrders) (by decide +kernel))
        (fun _ _ _ _ _ => pg_name (i := 4) scOrders.nd rfl (Or.inl rfl)) (fun _ _ _ _ _ => pts_one (pt_val (pe_df F2 hr (by rfl) pass0 (pa_cons (pv 0) (pa_cons (pv 4) pa_nil))))) (fun _ _ _ _ _ => pv 4))))), ?_⟩
    obtain ⟨dx, nT, sT, wD, h1, h2, h3, h4⟩ := id hh
    refine q_asgLG el_row0 fun r0 H1 vs hr0 e1 hl1 ⟨a0, hvs, ha0⟩ => ?_
    subst hvs
    refine q_forI (ei_tup (ev_slot (ev_var rfl) (slAt_ex e1 h1) rfl) (FT.sq (h2.ex e1))) (fun i σ' H' => ∃ (r : Addr) (v2 v3 v4 v5 v6 : Option V), σ' = [some (.ref p), some (.ref r), v2, v3, v4, v5, v6] ∧ Ex H1 H' ∧ H r = none ∧ OrdLF H' r (rows0 h.n (okB h) (h.names.take i)))
      (fun H2 e2 => ⟨r0, none, none, none, none, none, rfl, e2, hr0, [a0], e2 _ _ hl1, .cons (OrdF.ex e2 ha0) .nil⟩) (fun i σ' H' ⟨_, _, _, _, _, _, _, e, _⟩ => e) ?_ ?_
    · rintro i x σ' HA' HA hi ⟨r, v2, v3, v4, v5, v6, rfl, eA, hr0', as, hr1, hrows⟩ ⟨rfl, hx⟩
      rw [List.getElem?_map] at hx
      obtain ⟨x, hx', rfl⟩ := Option.map_eq_some_iff.mp hx
      have x8 := O.nx x (List.mem_of_getElem? hx')
      have eH := e1.trans eA
      refine q_asgL (el_lst ea_nil (Nat.zero_le _)) fun l HC hl eC hlC => ?_
      refine q_forB (HB := HA) (ei_list (ev_var rfl) (.inl (.inl hr1))) eC (fun i2 σ' H' => ∃ (v4 v5 v6 : Option V) (bs : List Addr), σ' = [some (.ref p), some (.ref r), some (.str x), some (.ref l), v4, v5, v6] ∧ Ex HA H' ∧ H' l = some (.lst (bs.map V.ref)) ∧ Paired (OrdF H') bs (grow h.n (fun b => okB h b x) ((rows0 h.n (okB h) (h.names.take i)).take i2)))
        (fun H2 e2 => ⟨_, _, _, [], rfl, eC.trans e2, e2 _ _ hlC, .nil⟩) (fun i2 σ' H' ⟨_, _, _, _, _, e, _⟩ => e) ?_ ?_
      · rintro i2 u σ' HD' HD hi2 ⟨w4, w5, w6, bs, rfl, eD, hlD, hbs⟩ ⟨rfl, hu⟩
        rw [List.getElem?_map] at hu
        obtain ⟨a, ha, rfl⟩ := Option.map_eq_some_iff.mp hu
        obtain ⟨row, hrow, hra⟩ := paired_at hrows ha
        have hrl : row.length ≤ 1000 := by
          have hR := rows0_row h.n (okB h) (h.names.take i) row (List.mem_of_getElem? hrow)
          have h5 := hR.len
          have h6 := List.length_take_le' i h.names
          have h7 := O.l1
          omega
        have hgl : (grow h.n (fun b => okB h b x) ((rows0 h.n (okB h) (h.names.take i)).take i2)).length ≤ 3125 := by
          have g1 := grow_len h.n (fun b => okB h b x) ((rows0 h.n (okB h) (h.names.take i)).take i2)
          have g2 := List.length_take_le' i2 (rows0 h.n (okB h) (h.names.take i))
          have g3 := rows_le O i
          have g4 : h.n ≤ 5 := O.l3
          have g5 := Nat.mul_le_mul (Nat.le_trans g2 g3) g4
          omega
        refine s_forB (HB := HA) (ei_enumT (ea_cons (ev_slot (ev_var rfl) (slAt_ex eH h1) rfl) ea_nil) (.inl (.inl (eH _ _ h3)))) eD (fun i3 σ' H' => ∃ (v5 v6 : Option V) (bs : List Addr), σ' = [some (.ref p), some (.ref r), some (.str x), some (.ref l), some (.ref a), v5, v6] ∧ Ex HA H' ∧ H' l = some (.lst (bs.map V.ref)) ∧ Paired (OrdF H') bs (grow h.n (fun b => okB h b x) ((rows0 h.n (okB h) (h.names.take i)).take i2) ++ exti i3 (fun b => okB h b x) row))
          (fun H2 e2 => ⟨_, _, bs, rfl, eD.trans e2, e2 _ _ hlD, by rw [show exti 0 (fun b => okB h b x) row = [] from rfl, List.append_nil]; exact paired_mono (fun _ _ q => OrdF.ex e2 q) hbs⟩) (fun i3 σ' H' ⟨_, _, _, _, e, _⟩ => e) ?_ ?_
        · rintro i3 y σ' HF HG hi3 ⟨w5, w6, cs', rfl, eF, hlF, hcs⟩ ⟨T', y, rfl, hT, rfl, hy⟩
          rw [List.getElem?_map] at hy
          obtain ⟨z, hz, rfl⟩ := Option.map_eq_some_iff.mp hy
          have z8 := O.sx z (List.mem_of_getElem? hz)
          have eT : Ex HF (upd HF T' (HO.tup [.int (i3 : Nat), .str z])) := Ex.new hT
          have eG := eF.trans eT
          refine g_two (.inl (.inl upd_same)) ?_
          have hok : okB h i3 x = (decide (V.str z = V.str "") || mat (cs z) (cs x)) := by
            unfold okB
            rw [need_at hz, mt_at hz, Bool.not_not]
          refine s_when (b := !row.contains i3 && okB h i3 x) (et_and (et_test (ev_is (ev_op (ev_var rfl) (ev_var rfl) (rv_niT (FT.sq (OrdF.ex eG hra)) rfl (flat_bx row))) (by show V.bl (!inV (bx i3) (row.map bx)) = _; rw [in_bx])))
            (fun _ => et_is (et_or (et_test (ev_op (ev_var rfl) ev_c (rv_eq rfl))) fun _ => et_B (ev_clV (z := .bl (mat (cs z) (cs x))) (ea_cons (ev_var rfl) (ea_cons (ev_var rfl) ea_nil)) (spV_g fun H3 e3 => ⟨z, x, rfl, by omega, by omega, rfl⟩))) hok.symm)) (fun hb H2 e2 => ?_) (fun hb H2 e2 => ?_)
          · have eX := eT.trans e2
            have lcs := paired_len hcs
            rw [List.length_append] at lcs
            have lex := exti_len i3 (fun b => okB h b x) row
            rw [List.length_map] at hi3
            have g4 : h.signs.length ≤ 5 := O.l3
            refine s_appG (eX _ _ hlF) (ev_var rfl) (eg_row (ev_var rfl) (OrdF.ex (eF.trans eX) hra) (ev_var rfl) hrl) (by rw [List.length_map]; omega) fun v H3 e3 ⟨c, hv, hc⟩ => ⟨_, _, cs' ++ [c], rfl, Ex.chg ((eF.trans eX).trans e3) hl, ?_, ?_⟩
            · rw [upd_same, List.map_append, hv]
              rfl
            · have hlX : H3 l = some (.lst (cs'.map V.ref)) := e3 _ _ (eX _ _ hlF)
              rw [exti_succ, if_pos hb, ← List.append_assoc]
              exact paired_app (paired_mono (fun _ _ q => OrdF.kt ((Kt.of (eX.trans e3)).trans (Kt.lst hlX)) q) hcs) (.cons (OrdF.kt (Kt.lst hlX) hc) .nil)
          · have eX := eT.trans e2
            refine ⟨_, _, cs', rfl, eF.trans eX, eX _ _ hlF, ?_⟩
            rw [exti_succ, if_neg (by rw [hb]; exact Bool.false_ne_true), List.append_nil]
            exact paired_mono (fun _ _ q => OrdF.ex eX q) hcs
        · rintro σ' HF ⟨w5, w6, cs', rfl, eF, hlF, hcs⟩
          refine ⟨_, _, _, cs', rfl, eF, hlF, ?_⟩
          rw [grow_take hrow]
          rw [List.length_map] at hcs
          exact hcs
      · rintro σ' HD ⟨w4, w5, w6, bs, rfl, eD, hlD, hbs⟩
        refine s_asg (ev_var rfl) fun H2 e2 => ⟨l, _, _, _, _, _, rfl, eA.trans (eD.trans e2), Ex.back eH hl, bs, e2 _ _ hlD, ?_⟩
        rw [take_snoc hx', rows0_snoc]
        have hal : (as.map V.ref).length = (rows0 h.n (okB h) (h.names.take i)).length := by rw [List.length_map]; exact paired_len hrows
        rw [hal, List.take_length] at hbs
        exact paired_mono (fun _ _ q => OrdF.ex e2 q) hbs
    · rintro σ' HA ⟨r, v2, v3, v4, v5, v6, rfl, eA, hr0', as, hr1, hrows⟩
      rw [List.length_map, List.take_length] at hrows
      have eH := e1.trans eA
      have hal := paired_len hrows
      have hrl : (rows0 h.n (okB h) h.names).length ≤ 625 := by
        have := rows_le O h.names.length
        rw [List.take_length] at this
        exact this
      have hei : EvI (iList K (tVar 1)) [some (V.ref p), some (V.ref r), v2, v3, v4, v5, v6] HA (rows0 h.n (okB h) h.names).length (YAt (as.map V.ref)) := by
        rw [← hal, ← List.length_map (f := V.ref)]
        exact ei_list (ev_var rfl) (.inl (.inl hr1))
      refine s_retLG (el_lst_ (l := rows0 h.n (okB h) h.names) hei (by omega) (fit h.n h.need h.mt h.names) (fun o v H' => ∃ c, v = .ref c ∧ OrdF H' c o) (fun o v H2 H3 k ⟨c, q1, q2⟩ => ⟨c, q1, OrdF.kt k q2⟩) ?_) fun q H2 us hq e2 h2 hP => ?_
      · rintro i o H2 x H3 ho e2 ⟨rfl, hx⟩
        rw [List.getElem?_map] at hx
        obtain ⟨a, ha, rfl⟩ := Option.map_eq_some_iff.mp hx
        obtain ⟨o', ho', hoa⟩ := paired_at hrows ha
        have eo : o' = o := Option.some.inj (ho'.symm.trans ho)
        subst eo
        have hR := rows0_row h.n (okB h) h.names o' (List.mem_of_getElem? ho)
        refine ⟨Ex.refl _, [some (.ref p), some (.ref r), v2, v3, some (.ref a), v5, v6], rfl, fun Kk q => q _ (Ex.refl _), ?_, fun _ => ?_⟩
        · exact et_B (ev_clV (ea_cons (ev_var rfl) (ea_cons (ev_var rfl) ea_nil)) (spV_g fun H4 e4 => ⟨p, a, h, o', rfl, hh.ex ((eH.trans e2).trans e4), O, OrdF.ex (e2.trans e4) hoa, hR.len, rfl⟩))
        · exact (Evl_g (ev_var rfl)).imp fun v H4 e4 hv => ⟨a, hv, OrdF.ex (e2.trans e4) hoa⟩
      · obtain ⟨bs, rfl, hbs⟩ := paired_refs hP
        refine kk _ H2 (eH.trans e2) ⟨q, rfl, Ex.back eH hq, bs, h2, ?_⟩
        show Paired (OrdF H2) bs (ords h.n h.need h.mt h.names)
        rw [← ords_fit]
        exact hbs
end
end Lp

set_option Elab.async false
set_option linter.all false
set_option maxRecDepth 100000
set_option maxHeartbeats 4000000
/-! Lostplates: equality of lists and tuples as data. -/
namespace Lp
open PySem PySem.Spec PyProof.Rows L2
open Evl
theorem eqvAll_by {α : Type} [DecidableEq α] (f : α → PyData) (hf : ∀ a b, PyData.eqv (f a) (f b) = decide (a = b)) : ∀ xs ys : List α, PyData.eqvAll (xs.map f) (ys.map f) = decide (xs = ys)
  | [], [] => by simp only [List.map_nil, PyData.eqvAll, decide_true]
  | [], y :: ys => by simp [PyData.eqvAll]
  | x :: xs, [] => by simp [PyData.eqvAll]
  | x :: xs, y :: ys => by
    rw [List.map_cons, List.map_cons, PyData.eqvAll, hf, eqvAll_by f hf xs ys, ← Bool.decide_and]
    exact decide_eq_decide.mpr (by rw [List.cons.injEq])
theorem canAll_by {α : Type} (f : α → PyData) : ∀ xs : List α, (∀ a ∈ xs, (f a).canLay0 = true) → PyData.canLayAll0 (xs.map f) = true
  | [], _ => by simp [PyData.canLayAll0]
  | x :: xs, h => by
    rw [List.map_cons, PyData.canLayAll0, h x (List.mem_cons_self ..), canAll_by f xs fun a ha => h a (List.mem_cons_of_mem _ ha)]
    rfl
theorem depthAll_by {α : Type} (f : α → PyData) (n : Nat) : ∀ xs : List α, (∀ a ∈ xs, (f a).depth ≤ n) → PyData.depthAll (xs.map f) ≤ n
  | [], _ => by simp [PyData.depthAll]
  | x :: xs, h => by
    rw [List.map_cons, PyData.depthAll]
    exact Nat.max_le.mpr ⟨h x (List.mem_cons_self ..), depthAll_by f n xs fun a ha => h a (List.mem_cons_of_mem _ ha)⟩
def pdN (b : Nat) : PyData := .int (b : Int)
def pdRow (o : List Nat) : PyData := .tuple (o.map pdN)
def pdRows (os : List (List Nat)) : PyData := .list (os.map pdRow)
def pdNs (o : List Nat) : PyData := .list (o.map pdN)
def pdStrs (l : List Str) : PyData := .list (l.map .str)
def pdTStrs (l : List Str) : PyData := .tuple (l.map .str)
theorem eqv_N (a b : Nat) : PyData.eqv (pdN a) (pdN b) = decide (a = b) := by
  unfold pdN
  rw [PyData.eqv]
  show ((a : Int) == (b : Int)) = _
  rw [Bool.eq_iff_iff, beq_iff_eq, decide_eq_true_iff]
  omega
theorem eqv_S (a b : Str) : PyData.eqv (.str a) (.str b) = decide (a = b) := by
  rw [PyData.eqv]
  rfl
theorem eqv_row (a b : List Nat) : PyData.eqv (pdRow a) (pdRow b) = decide (a = b) := by
  unfold pdRow
  rw [PyData.eqv]
  exact eqvAll_by pdN eqv_N a b
theorem eqv_rows (a b : List (List Nat)) : PyData.eqv (pdRows a) (pdRows b) = decide (a = b) := by
  unfold pdRows
  rw [PyData.eqv]
  exact eqvAll_by pdRow eqv_row a b
theorem eqv_Ns (a b : List Nat) : PyData.eqv (pdNs a) (pdNs b) = decide (a = b) := by
  unfold pdNs
  rw [PyData.eqv]
  exact eqvAll_by pdN eqv_N a b
theorem eqv_Ss (a b : List Str) : PyData.eqv (pdStrs a) (pdStrs b) = decide (a = b) := by
  unfold pdStrs
  rw [PyData.eqv]
  exact eqvAll_by PyData.str eqv_S a b
theorem eqv_TSs (a b : List Str) : PyData.eqv (pdTStrs a) (pdTStrs b) = decide (a = b) := by
  unfold pdTStrs
  rw [PyData.eqv]
  exact eqvAll_by PyData.str eqv_S a b
theorem can_N (a : Nat) : (pdN a).canLay0 = true := by simp [pdN, PyData.canLay0]
theorem dep_N (a : Nat) : (pdN a).depth ≤ 0 := by simp [pdN, PyData.depth]
theorem can_row (a : List Nat) : (pdRow a).canLay0 = true := by
  unfold pdRow
  rw [PyData.canLay0]
  exact canAll_by pdN a fun b _ => can_N b
theorem dep_row (a : List Nat) : (pdRow a).depth ≤ 1 := by
  unfold pdRow
  rw [PyData.depth]
  exact Nat.succ_le_succ (depthAll_by pdN 0 a fun b _ => dep_N b)
theorem shp_of {d : PyData} (h : d.canLay0 = true) (hd : d.depth ≤ 64) : SeqAt.shaped d = true := by
  unfold SeqAt.shaped
  rw [h, decide_eq_true hd]
  rfl
theorem shp_rows (os : List (List Nat)) : SeqAt.shaped (pdRows os) = true := by
  refine shp_of ?_ ?_
  · unfold pdRows
    rw [PyData.canLay0]
    exact canAll_by pdRow os fun b _ => can_row b
  · unfold pdRows
    rw [PyData.depth]
    have := depthAll_by pdRow 1 os fun b _ => dep_row b
    omega
theorem shp_row (o : List Nat) : SeqAt.shaped (pdRow o) = true := shp_of (can_row o) (Nat.le_trans (dep_row o) (by decide))
theorem shp_Ns (o : List Nat) : SeqAt.shaped (pdNs o) = true := by
  refine shp_of ?_ ?_
  · unfold pdNs
    rw [PyData.canLay0]
    exact canAll_by pdN o fun b _ => can_N b
  · unfold pdNs
    rw [PyData.depth]
    have := depthAll_by pdN 0 o fun b _ => dep_N b
    omega
theorem shp_Ss {l : List Str} (h : ∀ x ∈ l, PyData.strOk x = true) : SeqAt.shaped (pdStrs l) = true := by
  refine shp_of ?_ ?_
  · unfold pdStrs
    rw [PyData.canLay0]
    exact canAll_by PyData.str l fun b hb => by
      rw [PyData.canLay0]
      exact h b hb
  · unfold pdStrs
    rw [PyData.depth]
    have := depthAll_by PyData.str 0 l fun b _ => by simp [PyData.depth]
    omega
theorem shp_TSs {l : List Str} (h : ∀ x ∈ l, PyData.strOk x = true) : SeqAt.shaped (pdTStrs l) = true := by
  refine shp_of ?_ ?_
  · unfold pdTStrs
    rw [PyData.canLay0]
    exact canAll_by PyData.str l fun b hb => by
      rw [PyData.canLay0]
      exact h b hb
  · unfold pdTStrs
    rw [PyData.depth]
    have := depthAll_by PyData.str 0 l fun b _ => by simp [PyData.depth]
    omega
section
variable {K : PySem.W.Frag} {σ : L2.St} {H : Hp} {p q : Addr}
theorem dpa_ns : ∀ o : List Nat, DpAll K H (o.map bx) (o.map pdN)
  | [] => .nil
  | b :: o => .cons (.int _) (dpa_ns o)
theorem dpa_strs : ∀ l : List Str, DpAll K H (l.map V.str) (l.map PyData.str)
  | [] => .nil
  | b :: o => .cons (.str _) (dpa_strs o)
theorem dp_row {a : Addr} {o : List Nat} (h : TupAt H a o) : Dp K H (.ref a) (pdRow o) := .tup h.sq (dpa_ns o)
theorem dpa_rows : ∀ {as : List Addr} {os : List (List Nat)}, Paired (TupAt H) as os → DpAll K H (as.map V.ref) (os.map pdRow)
  | _, _, .nil => .nil
  | _, _, .cons h t => .cons (dp_row h) (dpa_rows t)
theorem dp_rows {os : List (List Nat)} (h : OrdL H p os) : Dp K H (.ref p) (pdRows os) := by
  obtain ⟨as, h1, h2⟩ := h
  exact .lst (.inl (.inl h1)) (dpa_rows h2)
theorem dp_ns {o : List Nat} (h : H p = some (.lst (o.map bx))) : Dp K H (.ref p) (pdNs o) := .lst (.inl (.inl h)) (dpa_ns o)
theorem dp_strs {l : List Str} (h : H p = some (.lst (l.map V.str))) : Dp K H (.ref p) (pdStrs l) := .lst (.inl (.inl h)) (dpa_strs l)
theorem dp_tstrs {l : List Str} (h : SqT K H p (l.map V.str)) : Dp K H (.ref p) (pdTStrs l) := .tup h (dpa_strs l)
theorem rv_eqD {x y : V} {d e : PyData} {b : Bool} (hx : ∀ H1, Ex H H1 → Dp K H1 x d) (hy : ∀ H1, Ex H H1 → Dp K H1 y e) (sd : SeqAt.shaped d = true) (se : SeqAt.shaped e = true) (hb : PyData.eqv d e = b) : RV (rEqD K) x y H (.bl b) := fun H1 e1 Q k =>
  ⟨d, e, hx H1 e1, hy H1 e1, sd, se, by rw [hb]; exact k H1 (Ex.refl H1)⟩
theorem rv_neD {x y : V} {d e : PyData} {b : Bool} (hx : ∀ H1, Ex H H1 → Dp K H1 x d) (hy : ∀ H1, Ex H H1 → Dp K H1 y e) (sd : SeqAt.shaped d = true) (se : SeqAt.shaped e = true) (hb : PyData.eqv d e = b) : RV (rNeD K) x y H (.bl (!b)) := fun H1 e1 Q k =>
  ⟨d, e, hx H1 e1, hy H1 e1, sd, se, by rw [hb]; exact k H1 (Ex.refl H1)⟩
/-- rows == [] -/
theorem ev_noRows {te : TE} {os : List (List Nat)} (h : Ev te σ H (.ref p)) (ho : OrdL H p os) : Ev (tOp (rEqD K) te (tLst tNil)) σ H (.bl os.isEmpty) :=
  ev_opL h (el_lst ea_nil (Nat.zero_le _)) fun q H1 hq e1 => rv_eqD (d := pdRows os) (e := pdRows []) (fun H2 e2 => dp_rows (ho.ex (e1.trans e2))) (fun H2 e2 => .lst (.inl (.inl (e2 _ _ hq))) .nil) (shp_rows _) (shp_rows _) (by
    rw [eqv_rows]
    cases os <;> rfl)
theorem ev_someRows {te : TE} {os : List (List Nat)} (h : Ev te σ H (.ref p)) (ho : OrdL H p os) : Ev (tOp (rNeD K) te (tLst tNil)) σ H (.bl (!os.isEmpty)) :=
  ev_opL h (el_lst ea_nil (Nat.zero_le _)) fun q H1 hq e1 => rv_neD (d := pdRows os) (e := pdRows []) (fun H2 e2 => dp_rows (ho.ex (e1.trans e2))) (fun H2 e2 => .lst (.inl (.inl (e2 _ _ hq))) .nil) (shp_rows _) (shp_rows _) (by
    rw [eqv_rows]
    cases os <;> rfl)
end
end Lp

set_option Elab.async false
set_option linter.all false
set_option maxRecDepth 100000
set_option maxHeartbeats 4000000
/-! Lostplates: the walks of check_log, left_by, possible, need_some, first_wrong. -/
namespace Lp
open PySem PySem.Spec PyProof.Rows L2
open Evl
abbrev sCheck : Stmt := top 43
abbrev sLeft : Stmt := top 44
abbrev sPossible : Stmt := top 45
abbrev sNeed : Stmt := top 46
abbrev sFirst : Stmt := top 49
/-- a log that can be -/
structure LogOk (h : Hs) (log : List Ent) : Prop where
  len : log.length ≤ 6
  bx : ∀ e ∈ log, e.b < h.n
  seen : ∀ e ∈ log, ∀ k, e.seen = some k → k ≤ 6
theorem LogOk.take {h : Hs} {log : List Ent} (L : LogOk h log) (k : Nat) : LogOk h (log.take k) :=
  ⟨Nat.le_trans (List.length_take_le' k log) L.len, fun e he => L.bx e (List.mem_of_mem_take he), fun e he => L.seen e (List.mem_of_mem_take he)⟩
theorem rv_notN {x : V} {H : Hp} : RV (fun x y H Q => y = .non ∧ Q (.bl (!decide (x = .non))) H) x .non H (.bl (!decide (x = .non))) := fun H1 e Q q => ⟨rfl, q H1 (Ex.refl H1)⟩
theorem in_names {l : List Str} {x : Str} {j : Nat} (h : l[j]? = some x) : inV (.str x) (l.map V.str) = true := by
  unfold inV
  rw [List.any_map, List.any_eq_true]
  exact ⟨x, List.mem_of_getElem? h, beq_self_eq_true x⟩
/-- an item of a list of objects -/
theorem ref_at {β : Type} {F : Addr → β → Prop} {as : List Addr} {l : List β} {i : Nat} {y : V} (h : Paired F as l) (hy : (as.map V.ref)[i]? = some y) : ∃ (a : Addr) (b : β), y = .ref a ∧ l[i]? = some b ∧ F a b := by
  rw [List.getElem?_map] at hy
  obtain ⟨a, ha, e⟩ := Option.map_eq_some_iff.mp hy
  obtain ⟨b, hb, hf⟩ := paired_at h ha
  exact ⟨a, b, e.symm, hb, hf⟩
theorem ei_refs {β : Type} {F : Addr → β → Prop} {K : PySem.W.Frag} {σ : L2.St} {H : Hp} {tl : TE} {a : Addr} {as : List Addr} {l : List β} (h : Ev tl σ H (.ref a)) (hx : H a = some (.lst (as.map V.ref))) (hp : Paired F as l) : EvI (iList K tl) σ H l.length (YAt (as.map V.ref)) := by
  rw [← paired_len hp, ← List.length_map (f := V.ref)]
  exact ei_list h (.inl (.inl hx))
theorem scal_ob (a b : Option Nat) : scal (ob a) (ob b) = true := by cases a <;> cases b <;> rfl
theorem eq_ob (a b : Option Nat) : decide (ob a = ob b) = decide (a = b) := by
  rw [decide_eq_decide]
  exact ⟨ob_inj, fun h => by rw [h]⟩
section
variable {P : Program} {w : World} {K : PySem.W.Frag} {mg : Str → Option Value} {base : Heap} {C : Addr}

/-! ### check_log: of logs that can be -/
def gCheck (C : Addr) : List V → Hp → V → Prop := fun vs H z => ∃ (p q : Addr) (h : Hs) (log : List Ent), vs = [.ref p, .ref q] ∧ HouseAt C H p h ∧ h.Ok ∧ LogL h.names H q log ∧ LogOk h log ∧ z = .non
theorem scCheck : FnScope ["house", "log", "index", "name", "box", "seen", "is_named"] ["house", "log"] (defScope sCheck) := ⟨rfl, rfl, rfl, by decide +kernel, rfl, by decide +kernel, by decide +kernel⟩
theorem ok_check (D : DefAt K mg "check_log" sCheck) (T : Tx K mg) (Hh : Hc K mg C) (F : Df P w K mg base CX0 1 "is_number" (spV gNumber)) : Df P w K mg base CX0 2 "check_log" (spV (gCheck C)) := by
  refine D.ok scCheck (fun _ _ _ _ _ _ us hl => match us, hl with | [_, _], _ => rfl) (fun vs H Q E h => ?_) (fun f cdv A outer s H vs Q E hr h => ?_)
  · obtain ⟨z, ⟨p, q, h, log, rfl, _⟩, _⟩ := h
    rfl
  · obtain ⟨z, ⟨p, q, h, log, rfl, hh, O, hlog, L, rfl⟩, kk⟩ := h
    obtain ⟨p0, S0⟩ := Hh.s0
    obtain ⟨p1, S1⟩ := Hh.s1
    refine ⟨_, pss_one (ps_for PassesOwn.never rfl (pi_enum (by rfl) T.enum (pa_cons (pv 1) pa_nil)) (pg_tup rfl (pgs_cons (pg_name (i := 2) scCheck.nd rfl (Or.inl rfl)) (pgs_cons (pg_tup rfl (pgs_cons (pg_name (i := 3) scCheck.nd rfl (Or.inl rfl)) (pgs_cons (pg_name (i := 4) scCheck.nd rfl (Or.inl rfl)) (pgs_cons (pg_name (i := 5) scCheck.nd rfl (Or.inl rfl)) pgs_nil)))) pgs_nil)))
      (pss_cons (ps_set (i := 6) scCheck.nd rfl (Or.inl rfl) (pe_and (pe_callB call_isi (by rfl) T.isi boot_isinstance (pa_cons (pv 3) (pa_cons (pe_bltn (by rfl) T.str boot_str (v := .ty "str") rfl) pa_nil))) (pe_one (pe_cmpR op_in_seq (pv 3) (pe_slot Hh.cl S0 (pv 0)) rfl))))
      (pss_cons (ps_if (PW.pt (pw_or (pt_not (pt_val (pv 6))) (pw_or1 (pt_not (pt_val (pe_df F hr (by rfl) pass0 (pa_cons (pv 4) (pa_cons pe_int (pa_cons (pe_op op_sub (pe_callB call_len_seq (by rfl) T.len PySem.boot_len (pa_cons (pe_slot Hh.cl S1 (pv 0)) pa_nil)) pe_int) pa_nil))))))))) pss_never pss_nil)
      (pss_one (ps_if (PW.pt (pw_and (pt_cmpR op_notN (pv 5) pe_non (nomark _)) (pw_and1 (pt_not (pt_val (pe_df F hr (by rfl) pass0 (pa_cons (pv 5) (pa_cons pe_int (pa_cons (pe_gi (by rfl) T.maxAnswer) pa_nil))))))))) pss_never pss_nil))))), ?_⟩
    obtain ⟨dx, nT, sT, wD, h1, h2, h3, h4⟩ := id hh
    obtain ⟨as, hq, has⟩ := hlog
    refine s_forI (ei_enumL (ea_cons (ev_var rfl) ea_nil) (.inl (.inl hq))) (fun i σ' H' => ∃ v2 v3 v4 v5 v6 : Option V, σ' = [some (.ref p), some (.ref q), v2, v3, v4, v5, v6] ∧ Ex H H') (fun H1 e => ⟨none, none, none, none, none, rfl, e⟩) (fun i σ' H' ⟨_, _, _, _, _, _, e⟩ => e) ?_ ?_
    · rintro i x σ' H' H'' hi ⟨v2, v3, v4, v5, v6, rfl, e⟩ ⟨T', x1, y1, rfl, hT, rfl, hx, hy⟩
      obtain ⟨a, en, rfl, hen, nm, hnm, hat⟩ := ref_at has hy
      have hx1 := Option.some.inj hx
      subst hx1
      have hmem := List.mem_of_getElem? hen
      have e1 := e.trans (Ex.new (o := HO.tup [.int (i : Nat), .ref a]) hT)
      refine ⟨T', [.int (i : Nat), .ref a], rfl, .inl (.inl upd_same), rfl, _, _, rfl, _, _, rfl, g_three (.inl (.inl (e1 _ _ hat))) ⟨rfl, ?_⟩⟩
      refine q_asg (v := .bl true) (ev_andV (a := true) (ev_isi (ev_var rfl) ev_c (ClsV.ty _) (fun _ _ => TyX.base (TyOf.str nm)) (kit_ty (by decide +kernel))) fun _ => ev_is (ev_op (ev_var rfl) (ev_slot (ev_var rfl) (slAt_ex e1 h1) rfl) (rv_isT (FT.sq (h2.ex e1)) rfl (flat_str _))) (by rw [in_names hnm])) fun H2 e2 => ?_
      have e12 := e1.trans e2
      have hbn : en.b < h.signs.length := L.bx en hmem
      refine q_when (b := false) (et_or (a := false) (b := false) (et_not (a := true) (et_B (ev_var rfl))) fun _ => et_not (a := true) (et_B (ev_clV (ea_cons (ev_var rfl) (ea_cons ev_c (ea_cons (ev_op (z := .int ((h.signs.length : Int) - 1)) (ev_is (ev_lenT (ev_slot (ev_var rfl) (slAt_ex e12 h1) rfl) (.inl (.inl (e12 _ _ h3)))) (by rw [List.length_map])) ev_c rv_I0) ea_nil))) (spV_g fun H3 e3 => ⟨(en.b : Int), 0, _, rfl, ?_⟩))))
        (fun hb => by cases hb) (fun _ H3 e3 => ?_)
      · rw [decide_eq_true (show (0 : Int) ≤ (en.b : Int) by omega), decide_eq_true (show (en.b : Int) ≤ (h.signs.length : Int) - 1 by omega)]
        rfl
      · cases hs : en.seen with
        | none =>
          refine s_when (b := false) (et_and (a := false) (b := false) (et_test (ev_is (ev_op (ev_var rfl) ev_c rv_notN) rfl)) fun q => by cases q) (fun hb => by cases hb) (fun _ H4 e4 => ⟨_, _, _, _, _, rfl, (e12.trans e3).trans e4⟩)
        | some k =>
          have hk := L.seen en hmem k hs
          refine s_when (b := false) (et_and (a := true) (b := false) (et_test (ev_is (ev_op (ev_var rfl) ev_c rv_notN) rfl)) fun _ => et_not (a := true) (et_B (ev_clV (ea_cons (ev_var rfl) (ea_cons ev_c (ea_cons ev_c ea_nil))) (spV_g fun H4 e4 => ⟨(k : Int), 0, 6, rfl, ?_⟩))))
            (fun hb => by cases hb) (fun _ H4 e4 => ⟨_, _, _, _, _, rfl, (e12.trans e3).trans e4⟩)
          rw [decide_eq_true (show (0 : Int) ≤ (k : Int) by omega), decide_eq_true (show (k : Int) ≤ 6 by omega)]
          rfl
    · rintro σ' H' ⟨v2, v3, v4, v5, v6, rfl, e⟩
      exact kk H' e

/-! ### left_by -/
def gLeft (C : Addr) : List V → Hp → (V → Hp → Prop) → Prop := fun vs H R => ∃ (p r q : Addr) (h : Hs) (rows : List (List Nat)) (log : List Ent), vs = [.ref p, .ref r, .ref q] ∧ HouseAt C H p h ∧ h.Ok ∧ OrdLF H r rows ∧ (∀ o ∈ rows, o.length = h.names.length) ∧ rows.length ≤ 625 ∧ LogL h.names H q log ∧ LogOk h log ∧
  R = fun v H' => ∃ u, v = .ref u ∧ H u = none ∧ OrdLF H' u (left h.ways rows log)
theorem scLeft : FnScope ["house", "rows", "log", "found", "order", "name", "box", "seen"] ["house", "rows", "log"] (defScope sLeft) := ⟨rfl, rfl, rfl, by decide +kernel, rfl, by decide +kernel, by decide +kernel⟩
theorem left_take {ways : List Man} {rows : List (List Nat)} {log : List Ent} {i : Nat} {o : List Nat} (h : rows[i]? = some o) : left ways (rows.take (i + 1)) log = left ways (rows.take i) log ++ (if log.all (agrees ways o) = true then [o] else []) := by
  unfold left
  rw [take_snoc h, List.filter_append, List.filter_cons]
  rfl
theorem ok_left (D : DefAt K mg "left_by" sLeft) (T : Tx K mg) (Hh : Hc K mg C) (F : Df P w K mg base CX0 3 "answer_of" (spV (gAnswer C))) : Df P w K mg base CX0 4 "left_by" (spG (gLeft C)) := by
  refine D.ok scLeft (fun _ _ _ _ _ _ us hl => match us, hl with | [_, _, _], _ => rfl) (fun vs H Q E h => ?_) (fun f cdv A outer s H vs Q E hr h => ?_)
  · obtain ⟨z, ⟨p, r, q, h, rows, log, rfl, _⟩, _⟩ := h
    rfl
  · obtain ⟨z, ⟨p, r, q, h, rows, log, rfl, hh, O, hrows, hlen, hmany, hlog, L, rfl⟩, kk⟩ := h
    refine ⟨_, pss_cons (ps_set (i := 3) scLeft.nd rfl (Or.inl rfl) (pe_lst pa_nil))
      (pss_cons (ps_for PassesOwn.never rfl (pi_list (pv 1)) (pg_name (i := 4) scLeft.nd rfl (Or.inr rfl))
        (pss_one (ps_if (pt_val (pe_callB (cr_all rfl) (by rfl) T.all boot_all (pa_cons (pe_lc (own := [("name", 5), ("box", 6), ("seen", 7)]) (g := gTup K 3 (gCons (gName 5) (gCons (gName 6) (gCons (gName 7) gNil)))) (tt := tYes) rfl scLeft.nd (pi_list (pv 2)) (blkOk_by (N := ["house", "rows", "log", "found", "order", "name", "box", "seen"]) (sc := defScope sLeft) (by decide +kernel))
          (fun _ _ _ _ _ => pg_tup rfl (pgs_cons (pg_name (i := 5) scLeft.nd rfl (Or.inl rfl)) (pgs_cons (pg_name (i := 6) scLeft.nd rfl (Or.inl rfl)) (pgs_cons (pg_name (i := 7) scLeft.nd rfl (Or.inl rfl)) pgs_nil)))) (fun _ _ _ _ _ => pts_nil)
          (fun _ _ _ _ _ => pe_cmpR op_eq (pe_df F (hr.mono (Nat.le_refl _)) (by rfl) pass0 (pa_cons (pv 0) (pa_cons (pv 4) (pa_cons (pv 5) (pa_cons (pv 6) pa_nil))))) (pv 7) (nomark _))) pa_nil)))
          (pss_one (ps_expr (pe_bm PySem.F.plainAttrs_list PySem.F.slot_list_append PySem.F.type_list_append mt_append (pv 3) (pa_cons (pv 4) pa_nil)))) pss_nil)))
      (pss_one (ps_ret (pv 3)))), ?_⟩
    obtain ⟨as, hr1, hras⟩ := id hrows
    obtain ⟨ls, hq, hls⟩ := id hlog
    refine q_asgL (el_lst ea_nil (Nat.zero_le _)) fun u H1 hu e1 hL => ?_
    refine q_forB (HB := H) (ei_refs (ev_var rfl) hr1 hras) e1 (fun i σ' H' => ∃ (v4 v5 v6 v7 : Option V) (bs : List Addr), σ' = [some (.ref p), some (.ref r), some (.ref q), some (.ref u), v4, v5, v6, v7] ∧ Ex H H' ∧ H' u = some (.lst (bs.map V.ref)) ∧ Paired (OrdF H') bs (left h.ways (rows.take i) log))
      (fun H2 e2 => ⟨none, none, none, none, [], rfl, e1.trans e2, e2 _ _ hL, .nil⟩) (fun i σ' H' ⟨_, _, _, _, _, _, e, _⟩ => e) ?_ ?_
    · rintro i x σ' HA' HA hi ⟨v4, v5, v6, v7, bs, rfl, eA, hLA, hbs⟩ ⟨rfl, hx⟩
      obtain ⟨a, o, rfl, ho, hoa⟩ := ref_at hras hx
      have hol := hlen o (List.mem_of_getElem? ho)
      have lbs := paired_len hbs
      have l1 := left_len h.ways (rows.take i) log
      have l2 := List.length_take_le' i rows
      refine s_when (b := log.all (agrees h.ways o)) (et_is (et_B (ev_all (bs := log.map (agrees h.ways o)) (el_lstM (l := log) (ei_refs (ev_var rfl) (eA _ _ hq) hls) (Nat.le_trans L.len (by decide)) (fun e => .bl (agrees h.ways o e)) ?_) fun us H2 hus => ?_)) (all_map_bl _ _)) (fun hb H2 e2 => ?_) (fun hb H2 e2 => ⟨_, _, _, _, bs, rfl, eA.trans e2, e2 _ _ hLA, ?_⟩)
      · rintro k en HC' y HC hk eC ⟨rfl, hy⟩
        obtain ⟨la, en', rfl, hen, nm, hnm, hat⟩ := ref_at hls hy
        have een : en' = en := Option.some.inj (hen.symm.trans hk)
        subst een
        have hmem := List.mem_of_getElem? hk
        refine ⟨Ex.refl _, [some (.ref p), some (.ref r), some (.ref q), some (.ref u), some (.ref a), some (.str nm), some (bx en'.b), some (ob en'.seen)], rfl, fun Kk z => g_three (.inl (.inl (eC _ _ (eA _ _ hat)))) (z _ (Ex.refl _)), et_yes, fun _ => Evl_g (ev_is (ev_op (ev_clV (z := ob (ans h.ways o en'.j en'.b)) (ea_cons (ev_var rfl) (ea_cons (ev_var rfl) (ea_cons (ev_var rfl) (ea_cons (ev_var rfl) ea_nil))))
          (spV_g fun H4 e4 => ⟨p, a, h, o, en'.j, en'.b, nm, rfl, hh.ex ((eA.trans eC).trans e4), O, OrdF.ex ((eA.trans eC).trans e4) hoa, hol, hnm, L.bx en' hmem, rfl⟩)) (ev_var rfl) (rv_eq (scal_ob _ _))) (by rw [eq_ob]; rfl))⟩
      · rw [hus, List.map_map]
        rfl
      · have hl2 := e2 _ _ hLA
        refine s_app hl2 (ev_var rfl) (ev_var rfl) (by rw [List.length_map]; omega) fun H3 e3 => ⟨_, _, _, _, bs ++ [a], rfl, Ex.chg (eA.trans (e2.trans e3)) hu, ?_, ?_⟩
        · rw [upd_same, List.map_append]
          rfl
        · have hl3 : H3 u = some (.lst (bs.map V.ref)) := e3 _ _ hl2
          rw [left_take ho, if_pos hb]
          exact paired_app (paired_mono (fun _ _ z => OrdF.kt ((Kt.of (e2.trans e3)).trans (Kt.lst hl3)) z) hbs) (.cons (OrdF.kt (Kt.lst hl3) (OrdF.ex (eA.trans (e2.trans e3)) hoa)) .nil)
      · rw [left_take ho, if_neg (by rw [hb]; exact Bool.false_ne_true), List.append_nil]
        exact paired_mono (fun _ _ z => OrdF.ex e2 z) hbs
    · rintro σ' HA ⟨v4, v5, v6, v7, bs, rfl, eA, hLA, hbs⟩
      rw [List.take_length] at hbs
      exact s_ret (ev_var rfl) fun H2 e2 => kk _ H2 (eA.trans e2) ⟨u, rfl, hu, bs, e2 _ _ hLA, paired_mono (fun _ _ z => OrdF.ex e2 z) hbs⟩
end
end Lp

set_option Elab.async false
set_option linter.all false
set_option maxRecDepth 100000
set_option maxHeartbeats 4000000
/-! Lostplates: the walks of possible, need_some, first_wrong, surely_behind, surely_free. -/
namespace Lp
open PySem PySem.Spec PyProof.Rows L2
open Evl
abbrev sBehind : Stmt := top 47
abbrev sFree : Stmt := top 48
/-- the class NoOrder -/
structure Nx (K : PySem.W.Frag) (mg : Str → Option Value) (C : Addr) : Prop where
  g : mg "NoOrder" = some (.ref C)
  x : PySem.W.excIn K C [.type "ValueError", .type "Exception", .type "BaseException", .type "object"] "ValueError.__new__" = true
  k : PySem.W.keepIn K (.ref C) = true
  b : PySem.W.subIn K (.ref C) (.type "BaseException") = some true
  t : PySem.W.typeIn K (.ref C) = some (.type "type")
theorem cutV_take {xs : List V} {k : Nat} (h : k ≤ xs.length) : cutV xs none (some (k : Int)) = xs.take k := by
  unfold cutV
  rw [HT.sIx_nat, HT.sIx_none, Nat.min_eq_left h, List.drop_zero, Nat.sub_zero]
theorem paired_take {α β : Type} {F : α → β → Prop} : ∀ {l : List α} {m : List β} (k : Nat), Paired F l m → Paired F (l.take k) (m.take k)
  | _, _, 0, _ => .nil
  | _, _, _ + 1, .nil => .nil
  | _, _, k + 1, .cons h t => .cons h (paired_take k t)
theorem ev_clG {sp : Sp} {E : XK} {ta tb tc : TE} {σ : L2.St} {H : Hp} {x z : V} {G R : V → Hp → Prop} (ha : Ev ta σ H x) (hg : EvG tb σ H G) (hc : Ev tc σ H z)
    (hs : ∀ v H1, Ex H H1 → G v H1 → ∀ H2, Ex H1 H2 → ∀ Q : VK, (∀ u H3, Ex H2 H3 → R u H3 → Q u H3) → ∀ E : XK, sp [x, v, z] H2 Q E) : EvG (tCl sp E (tCons ta (tCons tb (tCons tc tNil)))) σ H R := fun H1 e Q q =>
  ha H1 e _ fun H2 e2 => hg H2 (e.trans e2) _ fun v H3 e3 gv => hc H3 ((e.trans e2).trans e3) _ fun H4 e4 => hs v H3 ((e.trans e2).trans e3) gv H4 e4 _ (fun u H5 e5 r => q u H5 (((e2.trans e3).trans e4).trans e5) r) E
theorem ev_clL {sp : Sp} {E : XK} {ta tb tc : TE} {σ : L2.St} {H : Hp} {x y : V} {xs : List V} {R : V → Hp → Prop} (ha : Ev ta σ H x) (hb : Ev tb σ H y) (hc : EvL tc σ H xs)
    (hs : ∀ c H1, Ex H H1 → H1 c = some (.lst xs) → ∀ Q : VK, (∀ u H3, Ex H1 H3 → R u H3 → Q u H3) → ∀ E : XK, sp [x, y, .ref c] H1 Q E) : EvG (tCl sp E (tCons ta (tCons tb (tCons tc tNil)))) σ H R := fun H1 e Q q =>
  ha H1 e _ fun H2 e2 => hb H2 (e.trans e2) _ fun H3 e3 => hc H3 ((e.trans e2).trans e3) _ fun c H4 _ e4 h4 => hs c H4 (((e.trans e2).trans e3).trans e4) h4 _ (fun u H5 e5 r => q u H5 (((e2.trans e3).trans e4).trans e5) r) E
section
variable {P : Program} {w : World} {K : PySem.W.Frag} {mg : Str → Option Value} {base : Heap} {C CN : Addr}

/-! ### possible -/
def gPossible (C : Addr) : List V → Hp → (V → Hp → Prop) → Prop := fun vs H R => ∃ (p q : Addr) (h : Hs) (log : List Ent), vs = [.ref p, .ref q] ∧ HouseAt C H p h ∧ h.Ok ∧ LogL h.names H q log ∧ LogOk h log ∧
  R = fun v H' => ∃ u, v = .ref u ∧ H u = none ∧ OrdLF H' u (left h.ways h.ords log)
theorem scPossible : FnScope ["house", "log"] ["house", "log"] (defScope sPossible) := ⟨rfl, rfl, rfl, by decide +kernel, rfl, by decide +kernel, by decide +kernel⟩
theorem ords_lens {h : Hs} : ∀ o ∈ h.ords, o.length = h.names.length := fun o ho => (ords_row ho).len
theorem ok_possible (D : DefAt K mg "possible" sPossible) (T : Tx K mg) (F1 : Df P w K mg base CX0 2 "check_log" (spV (gCheck C))) (F2 : Df P w K mg base CX0 3 "all_orders" (spG (gOrders C))) (F3 : Df P w K mg base CX0 4 "left_by" (spG (gLeft C))) :
    Df P w K mg base CX0 5 "possible" (spG (gPossible C)) := by
  refine D.ok scPossible (fun _ _ _ _ _ _ us hl => match us, hl with | [_, _], _ => rfl) (fun vs H Q E h => ?_) (fun f cdv A outer s H vs Q E hr h => ?_)
  · obtain ⟨z, ⟨p, q, h, log, rfl, _⟩, _⟩ := h
    rfl
  · obtain ⟨z, ⟨p, q, h, log, rfl, hh, O, hlog, L, rfl⟩, kk⟩ := h
    refine ⟨_, pss_cons (ps_expr (pe_df F1 (hr.mono (by decide)) (by rfl) pass0 (pa_cons (pv 0) (pa_cons (pv 1) pa_nil))))
      (pss_one (ps_ret (pe_df F3 hr (by rfl) pass0 (pa_cons (pv 0) (pa_cons (pe_df F2 (hr.mono (by decide)) (by rfl) pass0 (pa_cons (pv 0) pa_nil)) (pa_cons (pv 1) pa_nil)))))), ?_⟩
    refine q_drop (ev_clV (ea_cons (ev_var rfl) (ea_cons (ev_var rfl) ea_nil)) (spV_g fun H1 e1 => ⟨p, q, h, log, rfl, hh.ex e1, O, hlog.ex e1, L, rfl⟩)) fun H1 e1 => ?_
    refine s_retG (G := fun v H' => ∃ u, v = .ref u ∧ H u = none ∧ OrdLF H' u (left h.ways h.ords log)) (ev_clG (ev_var rfl) (ev_cl (ea_cons (ev_var rfl) ea_nil) (G := fun v H' => ∃ r, v = .ref r ∧ H1 r = none ∧ OrdLF H' r h.ords) fun H2 e2 Q q E => ⟨_, ⟨p, h, rfl, hh.ex (e1.trans e2), O, rfl⟩, fun v H3 e3 ⟨r, r1, r2, r3⟩ => q v H3 e3 ⟨r, r1, Ex.back e2 r2, r3⟩⟩) (ev_var rfl) ?_) fun v H2 e2 hv => kk v H2 (e1.trans e2) hv
    rintro v H2 e2 ⟨r, rfl, hr0, hr1⟩ H3 e3 Q q E
    have e13 := (e1.trans e2).trans e3
    exact ⟨_, ⟨p, r, _, h, h.ords, log, rfl, hh.ex e13, O, hr1.ex e3, ords_lens, ords_le O, hlog.ex e13, L, rfl⟩, fun v H4 e4 ⟨u, u1, u2, u3⟩ => q v H4 e4 ⟨u, u1, Ex.back e13 u2, u3⟩⟩

/-! ### need_some -/
def spNeed (CN : Addr) : Sp := fun vs H Q E => ∃ (p : Addr) (os : List (List Nat)), vs = [.ref p] ∧ OrdL H p os ∧ (os ≠ [] → ∀ H', Ex H H' → Q .non H') ∧ (os = [] → ∀ H', Ex H H' → E (.ref CN) none H')
theorem scNeed : FnScope ["rows"] ["rows"] (defScope sNeed) := ⟨rfl, rfl, rfl, by decide +kernel, rfl, by decide +kernel, by decide +kernel⟩
theorem ok_need (D : DefAt K mg "need_some" sNeed) (N : Nx K mg CN) : Df P w K mg base (L2.CX P w) 1 "need_some" (spNeed CN) := by
  refine D.okX scNeed (fun _ _ _ _ _ _ us hl => match us, hl with | [_], _ => rfl) (fun vs H Q E h => ?_) (fun f cdv A outer s H vs Q E hr h => ?_)
  · obtain ⟨p, os, rfl, _⟩ := h
    rfl
  · obtain ⟨p, os, rfl, ho, k1, k2⟩ := h
    refine ⟨_, pss_one (ps_if (pt_cmpR (op_eqD hr.units) (pv 0) (pe_lst pa_nil) (nomark _)) (pss_one (ps_raise rfl (takes_of rfl rfl rfl rfl) (pmk_own PySem.F.excBase_ValueError N.x N.g N.k (raises_own N.b N.t) rfl))) pss_nil), ?_⟩
    refine s_when (et_test (ev_noRows (ev_var rfl) ho)) (fun hb H1 e1 => ?_) (fun hb H1 e1 => ?_)
    · exact k2 (List.isEmpty_iff.mp hb) H1 e1
    · exact k1 (fun q => by rw [q] at hb; cases hb) H1 e1

/-! ### first_wrong -/
def gFirst (C : Addr) : List V → Hp → V → Prop := fun vs H z => ∃ (p q : Addr) (h : Hs) (log : List Ent), vs = [.ref p, .ref q] ∧ HouseAt C H p h ∧ h.Ok ∧ LogL h.names H q log ∧ LogOk h log ∧ z = ob (firstWrong h.ways h.ords log)
theorem scFirst : FnScope ["house", "log", "rows", "count"] ["house", "log"] (defScope sFirst) := ⟨rfl, rfl, rfl, by decide +kernel, rfl, by decide +kernel, by decide +kernel⟩
theorem ok_first (D : DefAt K mg "first_wrong" sFirst) (T : Tx K mg) (F1 : Df P w K mg base CX0 2 "check_log" (spV (gCheck C))) (F2 : Df P w K mg base CX0 3 "all_orders" (spG (gOrders C))) (F3 : Df P w K mg base CX0 4 "left_by" (spG (gLeft C))) :
    Df P w K mg base CX0 5 "first_wrong" (spV (gFirst C)) := by
  refine D.ok scFirst (fun _ _ _ _ _ _ us hl => match us, hl with | [_, _], _ => rfl) (fun vs H Q E h => ?_) (fun f cdv A outer s H vs Q E hr h => ?_)
  · obtain ⟨z, ⟨p, q, h, log, rfl, _⟩, _⟩ := h
    rfl
  · obtain ⟨z, ⟨p, q, h, log, rfl, hh, O, hlog, L, rfl⟩, kk⟩ := h
    refine ⟨_, pss_cons (ps_expr (pe_df F1 (hr.mono (by decide)) (by rfl) pass0 (pa_cons (pv 0) (pa_cons (pv 1) pa_nil))))
      (pss_cons (ps_set (i := 2) scFirst.nd rfl (Or.inl rfl) (pe_df F2 (hr.mono (by decide)) (by rfl) pass0 (pa_cons (pv 0) pa_nil)))
      (pss_cons (ps_for PassesOwn.never rfl (pi_range1 (by rfl) T.range (pa_cons (pe_op op_add (pe_callB call_len_seq (by rfl) T.len PySem.boot_len (pa_cons (pv 1) pa_nil)) pe_int) pa_nil)) (pg_name (i := 3) scFirst.nd rfl (Or.inl rfl))
        (pss_cons (ps_set (i := 2) scFirst.nd rfl (Or.inl rfl) (pe_df F3 hr (by rfl) pass0 (pa_cons (pv 0) (pa_cons (pv 2) (pa_cons (pe_slice sl_list (pv 1) po_none (po_some (pv 3))) pa_nil)))))
        (pss_one (ps_if (pt_cmpR (op_eqD hr.units) (pv 2) (pe_lst pa_nil) (nomark _)) (pss_one (ps_ret (pv 3))) pss_nil))))
      (pss_one (ps_ret pe_non)))), ?_⟩
    obtain ⟨ls, hq, hls⟩ := id hlog
    have hll := paired_len hls
    refine q_drop (ev_clV (ea_cons (ev_var rfl) (ea_cons (ev_var rfl) ea_nil)) (spV_g fun H1 e1 => ⟨p, q, h, log, rfl, hh.ex e1, O, hlog.ex e1, L, rfl⟩)) fun H1 e1 => ?_
    refine q_asgG (G := fun v H' => ∃ r, v = .ref r ∧ OrdLF H' r h.ords) (ev_cl (ea_cons (ev_var rfl) ea_nil) fun H2 e2 Q q E => ⟨_, ⟨p, h, rfl, hh.ex (e1.trans e2), O, rfl⟩, fun v H3 e3 ⟨r, r1, r2, r3⟩ => q v H3 e3 ⟨r, r1, r3⟩⟩) fun v H2 e2 ⟨r, hv, hr1⟩ => ?_
    subst hv
    have e12 := e1.trans e2
    have hn : ((ls.map V.ref).length : Int) + 1 = ((log.length + 1 : Nat) : Int) := by
      rw [List.length_map, hll]
      omega
    refine q_forI (ei_rng (n := log.length + 1) (ea_cons (ev_is (ev_op (ev_len (ev_var rfl) (.inl (.inl (e12 _ _ hq)))) ev_c rv_I0) (by rw [hn])) ea_nil) (by have := L.len; omega))
      (fun i σ' H' => ∃ (r : Addr) (v3 : Option V) (m : Nat), σ' = [some (.ref p), some (.ref q), some (.ref r), v3] ∧ Ex H2 H' ∧ m ≤ i ∧ OrdLF H' r (left h.ways h.ords (log.take m)) ∧ ∀ k, k < i → (left h.ways h.ords (log.take k)).isEmpty = false)
      (fun H3 e3 => ⟨r, none, 0, rfl, e3, Nat.le_refl _, by rw [List.take_zero, left_nil]; exact hr1.ex e3, fun k hk => by omega⟩) (fun i σ' H' ⟨_, _, _, _, e, _⟩ => e) ?_ ?_
    · rintro i x σ' HA' HA hi ⟨r', v3, m, rfl, eA, hm, hr2, hno⟩ ⟨rfl, rfl⟩
      have eHA := e12.trans eA
      have hilog : i ≤ log.length := by omega
      have hlens : ∀ o ∈ left h.ways h.ords (log.take m), o.length = h.names.length := fun o ho => ords_lens o (left_mem ho)
      have hmany : (left h.ways h.ords (log.take m)).length ≤ 625 := Nat.le_trans (left_len _ _ _) (ords_le O)
      refine q_asgG (G := fun v H' => ∃ r, v = .ref r ∧ OrdLF H' r (left h.ways h.ords (log.take i))) (ev_clL (xs := (ls.take i).map V.ref) (ev_var rfl) (ev_var rfl) ?_ fun c H3 e3 hc Q qq E => ?_) fun v H3 e3 ⟨r3, hv, hr3⟩ => ?_
      · have := el_sl (K := K) (te := tVar 1) (σ := [some (V.ref p), some (V.ref q), some (V.ref r'), some (V.int (i : Int))]) (H := HA) (ev_var rfl) eo_none (eo_some (te := tVar 3) (i := (i : Int)) (ev_var rfl)) (.inl (.inl (eHA _ _ hq)))
        rw [cutV_take (by rw [List.length_map, hll]; exact hilog), ← List.map_take] at this
        exact this
      · have e03 := eHA.trans e3
        refine ⟨_, ⟨p, r', c, h, _, log.take i, rfl, hh.ex e03, O, hr2.ex e3, hlens, hmany, ⟨ls.take i, hc, paired_take i (paired_mono (fun _ _ z => z.ex e03) hls)⟩, L.take i, rfl⟩, fun v H4 e4 ⟨u, u1, u2, u3⟩ => qq v H4 e4 ⟨u, u1, ?_⟩⟩
        rw [left_left _ _ _ _ _ hm] at u3
        exact u3
      · subst hv
        have e03 := eHA.trans e3
        refine s_when (et_test (ev_noRows (ev_var rfl) hr3.tup)) (fun hb H4 e4 => ?_) (fun hb H4 e4 => ?_)
        · have hf : firstWrong h.ways h.ords log = some i := List.find?_range_eq_some.mpr ⟨hb, List.mem_range.mpr hi, fun k hk => by rw [hno k hk]; rfl⟩
          rw [hf] at kk
          exact s_ret (ev_var rfl) fun H5 e5 => kk H5 ((e03.trans e4).trans e5)
        · refine ⟨r3, _, i, rfl, (eA.trans e3).trans e4, Nat.le_succ i, hr3.ex e4, fun k hk => ?_⟩
          rcases Nat.lt_or_ge k i with z | z
          · exact hno k z
          · have : k = i := by omega
            rw [this]
            exact hb
    · rintro σ' HA ⟨r', v3, m, rfl, eA, hm, hr2, hno⟩
      have hf : firstWrong h.ways h.ords log = none := List.find?_eq_none.mpr fun k hk => by
        rw [hno k (List.mem_range.mp hk)]
        exact Bool.false_ne_true
      rw [hf] at kk
      exact s_ret ev_c fun H5 e5 => kk H5 ((e12.trans eA).trans e5)
end
end Lp

set_option Elab.async false
set_option linter.all false
set_option maxRecDepth 100000
set_option maxHeartbeats 4000000
/-! Lostplates: the walks of surely_behind, surely_free. -/
namespace Lp
open PySem PySem.Spec PyProof.Rows L2
open Evl
/-- all rows have the same box at k -/
def sure (r0 : List Nat) (rows : List (List Nat)) (k : Nat) : Bool := rows.all fun r => r.getD k 0 == r0.getD k 0
def kvS (names : List Str) (r0 : List Nat) (k : Nat) : Key × V := (Sum.inr (names.getD k Str.empty), bx (r0.getD k 0))
def surK (names : List Str) (r0 : List Nat) (rows : List (List Nat)) (i : Nat) : List (Key × V) := ((List.range i).filter (sure r0 rows)).map (kvS names r0)
def surB (names : List Str) (rows : List (List Nat)) : List (Key × V) := surK names (rows.headD []) rows names.length
def freeB (n : Nat) (rows : List (List Nat)) : List Nat := (List.range n).filter fun b => !(rows.any fun r => r.contains b)
theorem surK_succ (names : List Str) (r0 : List Nat) (rows : List (List Nat)) (i : Nat) : surK names r0 rows (i + 1) = surK names r0 rows i ++ (if sure r0 rows i = true then [kvS names r0 i] else []) := by
  unfold surK
  rw [List.range_succ, List.filter_append, List.map_append, List.filter_cons]
  cases sure r0 rows i <;> rfl
theorem surK_len (names : List Str) (r0 : List Nat) (rows : List (List Nat)) (i : Nat) : (surK names r0 rows i).length ≤ i := by
  unfold surK
  rw [List.length_map]
  have := List.length_filter_le (sure r0 rows) (List.range i)
  rw [List.length_range] at this
  exact this
theorem valV_absent {kvs : List (Key × V)} {k : Key} (h : ∀ p ∈ kvs, p.1 ≠ k) : valV kvs k = none := by
  unfold valV
  rw [List.find?_eq_none.mpr fun p hp => by
    rw [decide_eq_true_iff]
    exact h p hp]
  rfl
theorem surK_new {names : List Str} (nd : names.Nodup) {r0 : List Nat} {rows : List (List Nat)} {i : Nat} {x : Str} (hx : names[i]? = some x) : valV (surK names r0 rows i) (Sum.inr x) = none := by
  refine valV_absent fun p hp => ?_
  unfold surK at hp
  obtain ⟨k, hk, rfl⟩ := List.mem_map.mp hp
  have hki := List.mem_range.mp (List.mem_filter.mp hk).1
  intro q
  have q2 : names.getD k Str.empty = x := Sum.inr.inj q
  have hin := (List.getElem?_eq_some_iff.mp hx).1
  have hk2 : names[k]? = some names[k] := List.getElem?_eq_getElem (by omega)
  rw [List.getD_eq_getElem?_getD, hk2] at q2
  have q3 : names[k] = x := q2
  rw [q3] at hk2
  have := nd_at nd hk2 hx
  omega
theorem kvS_at {names : List Str} {r0 : List Nat} {k : Nat} {x : Str} (h : names[k]? = some x) : kvS names r0 k = (Sum.inr x, bx (r0.getD k 0)) := by
  have e : names.getD k Str.empty = x := by
    rw [List.getD_eq_getElem?_getD, h]
    rfl
  show ((Sum.inr (names.getD k Str.empty) : Key), _) = _
  rw [e]
theorem bx_at {o : List Nat} {i : Nat} (h : i < o.length) : (o.map bx)[i]? = some (bx (o.getD i 0)) := by
  rw [List.getElem?_map, List.getD_eq_getElem?_getD, List.getElem?_eq_getElem h]
  rfl
theorem dec_bx (a b : Nat) : decide (bx a = bx b) = (a == b) := by
  rw [Bool.eq_iff_iff, decide_eq_true_iff, beq_iff_eq]
  exact ⟨bx_inj, fun h => by rw [h]⟩
theorem ei_rngL {σ : L2.St} {H : Hp} {ta : TA} {n : Nat} (h : EvA ta σ H [.int (n : Int)]) (hn : n ≤ 100000) : EvI (iRng1 ta) σ H (List.range n).length (YFn bx) := by
  rw [List.length_range]
  exact ei_rng h hn
theorem range_at {n i a : Nat} (h : (List.range n)[i]? = some a) : a = i ∧ i < n := by
  have hi := (List.getElem?_eq_some_iff.mp h).1
  rw [List.length_range] at hi
  rw [List.getElem?_range hi] at h
  exact ⟨(Option.some.inj h).symm, hi⟩
/-- a call for what it does -/
theorem q_call {sp : Sp} {E : XK} {t : TA} {vs : List V} {tz : TS} {D : Ends} {σ : L2.St} {H : Hp} (h : EvA t σ H vs) (k : ∀ H1, Ex H H1 → sp vs H1 (fun _ H' => tz D σ H') E) : tSeq (tDrop (tCl sp E t)) tz D σ H := h H (Ex.refl H) _ k
section
variable {P : Program} {w : World} {K : PySem.W.Frag} {mg : Str → Option Value} {base : Heap} {C CN : Addr}

/-! ### surely_behind -/
def spBehind (C CN : Addr) : Sp := fun vs H Q E => ∃ (p q : Addr) (h : Hs) (log : List Ent), vs = [.ref p, .ref q] ∧ HouseAt C H p h ∧ h.Ok ∧ LogL h.names H q log ∧ LogOk h log ∧
  (left h.ways h.ords log = [] → ∀ H', Ex H H' → E (.ref CN) none H') ∧
  (left h.ways h.ords log ≠ [] → ∀ d H', Ex H H' → H d = none → H' d = some (.dK (surB h.names (left h.ways h.ords log))) → Q (.ref d) H')
theorem scBehind : FnScope ["house", "log", "rows", "found", "index", "name", "row"] ["house", "log"] (defScope sBehind) := ⟨rfl, rfl, rfl, by decide +kernel, rfl, by decide +kernel, by decide +kernel⟩
theorem ok_behind (D : DefAt K mg "surely_behind" sBehind) (T : Tx K mg) (Hh : Hc K mg C) (F1 : Df P w K mg base CX0 5 "possible" (spG (gPossible C))) (F2 : Df P w K mg base (L2.CX P w) 1 "need_some" (spNeed CN)) :
    Df P w K mg base (L2.CX P w) 6 "surely_behind" (spBehind C CN) := by
  refine D.okX scBehind (fun _ _ _ _ _ _ us hl => match us, hl with | [_, _], _ => rfl) (fun vs H Q E h => ?_) (fun f cdv A outer s H vs Q E hr h => ?_)
  · obtain ⟨p, q, h, log, rfl, _⟩ := h
    rfl
  · obtain ⟨p, q, h, log, rfl, hh, O, hlog, L, k1, k2⟩ := h
    obtain ⟨p0, S0⟩ := Hh.s0
    refine ⟨_, pss_cons (ps_set (i := 2) scBehind.nd rfl (Or.inr rfl) (pe_df F1 hr (by rfl) pass0 (pa_cons (pv 0) (pa_cons (pv 1) pa_nil))))
      (pss_cons (ps_expr (pe_df F2 (hr.mono (by decide)) (by rfl) (passes_call (takes_of rfl rfl rfl rfl) fun _ _ _ _ z => z) (pa_cons (pv 2) pa_nil)))
      (PSs.nox (pss_cons (ps_set (i := 3) scBehind.nd rfl (Or.inl rfl) pe_dnewK)
      (pss_cons (ps_for PassesOwn.never rfl (pi_enumT (by rfl) T.enum (pa_cons (pe_slot Hh.cl S0 (pv 0)) pa_nil)) (pg_tup rfl (pgs_cons (pg_name (i := 4) scBehind.nd rfl (Or.inr rfl)) (pgs_cons (pg_name (i := 5) scBehind.nd rfl (Or.inl rfl)) pgs_nil)))
        (pss_one (ps_if (pt_val (pe_callB (cr_all rfl) (by rfl) T.all boot_all (pa_cons (pe_lc (own := [("row", 6)]) (g := gName 6) (te := tOp rEq (tOp (rIxT K) (tVar 6) (tVar 4)) (tOp (rIxT K) (tOp (rIxL K) (tVar 2) (tC (.int 0))) (tVar 4))) (tt := tYes) rfl scBehind.nd (pi_list (pv 2)) (blkOk_by (N := ["house", "log", "rows", "found", "index", "name", "row"]) (sc := defScope sBehind) (by decide +kernel))
          (fun _ _ _ _ _ => pg_name (i := 6) scBehind.nd rfl (Or.inl rfl)) (fun _ _ _ _ _ => pts_nil)
          (fun _ _ _ _ _ => pe_cmpR op_eq (pe_ix ix_tup (pv 6) (pv 4) (fun _ _ => rfl)) (pe_ix ix_tup (pe_ix ix_list (pv 2) pe_int (fun _ _ => rfl)) (pv 4) (fun _ _ => rfl)) (nomark _))) pa_nil)))
          (pss_one (ps_dput (hu_of hr) (pv 3) (pv 5) (pe_ix ix_tup (pe_ix ix_list (pv 2) pe_int (fun _ _ => rfl)) (pv 4) (fun _ _ => rfl)) rfl)) pss_nil)))
      (pss_one (ps_ret (pv 3))))))), ?_⟩
    obtain ⟨dx, nT, sT, wD, h1, h2, h3, h4⟩ := id hh
    have hlens : ∀ o ∈ left h.ways h.ords log, o.length = h.names.length := fun o ho => ords_lens o (left_mem ho)
    have hmany : (left h.ways h.ords log).length ≤ 625 := Nat.le_trans (left_len _ _ _) (ords_le O)
    refine q_asgG (G := fun v H' => ∃ r, v = .ref r ∧ OrdLF H' r (left h.ways h.ords log)) (ev_cl (ea_cons (ev_var rfl) (ea_cons (ev_var rfl) ea_nil)) fun H1 e1 Q q' E => ⟨_, ⟨p, q, h, log, rfl, hh.ex e1, O, hlog.ex e1, L, rfl⟩, fun v H2 e2 ⟨u, u1, u2, u3⟩ => q' v H2 e2 ⟨u, u1, u3⟩⟩) fun v H1 e1 ⟨r, hv, hr1⟩ => ?_
    subst hv
    generalize hRR : left h.ways h.ords log = R at *
    refine q_call (ea_cons (ev_var rfl) ea_nil) fun H2 e2 => ?_
    refine ⟨r, R, rfl, (hr1.ex e2).tup, fun hne H3 e3 => ?_, fun heq H3 e3 => k1 heq H3 ((e1.trans e2).trans e3)⟩
    obtain ⟨r0, rs, hR⟩ : ∃ r0 rs, R = r0 :: rs := by
      cases R with
      | nil => exact absurd rfl hne
      | cons a b => exact ⟨a, b, rfl⟩
    have hhd : R.headD [] = r0 := by rw [hR]; rfl
    have e03 := (e1.trans e2).trans e3
    obtain ⟨as, hra, has⟩ := hr1.ex (e2.trans e3)
    obtain ⟨a0, ha0, hr0⟩ := paired_at2 has (show R[0]? = some r0 by rw [hR]; rfl)
    have hl0 := hlens r0 (by rw [hR]; exact List.mem_cons_self ..)
    refine fun d hd => ?_
    refine q_forB (HB := H3) (ei_enumT (ea_cons (ev_slot (ev_var rfl) (slAt_ex e03 h1) rfl) ea_nil) (FT.sq (h2.ex e03))) (Ex.new hd) (fun i σ' H' => ∃ v4 v5 v6 : Option V, σ' = [some (.ref p), some (.ref q), some (.ref r), some (.ref d), v4, v5, v6] ∧ Ex H3 H' ∧ H' d = some (.dK (surK h.names r0 R i)))
      (fun H4 e4 => ⟨none, none, none, rfl, (Ex.new hd).trans e4, e4 _ _ upd_same⟩) (fun i σ' H' ⟨_, _, _, _, e, _⟩ => e) ?_ ?_
    · rintro i u σ' HA HB hi ⟨v4, v5, v6, rfl, eA, hdA⟩ ⟨T', x, rfl, hT, rfl, hx⟩
      rw [List.getElem?_map] at hx
      obtain ⟨x, hx', rfl⟩ := Option.map_eq_some_iff.mp hx
      have hin : i < h.names.length := (List.getElem?_eq_some_iff.mp hx').1
      have eT : Ex HA (upd HA T' (HO.tup [.int (i : Nat), .str x])) := Ex.new hT
      refine g_two (.inl (.inl upd_same)) ?_
      have e3T := eA.trans eT
      have row0 : ∀ {σ : L2.St} {HC : Hp}, σ[2]? = some (some (.ref r)) → σ[4]? = some (some (.int (i : Nat))) → Ex H3 HC → Ev (tOp (rIxT K) (tOp (rIxL K) (tVar 2) (tC (.int 0))) (tVar 4)) σ HC (bx (r0.getD i 0)) := fun z2 z4 eC =>
        ev_op (ev_op (z := .ref a0) (ev_var z2) ev_c (rv_ixL (.inl (.inl (eC _ _ hra))) (atI_nat (j := 0) (by rw [List.getElem?_map, ha0]; rfl)))) (ev_var z4) (rv_ixT (FT.sq (OrdF.ex eC hr0)) (atI_nat (bx_at (by omega))))
      refine s_when (b := sure r0 R i) (et_is (et_B (ev_all (bs := R.map fun o => o.getD i 0 == r0.getD i 0) (el_lstM (l := R) (ei_refs (ev_var rfl) (e3T _ _ hra) has) (by omega) (fun o => .bl (o.getD i 0 == r0.getD i 0)) ?_) fun us H4 hus => ?_)) (all_map_bl _ _)) (fun hb H4 e4 => ?_) (fun hb H4 e4 => ?_)
      · rintro k o HC' y HC hk eC ⟨rfl, hy⟩
        obtain ⟨a, o', rfl, ho', hoa⟩ := ref_at has hy
        have eo : o' = o := Option.some.inj (ho'.symm.trans hk)
        subst eo
        have hol := hlens o' (List.mem_of_getElem? hk)
        refine ⟨Ex.refl _, [some (.ref p), some (.ref q), some (.ref r), some (.ref d), some (.int (i : Nat)), some (.str x), some (.ref a)], rfl, fun Kk z => z _ (Ex.refl _), et_yes, fun _ => Evl_g (ev_is (ev_op (ev_op (ev_var rfl) (ev_var rfl) (rv_ixT (FT.sq (OrdF.ex (e3T.trans eC) hoa)) (atI_nat (bx_at (by omega))))) (row0 rfl rfl (e3T.trans eC)) (rv_eq rfl)) (by rw [dec_bx]))⟩
      · rw [hus, List.map_map]
        rfl
      · refine row0 rfl rfl (e3T.trans e4) H4 (Ex.refl _) _ fun H5 e5 => ?_
        have eA5 := eT.trans (e4.trans e5)
        have hd5 := eA5 _ _ hdA
        refine ⟨_, rfl, _, rfl, d, _, rfl, DPut.k (k := Sum.inr x) hd5 (sz_lt (by have := surK_len h.names r0 R i; have := O.l1; omega)), _, _, _, rfl, Ex.chg (eA.trans eA5) hd, ?_⟩
        rw [upd_same, putK_new _ (surK_new O.nd hx'), surK_succ, if_pos hb]
        rw [kvS_at hx']
      · have eA5 := eT.trans e4
        refine ⟨_, _, _, rfl, eA.trans eA5, ?_⟩
        rw [surK_succ, if_neg (by rw [hb]; exact Bool.false_ne_true), List.append_nil]
        exact eA5 _ _ hdA
    · rintro σ' HA ⟨v4, v5, v6, rfl, eA, hdA⟩
      rw [List.length_map] at hdA
      refine s_ret (ev_var rfl) fun H5 e5 => k2 hne d H5 (e03.trans (eA.trans e5)) (Ex.back e03 hd) ?_
      unfold surB
      rw [hhd]
      exact e5 _ _ hdA
/-! ### surely_free -/
def spFree (C CN : Addr) : Sp := fun vs H Q E => ∃ (p q : Addr) (h : Hs) (log : List Ent), vs = [.ref p, .ref q] ∧ HouseAt C H p h ∧ h.Ok ∧ LogL h.names H q log ∧ LogOk h log ∧
  (left h.ways h.ords log = [] → ∀ H', Ex H H' → E (.ref CN) none H') ∧
  (left h.ways h.ords log ≠ [] → ∀ d H', Ex H H' → H d = none → H' d = some (.lst ((freeB h.n (left h.ways h.ords log)).map bx)) → Q (.ref d) H')
theorem scFree : FnScope ["house", "log", "rows", "box", "row"] ["house", "log"] (defScope sFree) := ⟨rfl, rfl, rfl, by decide +kernel, rfl, by decide +kernel, by decide +kernel⟩
def scpFree : Scope := { kind := .function, names := [(".0", .local), ("box", .cell), ("any", .globalImplicit), ("rows", .free)], isGenerator := false, isCoroutine := false, more := [] }
theorem ok_free (D : DefAt K mg "surely_free" sFree) (T : Tx K mg) (Hh : Hc K mg C) (F1 : Df P w K mg base CX0 5 "possible" (spG (gPossible C))) (F2 : Df P w K mg base (L2.CX P w) 1 "need_some" (spNeed CN)) :
    Df P w K mg base (L2.CX P w) 6 "surely_free" (spFree C CN) := by
  refine D.okX scFree (fun _ _ _ _ _ _ us hl => match us, hl with | [_, _], _ => rfl) (fun vs H Q E h => ?_) (fun f cdv A outer s H vs Q E hr h => ?_)
  · obtain ⟨p, q, h, log, rfl, _⟩ := h
    rfl
  · obtain ⟨p, q, h, log, rfl, hh, O, hlog, L, k1, k2⟩ := h
    obtain ⟨p1, S1⟩ := Hh.s1
    refine ⟨_, pss_cons (ps_set (i := 2) scFree.nd rfl (Or.inr rfl) (pe_df F1 hr (by rfl) pass0 (pa_cons (pv 0) (pa_cons (pv 1) pa_nil))))
      (pss_cons (ps_expr (pe_df F2 (hr.mono (by decide)) (by rfl) (passes_call (takes_of rfl rfl rfl rfl) fun _ _ _ _ z => z) (pa_cons (pv 2) pa_nil)))
      (PSs.nox (pss_one (ps_ret (pe_lc (own := [("box", 3)]) (g := gName 3) (te := tVar 3) (tt := tNot (tB (tCB (rAny K) (tCons (tLc (iList K (tVar 2)) (gName 4) tYes (tOp (rIn K false) (tVar 3) (tVar 4)) [4]) tNil)))) rfl scFree.nd
        (pi_range1 (by rfl) T.range (pa_cons (pe_callB call_len_seq (by rfl) T.len PySem.boot_len (pa_cons (pe_slot Hh.cl S1 (pv 0)) pa_nil)) pa_nil)) (blkOk_by (N := ["house", "log", "rows", "box", "row"]) (sc := defScope sFree) (by decide +kernel))
        (fun _ _ _ _ _ => pg_name (i := 3) scFree.nd rfl (Or.inr rfl))
        (fun _ _ _ _ _ => pts_one (pt_not (pt_val (pe_callB (cr_any rfl) (by rfl) T.any boot_any (pa_cons (pe_lc (own := [("row", 4)]) (g := gName 4) (te := tOp (rIn K false) (tVar 3) (tVar 4)) (tt := tYes) rfl scFree.nd (pi_list (pv 2)) (blkOk_by (N := ["house", "log", "rows", "box", "row"]) (sc := relS scpFree (defScope sFree)) (by decide +kernel))
          (fun _ _ _ _ _ => pg_name (i := 4) scFree.nd rfl (Or.inl rfl)) (fun _ _ _ _ _ => pts_nil) (fun _ _ _ _ _ => pe_cmpR op_in_seq (pv 3) (pv 4) rfl)) pa_nil)))))
        (fun _ _ _ _ _ => pv 3)))))), ?_⟩
    obtain ⟨dx, nT, sT, wD, h1, h2, h3, h4⟩ := id hh
    have hmany : (left h.ways h.ords log).length ≤ 625 := Nat.le_trans (left_len _ _ _) (ords_le O)
    refine q_asgG (G := fun v H' => ∃ r, v = .ref r ∧ OrdLF H' r (left h.ways h.ords log)) (ev_cl (ea_cons (ev_var rfl) (ea_cons (ev_var rfl) ea_nil)) fun H1 e1 Q q' E => ⟨_, ⟨p, q, h, log, rfl, hh.ex e1, O, hlog.ex e1, L, rfl⟩, fun v H2 e2 ⟨u, u1, u2, u3⟩ => q' v H2 e2 ⟨u, u1, u3⟩⟩) fun v H1 e1 ⟨r, hv, hr1⟩ => ?_
    subst hv
    generalize hRR : left h.ways h.ords log = R at *
    refine q_call (ea_cons (ev_var rfl) ea_nil) fun H2 e2 => ?_
    refine ⟨r, R, rfl, (hr1.ex e2).tup, fun hne H3 e3 => ?_, fun heq H3 e3 => k1 heq H3 ((e1.trans e2).trans e3)⟩
    have e03 := (e1.trans e2).trans e3
    obtain ⟨as, hra, has⟩ := hr1.ex (e2.trans e3)
    have hn5 : h.n ≤ 5 := O.l3
    refine s_retLG (el_lstV (l := List.range h.n) (ei_rngL (ea_cons (ev_is (ev_lenT (ev_slot (ev_var rfl) (slAt_ex e03 h1) rfl) (.inl (.inl (e03 _ _ h3)))) (by rw [List.length_map]; rfl)) ea_nil) (by omega)) (by rw [List.length_range]; omega) (fun b => !(R.any fun o => o.contains b)) bx ?_) fun d H4 us hd e4 h4 hus => k2 hne d H4 (e03.trans e4) (Ex.back e03 hd) (by rw [h4, hus]; rfl)
    rintro i b HA' x HA hb eA ⟨rfl, rfl⟩
    obtain ⟨rfl, hbn⟩ := range_at hb
    refine ⟨Ex.refl _, [some (.ref p), some (.ref q), some (.ref r), some (bx b), none], rfl, fun Kk z => z _ (Ex.refl _), et_not (et_is (et_B (ev_any (bs := R.map fun o => o.contains b) (el_lstM (l := R) (ei_refs (ev_var rfl) (eA _ _ hra) has) (by omega) (fun o => .bl (o.contains b)) ?_) fun us H4 hus => ?_)) (any_map_bl _ _)), fun _ => Evl_g (ev_var rfl)⟩
    · rintro k o HC' y HC hk eC ⟨rfl, hy⟩
      obtain ⟨a, o', rfl, ho', hoa⟩ := ref_at has hy
      have eo : o' = o := Option.some.inj (ho'.symm.trans hk)
      subst eo
      refine ⟨Ex.refl _, [some (.ref p), some (.ref q), some (.ref r), some (bx b), some (.ref a)], rfl, fun Kk z => z _ (Ex.refl _), et_yes, fun _ => Evl_g (ev_is (ev_op (ev_var rfl) (ev_var rfl) (rv_isT (FT.sq (OrdF.ex (eA.trans eC) hoa)) rfl (flat_bx _))) (by rw [in_bx]))⟩
    · rw [hus, List.map_map]
      rfl
end
end Lp

set_option Elab.async false
set_option linter.all false
set_option maxRecDepth 100000
set_option maxHeartbeats 4000000
/-! Lostplates: the walks of the law's own _law_goes, _law_orders. -/
namespace Lp
open PySem PySem.Spec PyProof.Rows L2
open Evl
abbrev sLGoes : Stmt := top 54
abbrev sLOrders : Stmt := top 55
section
variable {K : PySem.W.Frag} {σ : L2.St} {H : Hp} {p : Addr} {te t1 t2 : TE} {tz : TS} {D : Ends}
theorem dp_nil {q : Addr} (h : H q = some (.lst [])) : Dp K H (.ref q) (pdNs []) := .lst (.inl (.inl h)) .nil
/-- ns == [], ns a list of ints -/
theorem ev_noNs {ns : List Nat} (h : Ev te σ H (.ref p)) (ho : H p = some (.lst (ns.map bx))) : Ev (tOp (rEqD K) te (tLst tNil)) σ H (.bl ns.isEmpty) :=
  ev_opL h (el_lst ea_nil (Nat.zero_le _)) fun q H1 hq e1 => rv_eqD (d := pdNs ns) (e := pdNs []) (fun H2 e2 => dp_ns (e2 _ _ (e1 _ _ ho))) (fun H2 e2 => dp_nil (e2 _ _ hq)) (shp_Ns _) (shp_Ns _) (by
    rw [eqv_Ns]
    cases ns <;> rfl)
theorem ev_noLc {ns : List Nat} (h : EvLG te σ H (fun us _ => us = ns.map bx)) : Ev (tOp (rEqD K) te (tLst tNil)) σ H (.bl ns.isEmpty) := fun H1 e Q q =>
  h H1 e _ fun p H2 us hp e2 h2 hu => by
    refine ⟨Nat.zero_le _, fun r hr => ?_⟩
    have e3 : Ex H2 (upd H2 r (.lst [])) := Ex.new hr
    refine ⟨pdNs ns, pdNs [], dp_ns (by rw [← hu]; exact e3 _ _ h2), dp_nil upd_same, shp_Ns _, shp_Ns _, ?_⟩
    have ee : PyData.eqv (pdNs ns) (pdNs []) = ns.isEmpty := by
      rw [eqv_Ns]
      cases ns <;> rfl
    rw [ee]
    exact q _ (e2.trans e3)
/-- a, b = e1, e2 with a new list behind -/
theorem q_parL {i j : Nat} {v : V} {P : List V → Hp → Prop} (ha : Ev t1 σ H v) (hb : EvLG t2 σ H P) (k : ∀ p H1 us, H p = none → Ex H H1 → H1 p = some (.lst us) → P us H1 → tz D ((σ.set i (some v)).set j (some (.ref p))) H1) : tSeq (tPar i j (tCons t1 (tCons t2 tNil))) tz D σ H :=
  ha H (Ex.refl H) _ fun H1 e1 => hb H1 e1 _ fun p H2 us hp e2 h2 hP => ⟨_, _, rfl, k p H2 us (Ex.back e1 hp) (e1.trans e2) h2 hP⟩
theorem q_parLL {i j : Nat} {P : List V → Hp → Prop} (ha : EvL t1 σ H []) (hb : EvLG t2 σ H P) (k : ∀ p r H1 us, H p = none → H r = none → Ex H H1 → H1 p = some (.lst []) → H1 r = some (.lst us) → P us H1 → tz D ((σ.set i (some (.ref p))).set j (some (.ref r))) H1) : tSeq (tPar i j (tCons t1 (tCons t2 tNil))) tz D σ H :=
  ha H (Ex.refl H) _ fun p H1 hp e1 h1 => hb H1 e1 _ fun r H2 us hr e2 h2 hP => ⟨_, _, rfl, k p r H2 us hp (Ex.back e1 hr) (e1.trans e2) (e2 _ _ h1) h2 hP⟩
/-- [()] -/
theorem el_row1 : EvLG (tLst (tCons (tTup tNil) tNil)) σ H (fun us H' => ∃ a, us = [.ref a] ∧ TupAt H' a []) := fun H1 e1 Q q => by
  unfold tLst tCons
  exact eu_tup (vs := []) ea_nil (Nat.zero_le _) H1 e1 _ fun a H2 ha e2 hf => ⟨by show 1 ≤ sizeLine; decide, fun l hl => q l _ _ (Ex.back e2 hl) (e2.trans (Ex.new hl)) upd_same ⟨a, rfl, .inl (Ex.new hl _ _ hf)⟩⟩
theorem ei_ns {a : Addr} {ns : List Nat} (h : Ev te σ H (.ref a)) (hx : H a = some (.lst (ns.map bx))) : EvI (iList K te) σ H ns.length (YAt (ns.map bx)) := by
  rw [← List.length_map (f := bx)]
  exact ei_list h (.inl (.inl hx))
/-- some + (box,) -/
theorem eg_cat {a : Addr} {o : List Nat} {b : Nat} (h : Ev t1 σ H (.ref a)) (ho : TupAt H a o) (hb : Ev t2 σ H (bx b)) (hl : o.length ≤ 1000) : EvG (tOp (rCatA K) t1 (tTup (tCons t2 tNil))) σ H (fun v H1 => ∃ c, v = .ref c ∧ TupAt H1 c (o ++ [b])) := fun H1 e Q q =>
  h H1 e _ fun H2 e2 => eu_tup (vs := [bx b]) (ea_cons hb ea_nil) (by show 1 ≤ 100000; decide) H2 (e.trans e2) _ fun c H3 hc e3 h3 => by
    have ho3 := ho.ex ((e.trans e2).trans e3)
    refine ⟨a, c, o.map bx, [bx b], rfl, rfl, ho3.sq, .inl (.inl h3), sz_of (by rw [List.length_map]; show o.length + 1 ≤ 100000; omega), fun hx => ?_, fun _ hy => (by cases hy), fun _ _ p hp => ?_⟩
    · refine q _ H3 (e2.trans e3) ⟨c, rfl, .inl ?_⟩
      have : o = [] := List.map_eq_nil_iff.mp hx
      rw [h3, this]
      rfl
    · refine q _ _ ((e2.trans e3).trans (Ex.new hp)) ⟨p, rfl, .inl ?_⟩
      rw [upd_same, List.map_append]
      rfl
end
theorem mapbx_at {ns : List Nat} {i : Nat} {x : V} (h : (ns.map bx)[i]? = some x) : ∃ b, ns[i]? = some b ∧ x = bx b := by
  rw [List.getElem?_map] at h
  obtain ⟨b, h1, h2⟩ := Option.map_eq_some_iff.mp h
  exact ⟨b, h1, h2.symm⟩
section
variable {P : Program} {w : World} {K : PySem.W.Frag} {mg : Str → Option Value} {base : Heap} {C CN : Addr}

/-! ### _law_goes -/
def gLGoes : List V → Hp → V → Prop := fun vs _ z => ∃ x y : Str, vs = [.str x, .str y] ∧ x.length ≤ 1000 ∧ y.length ≤ 1000 ∧ z = .bl (decide (V.str x = V.str "") || mat (cs x) (cs y))
theorem scLGoes : FnScope ["_law_plate", "_law_name", "_law_wrong", "_law_k"] ["_law_plate", "_law_name"] (defScope sLGoes) := ⟨rfl, rfl, rfl, by decide +kernel, rfl, by decide +kernel, by decide +kernel⟩
theorem ok_lgoes (D : DefAt K mg "_law_goes" sLGoes) (T : Tx K mg) : Df P w K mg base CX0 1 "_law_goes" (spV gLGoes) := by
  refine D.ok scLGoes (fun _ _ _ _ _ _ us hl => match us, hl with | [_, _], _ => rfl) (fun vs H Q E h => ?_) (fun f cdv A outer s H vs Q E hr h => ?_)
  · obtain ⟨z, ⟨x, y, rfl, _⟩, _⟩ := h
    rfl
  · obtain ⟨z, ⟨x, y, rfl, lx, ly, rfl⟩, kk⟩ := h
    refine ⟨_, pss_cons (ps_if (pt_cmpR op_eq (pv 0) pe_str (nomark _)) (pss_one (ps_ret pe_bl)) pss_nil)
      (pss_cons (ps_setLc (i := 2) (own := [("_law_k", 3)]) (g := gName 3) (te := tVar 3) (tt := tTest (tOp (rIn K true) (tOp rIxS (tVar 0) (tVar 3)) (tTup (tCons (tC (.str ".")) (tCons (tOp rIxS (tVar 1) (tVar 3)) tNil))))) rfl scLGoes.nd rfl rfl (sw_true rfl rfl rfl (by decide +kernel))
        (pi_range1 (by rfl) T.range (pa_cons (pe_callB (call_min2 rfl) (by rfl) T.min boot_min (pa_cons (pe_callB call_len_str (by rfl) T.len PySem.boot_len (pa_cons (pv 1) pa_nil)) (pa_cons (pe_callB call_len_str (by rfl) T.len PySem.boot_len (pa_cons (pv 0) pa_nil)) pa_nil))) pa_nil))
        (blkOk_by (N := ["_law_plate", "_law_name", "_law_wrong", "_law_k"]) (sc := defScope sLGoes) (by decide +kernel))
        (fun _ _ _ _ _ => pg_name (i := 3) scLGoes.nd rfl (Or.inl rfl))
        (fun _ _ _ _ _ => pts_one (pt_cmpR op_notIn_seq (pe_ix ix_str (pv 0) (pv 3) (fun _ _ => rfl)) (pe_tup (pa_cons pe_str (pa_cons (pe_ix ix_str (pv 1) (pv 3) (fun _ _ => rfl)) pa_nil))) rfl))
        (fun _ _ _ _ _ => pv 3))
      (pss_one (ps_ret (pe_and (pe_cmpR op_eq (pe_callB call_len_str (by rfl) T.len PySem.boot_len (pa_cons (pv 0) pa_nil)) (pe_callB call_len_str (by rfl) T.len PySem.boot_len (pa_cons (pv 1) pa_nil)) (nomark _))
        (pe_one (pe_cmpR (op_eqD hr.units) (pv 2) (pe_lst pa_nil) (nomark _))))))), ?_⟩
    have lx' : (cs x).length = x.length := Array.length_toList
    have ly' : (cs y).length = y.length := Array.length_toList
    refine q_when (et_test (ev_op (ev_var rfl) ev_c (rv_eq rfl))) (fun hb H1 e1 => ?_) (fun hb H1 e1 => ?_)
    · rw [hb] at kk
      exact s_ret ev_c fun H2 e2 => kk H2 (e1.trans e2)
    · rw [hb, Bool.false_or, ← goes_eq] at kk
      have hmin : ∀ H2, Ex H1 H2 → RC (fun xs H Q => ∃ i j, xs = [.int i, .int j] ∧ Q (.int (if j < i then j else i)) H) [.int (y.length : Int), .int (x.length : Int)] H2 (.int ((min (cs y).length (cs x).length : Nat) : Int)) := fun H2 _ H3 e3 Q q => ⟨_, _, rfl, by
        have em : (if (x.length : Int) < (y.length : Int) then (x.length : Int) else (y.length : Int)) = ((min (cs y).length (cs x).length : Nat) : Int) := by
          rw [lx', ly']
          split <;> omega
        rw [em]
        exact q H3 (Ex.refl _)⟩
      refine q_asgLG (el_lstV (l := List.range (min (cs y).length (cs x).length)) (ei_rngL (ea_cons (ev_cb (ea_cons (ev_lenS (ev_var rfl) (by omega)) (ea_cons (ev_lenS (ev_var rfl) (by omega)) ea_nil)) (hmin H1 (Ex.refl _))) ea_nil) (by omega)) (by rw [List.length_range]; omega) (fun k => !((cs x).getD k 0 == 46 || (cs x).getD k 0 == (cs y).getD k 0)) bx ?_) fun d H2 us hd e2 h2 hus => ?_
      · rintro i k HA' u HA hk eA ⟨rfl, rfl⟩
        obtain ⟨rfl, hkn⟩ := range_at hk
        have hkx : k < (cs x).length := by omega
        have hky : k < (cs y).length := by omega
        have ax : (cs x)[k]? = some ((cs x).getD k 0) := by rw [List.getD_eq_getElem?_getD, List.getElem?_eq_getElem hkx]; rfl
        have ay : (cs y)[k]? = some ((cs y).getD k 0) := by rw [List.getD_eq_getElem?_getD, List.getElem?_eq_getElem hky]; rfl
        refine ⟨Ex.refl _, [some (.str x), some (.str y), none, some (bx k)], rfl, fun Kk z => z _ (Ex.refl _), et_test (ev_is (ev_niU (ev_op (ev_var rfl) (ev_var rfl) (rv_ixS (by omega) (atI_nat ax))) (eu_tup (ea_cons ev_c (ea_cons (ev_op (ev_var rfl) (ev_var rfl) (rv_ixS (by omega) (atI_nat ay))) ea_nil)) (by show 2 ≤ 100000; decide)) rfl rfl) (by rw [in_point])), fun _ => Evl_g (ev_var rfl)⟩
      · subst hus
        refine s_ret (ev_andV (a := (cs x).length == (cs y).length) (b := (wrongs (cs x) (cs y)).isEmpty) (ev_is (ev_op (ev_lenS (ev_var rfl) (by omega)) (ev_lenS (ev_var rfl) (by omega)) (rv_eq rfl)) ?_) fun _ => ev_noNs (ev_var rfl) h2) fun H3 e3 => kk H3 ((e1.trans e2).trans e3)
        rw [lx', ly']
        congr 1
        rw [Bool.eq_iff_iff, decide_eq_true_iff, beq_iff_eq]
        exact ⟨fun q => by have := V.int.inj q; omega, fun q => by rw [q]⟩

/-! ### _law_orders -/
def gLOrders : List V → Hp → (V → Hp → Prop) → Prop := fun vs H R => ∃ (pl : Addr) (h : Hs) (o : List Nat), vs = [.ref pl] ∧ PlanAt H pl h o ∧ h.Ok ∧ R = fun v H' => ∃ u, v = .ref u ∧ H u = none ∧ OrdL H' u h.ords
abbrev nmLOrders : List Str := ["_law_plan", "_law_size", "_law_found", "_law_name", "_law_longer", "_law_good", "_law_some", "_law_signed_ones", "_law_box"]
theorem scLOrders : FnScope nmLOrders ["_law_plan"] (defScope sLOrders) := ⟨rfl, rfl, rfl, by decide +kernel, rfl, by decide +kernel, by decide +kernel⟩
def scpLO : Scope := { kind := .function, names := [(".0", .local), ("_law_some", .cell), ("_law_signed_ones", .free)], isGenerator := false, isCoroutine := false, more := [] }
theorem ok_lorders (D : DefAt K mg "_law_orders" sLOrders) (T : Tx K mg) (F : Df P w K mg base CX0 1 "_law_goes" (spV gLGoes)) : Df P w K mg base CX0 2 "_law_orders" (spG gLOrders) := by
  refine D.ok scLOrders (fun _ _ _ _ _ _ us hl => match us, hl with | [_], _ => rfl) (fun vs H Q E h => ?_) (fun f cdv A outer s H vs Q E hr h => ?_)
  · obtain ⟨z, ⟨p, h, o, rfl, _⟩, _⟩ := h
    rfl
  · obtain ⟨z, ⟨p, h, o, rfl, hp, O, rfl⟩, kk⟩ := h
    refine ⟨_, pss_cons (ps_par (i := 1) (j := 2) rfl scLOrders.nd rfl rfl (by decide) rfl rfl (pa_cons (pe_callB call_len_seq (by rfl) T.len PySem.boot_len (pa_cons (pe_ix ix_tup (pv 0) pe_int (fun _ _ => rfl)) pa_nil)) (pa_cons (pe_lst (pa_cons (pe_tup pa_nil) pa_nil)) pa_nil)) (by rfl))
      (pss_cons (ps_for PassesOwn.never rfl (pi_tup (pe_ix ix_tup (pv 0) pe_int (fun _ _ => rfl))) (pg_name (i := 3) scLOrders.nd rfl (Or.inr rfl))
        (pss_cons (ps_par (i := 4) (j := 5) rfl scLOrders.nd rfl rfl (by decide) rfl rfl (pa_cons (pe_lst pa_nil) (pa_cons
          (pe_lc (own := [("_law_box", 8)]) (g := gName 8) (te := tVar 8) (tt := tB (tCl (spV gLGoes) E0 (tCons (tOp (rIxT K) (tOp (rIxT K) (tVar 0) (tC (.int 1))) (tVar 8)) (tCons (tVar 3) tNil)))) rfl scLOrders.nd (pi_range1 (by rfl) T.range (pa_cons (pv 1) pa_nil)) (blkOk_by (N := nmLOrders) (sc := defScope sLOrders) (by decide +kernel))
            (fun _ _ _ _ _ => pg_name (i := 8) scLOrders.nd rfl (Or.inl rfl))
            (fun _ _ _ _ _ => pts_one (pt_val (pe_df F hr (by rfl) pass0 (pa_cons (pe_ix ix_tup (pe_ix ix_tup (pv 0) pe_int (fun _ _ => rfl)) (pv 8) (fun _ _ => rfl)) (pa_cons (pv 3) pa_nil))))) (fun _ _ _ _ _ => pv 8)) pa_nil)) (by rfl))
        (pss_cons (ps_for PassesOwn.never rfl (pi_list (pv 2)) (pg_name (i := 6) scLOrders.nd rfl (Or.inr rfl))
          (pss_one (ps_set (i := 4) scLOrders.nd rfl (Or.inl rfl) (pe_op op_cat (pv 4)
            (pe_lc (own := [("_law_box", 8)]) (g := gName 8) (te := tOp (rCatA K) (tVar 6) (tTup (tCons (tVar 8) tNil))) (tt := tTest (tOp (rIn K true) (tVar 8) (tVar 6))) rfl scLOrders.nd (pi_list (pv 5)) (blkOk_by (N := nmLOrders) (sc := defScope sLOrders) (by decide +kernel))
              (fun _ _ _ _ _ => pg_name (i := 8) scLOrders.nd rfl (Or.inl rfl))
              (fun _ _ _ _ _ => pts_one (pt_cmpR op_notIn_seq (pv 8) (pv 6) rfl)) (fun _ _ _ _ _ => pe_op op_catA (pv 6) (pe_tup (pa_cons (pv 8) pa_nil))))))))
        (pss_one (ps_set (i := 2) scLOrders.nd rfl (Or.inl rfl) (pv 4))))))
      (pss_cons (ps_set (i := 7) scLOrders.nd rfl (Or.inr rfl) (pe_lc (own := [("_law_box", 8)]) (g := gName 8) (te := tVar 8) (tt := tTest (tOp rNe (tOp (rIxT K) (tOp (rIxT K) (tVar 0) (tC (.int 1))) (tVar 8)) (tC (.str "")))) rfl scLOrders.nd (pi_range1 (by rfl) T.range (pa_cons (pv 1) pa_nil)) (blkOk_by (N := nmLOrders) (sc := defScope sLOrders) (by decide +kernel))
            (fun _ _ _ _ _ => pg_name (i := 8) scLOrders.nd rfl (Or.inl rfl))
            (fun _ _ _ _ _ => pts_one (pt_cmpR op_ne (pe_ix ix_tup (pe_ix ix_tup (pv 0) pe_int (fun _ _ => rfl)) (pv 8) (fun _ _ => rfl)) pe_str (nomark _))) (fun _ _ _ _ _ => pv 8)))
      (pss_one (ps_ret (pe_lc (own := [("_law_some", 6)]) (g := gName 6) (te := tVar 6) (tt := tTest (tOp (rEqD K) (tLc (iList K (tVar 7)) (gName 8) (tTest (tOp (rIn K true) (tVar 8) (tVar 6))) (tVar 8) [8]) (tLst tNil))) rfl scLOrders.nd (pi_list (pv 2)) (blkOk_by (N := nmLOrders) (sc := defScope sLOrders) (by decide +kernel))
        (fun _ _ _ _ _ => pg_name (i := 6) scLOrders.nd rfl (Or.inr rfl))
        (fun _ _ _ _ _ => pts_one (pt_cmpR (op_eqD hr.units) (pe_lc (own := [("_law_box", 8)]) (g := gName 8) (te := tVar 8) (tt := tTest (tOp (rIn K true) (tVar 8) (tVar 6))) rfl scLOrders.nd (pi_list (pv 7)) (blkOk_by (N := nmLOrders) (sc := relS scpLO (defScope sLOrders)) (by decide +kernel))
            (fun _ _ _ _ _ => pg_name (i := 8) scLOrders.nd rfl (Or.inl rfl))
            (fun _ _ _ _ _ => pts_one (pt_cmpR op_notIn_seq (pv 8) (pv 6) rfl)) (fun _ _ _ _ _ => pv 8)) (pe_lst pa_nil) (nomark _)))
        (fun _ _ _ _ _ => pv 6)))))), ?_⟩
    obtain ⟨nT, sT, wD, tT, h1, h2, h3, h4, h5⟩ := id hp
    have hn5 : h.n ≤ 5 := O.l3
    have plan1 : ∀ {σ : L2.St} {H1 : Hp}, σ[0]? = some (some (.ref p)) → Ex H H1 → Ev (tOp (rIxT K) (tVar 0) (tC (.int 1))) σ H1 (.ref sT) := fun z e => ev_op (ev_var z) ev_c (rv_ixT (.inl (.inl (e _ _ h1))) (atI_nat (j := 1) rfl))
    have plan0 : ∀ {σ : L2.St} {H1 : Hp}, σ[0]? = some (some (.ref p)) → Ex H H1 → Ev (tOp (rIxT K) (tVar 0) (tC (.int 0))) σ H1 (.ref nT) := fun z e => ev_op (ev_var z) ev_c (rv_ixT (.inl (.inl (e _ _ h1))) (atI_nat (j := 0) rfl))
    have sign : ∀ {σ : L2.St} {H1 : Hp} {b : Nat} {z : Str}, σ[0]? = some (some (.ref p)) → σ[8]? = some (some (bx b)) → h.signs[b]? = some z → Ex H H1 → Ev (tOp (rIxT K) (tOp (rIxT K) (tVar 0) (tC (.int 1))) (tVar 8)) σ H1 (.str z) := fun z0 z8 hz e => ev_op (plan1 z0 e) (ev_var z8) (rv_ixT (.inl (.inl (e _ _ h3))) (atI_nat (by rw [List.getElem?_map, hz]; rfl)))
    refine q_parL (v := .int (h.n : Nat)) (ev_is (ev_lenT (plan1 rfl (Ex.refl H)) (.inl (.inl h3))) (by rw [List.length_map]; rfl)) el_row1 fun r0 H1 us hr0 e1 hl1 ⟨a0, hus, ha0⟩ => ?_
    subst hus
    refine q_forI (ei_tup (plan0 rfl e1) (FT.sq (h2.ex e1))) (fun i σ' H' => ∃ (r : Addr) (v3 v4 v5 v6 v7 v8 : Option V), σ' = [some (.ref p), some (.int (h.n : Nat)), some (.ref r), v3, v4, v5, v6, v7, v8] ∧ Ex H1 H' ∧ OrdL H' r (rows0 h.n (okB h) (h.names.take i)))
      (fun H2 e2 => ⟨r0, none, none, none, none, none, none, rfl, e2, [a0], e2 _ _ hl1, .cons (ha0.ex e2) .nil⟩) (fun i σ' H' ⟨_, _, _, _, _, _, _, _, e, _⟩ => e) ?_ ?_
    · rintro i x σ' HA' HA hi ⟨r, v3, v4, v5, v6, v7, v8, rfl, eA, hrows⟩ ⟨rfl, hx⟩
      rw [List.getElem?_map] at hx
      obtain ⟨x, hx', rfl⟩ := Option.map_eq_some_iff.mp hx
      have x8 := O.nx x (List.mem_of_getElem? hx')
      have eH := e1.trans eA
      refine q_parLL (el_lst ea_nil (Nat.zero_le _)) (el_lstV (l := List.range h.n) (ei_rngL (ea_cons (ev_var rfl) ea_nil) (by omega)) (by rw [List.length_range]; omega) (fun b => okB h b x) bx ?_) fun l g HB us hl hg eB hlB hgB hus => ?_
      · rintro j b HC' u HC hb eC ⟨rfl, rfl⟩
        obtain ⟨rfl, hbn⟩ := range_at hb
        have hz : h.signs[b]? = some h.signs[b] := List.getElem?_eq_getElem hbn
        have z8 := O.sx _ (List.mem_of_getElem? hz)
        have hok : okB h b x = (decide (V.str h.signs[b] = V.str "") || mat (cs h.signs[b]) (cs x)) := by
          unfold okB
          rw [need_at hz, mt_at hz, Bool.not_not]
        refine ⟨Ex.refl _, [some (.ref p), some (.int (h.n : Nat)), some (.ref r), some (.str x), v4, v5, v6, v7, some (bx b)], rfl, fun Kk z => z _ (Ex.refl _), et_B (ev_clV (ea_cons (sign rfl rfl hz (eH.trans eC)) (ea_cons (ev_var rfl) ea_nil)) (spV_g fun H3 e3 => ⟨h.signs[b], x, rfl, by omega, by omega, congrArg V.bl hok⟩)), fun _ => Evl_g (ev_var rfl)⟩
      · subst hus
        have gl : ((List.range h.n).filter fun b => okB h b x).length ≤ 5 := by
          have := List.length_filter_le (fun b => okB h b x) (List.range h.n)
          rw [List.length_range] at this
          omega
        obtain ⟨as, hr1, hras⟩ := hrows.ex eB
        refine q_forI (ei_refs (ev_var rfl) hr1 hras) (fun i2 σ' H' => ∃ (l : Addr) (w6 w7 w8 : Option V), σ' = [some (.ref p), some (.int (h.n : Nat)), some (.ref r), some (.str x), some (.ref l), some (.ref g), w6, w7, w8] ∧ Ex HB H' ∧ OrdL H' l (grow h.n (fun b => okB h b x) ((rows0 h.n (okB h) (h.names.take i)).take i2)))
          (fun H2 e2 => ⟨l, _, _, _, rfl, e2, [], e2 _ _ hlB, .nil⟩) (fun i2 σ' H' ⟨_, _, _, _, _, e, _⟩ => e) ?_ ?_
        · rintro i2 u σ' HD' HD hi2 ⟨l2, w6, w7, w8, rfl, eD, bs, hlD, hbs⟩ ⟨rfl, hu⟩
          obtain ⟨a, row, rfl, hrow, hra⟩ := ref_at hras hu
          have hrl : row.length ≤ 1000 := by
            have hR := rows0_row h.n (okB h) (h.names.take i) row (List.mem_of_getElem? hrow)
            have h5 := hR.len
            have h6 := List.length_take_le' i h.names
            have h7 := O.l1
            omega
          have hgl : (grow h.n (fun b => okB h b x) ((rows0 h.n (okB h) (h.names.take i)).take i2)).length ≤ 3125 := by
            have g1 := grow_len h.n (fun b => okB h b x) ((rows0 h.n (okB h) (h.names.take i)).take i2)
            have g2 := List.length_take_le' i2 (rows0 h.n (okB h) (h.names.take i))
            have g3 := rows_le O i
            have g5 := Nat.mul_le_mul (Nat.le_trans g2 g3) hn5
            omega
          have lbs := paired_len hbs
          refine s_asgG (G := fun v H' => ∃ c, v = .ref c ∧ OrdL H' c (grow h.n (fun b => okB h b x) ((rows0 h.n (okB h) (h.names.take i)).take (i2 + 1)))) (fun HE eE Q qq => ?_) fun v HE eE ⟨c, hv, hc⟩ => ?_
          · refine (ev_var (i := 4) rfl : Ev (tVar 4) _ HD (.ref l2)) HE eE _ fun HF eF => ?_
            have eDF := eE.trans eF
            refine el_lst_ (l := (List.range h.n).filter fun b => okB h b x) (ei_ns (ev_var rfl) ((eD.trans eDF) _ _ hgB)) (by omega) (fun b => !row.contains b) (fun b v H' => ∃ c, v = .ref c ∧ TupAt H' c (row ++ [b])) (fun b v H2 H3 k ⟨c, q1, q2⟩ => ⟨c, q1, q2.kt k⟩) ?_ HF (Ex.refl _) _ fun d HG vs hd eG hdG hvs => ?_
            · rintro j b HH' u HH hb eHH ⟨rfl, hu2⟩
              obtain ⟨b', hb', rfl⟩ := mapbx_at hu2
              have ebb : b' = b := Option.some.inj (hb'.symm.trans hb)
              subst ebb
              have hra' : TupAt HH a row := hra.ex ((eD.trans eDF).trans eHH)
              refine ⟨Ex.refl _, [some (.ref p), some (.int (h.n : Nat)), some (.ref r), some (.str x), some (.ref l2), some (.ref g), some (.ref a), w7, some (bx b')], rfl, fun Kk z => z _ (Ex.refl _), et_test (ev_is (ev_op (ev_var rfl) (ev_var rfl) (rv_niT hra'.sq rfl (flat_bx row))) (by rw [in_bx])), fun _ => eg_cat (ev_var rfl) hra' (ev_var rfl) hrl⟩
            · obtain ⟨cs', rfl, hcs⟩ := paired_refs hvs
              rw [List.filter_filter] at hcs
              have hext : Paired (TupAt HG) cs' (ext h.n (fun b => okB h b x) row) := paired_map (fun b => row ++ [b]) hcs
              have lex : cs'.length ≤ h.n := by
                rw [paired_len hext]
                exact ext_len _ _ _
              refine ⟨l2, d, bs.map V.ref, cs'.map V.ref, rfl, rfl, eG _ _ (eDF _ _ hlD), hdG, sz_of (by rw [List.length_map, List.length_map]; omega), fun c hc => ?_⟩
              have eC : Ex HG (upd HG c (.lst (bs.map V.ref ++ cs'.map V.ref))) := Ex.new hc
              refine qq _ _ ((eF.trans eG).trans eC) ⟨c, rfl, bs ++ cs', by rw [upd_same, List.map_append], ?_⟩
              rw [grow_take hrow]
              exact paired_app (paired_mono (fun _ _ z => z.ex ((eDF.trans eG).trans eC)) hbs) (paired_mono (fun _ _ z => z.ex eC) hext)
          · subst hv
            exact ⟨c, _, _, _, rfl, eD.trans eE, hc⟩
        · rintro σ' HD ⟨l2, w6, w7, w8, rfl, eD, hlD⟩
          refine s_asg (ev_var rfl) fun H2 e2 => ⟨l2, _, _, _, _, _, _, rfl, eA.trans (eB.trans (eD.trans e2)), ?_⟩
          rw [take_snoc hx', rows0_snoc]
          rw [List.take_length] at hlD
          exact hlD.ex e2
    · rintro σ' HA ⟨r, v3, v4, v5, v6, v7, v8, rfl, eA, hrows⟩
      rw [List.length_map, List.take_length] at hrows
      have eH := e1.trans eA
      refine q_asgLG (el_lstV (l := List.range h.n) (ei_rngL (ea_cons (ev_var rfl) ea_nil) (by omega)) (by rw [List.length_range]; omega) h.need bx ?_) fun g HB us hg eB hgB hus => ?_
      · rintro j b HC' u HC hb eC ⟨rfl, rfl⟩
        obtain ⟨rfl, hbn⟩ := range_at hb
        have hz : h.signs[b]? = some h.signs[b] := List.getElem?_eq_getElem hbn
        refine ⟨Ex.refl _, [some (.ref p), some (.int (h.n : Nat)), some (.ref r), v3, v4, v5, v6, v7, some (bx b)], rfl, fun Kk z => z _ (Ex.refl _), et_test (ev_is (ev_op (sign rfl rfl hz (eH.trans eC)) ev_c (rv_ne rfl)) (by rw [need_at hz])), fun _ => Evl_g (ev_var rfl)⟩
      · subst hus
        have gl : ((List.range h.n).filter h.need).length ≤ 5 := by
          have := List.length_filter_le h.need (List.range h.n)
          rw [List.length_range] at this
          omega
        obtain ⟨as, hr1, hras⟩ := hrows.ex eB
        have hrl : (rows0 h.n (okB h) h.names).length ≤ 625 := by
          have := rows_le O h.names.length
          rw [List.take_length] at this
          exact this
        refine s_retLG (el_lst_ (l := rows0 h.n (okB h) h.names) (ei_refs (ev_var rfl) hr1 hras) (by omega) (full h.n h.need) (fun o v H' => ∃ c, v = .ref c ∧ TupAt H' c o) (fun o v H2 H3 k ⟨c, q1, q2⟩ => ⟨c, q1, q2.kt k⟩) ?_) fun q H2 us hq e2 h2 hP => ?_
        · rintro j o HC' u HC ho eC ⟨rfl, hu⟩
          obtain ⟨a, o', rfl, ho', hoa⟩ := ref_at hras hu
          have eo : o' = o := Option.some.inj (ho'.symm.trans ho)
          subst eo
          refine ⟨Ex.refl _, [some (.ref p), some (.int (h.n : Nat)), some (.ref r), v3, v4, v5, some (.ref a), some (.ref g), v8], rfl, fun Kk z => z _ (Ex.refl _), et_test (ev_noLc (ns := ((List.range h.n).filter h.need).filter fun b => !o'.contains b) (el_lstV (l := (List.range h.n).filter h.need) (ei_ns (ev_var rfl) (eC _ _ hgB)) (by omega) (fun b => !o'.contains b) bx ?_)), fun _ => (Evl_g (ev_var rfl)).imp fun v H4 e4 hv => ⟨a, hv, hoa.ex (eC.trans e4)⟩⟩
          rintro k b HE' u HE hb eE ⟨rfl, hu2⟩
          obtain ⟨b', hb', rfl⟩ := mapbx_at hu2
          have ebb : b' = b := Option.some.inj (hb'.symm.trans hb)
          subst ebb
          refine ⟨Ex.refl _, [some (.ref p), some (.int (h.n : Nat)), some (.ref r), v3, v4, v5, some (.ref a), some (.ref g), some (bx b')], rfl, fun Kk z => z _ (Ex.refl _), et_test (ev_is (ev_op (ev_var rfl) (ev_var rfl) (rv_niT (hoa.ex (eC.trans eE)).sq rfl (flat_bx o'))) (by rw [in_bx])), fun _ => Evl_g (ev_var rfl)⟩
        · obtain ⟨bs, rfl, hbs⟩ := paired_refs hP
          exact kk _ H2 (eH.trans (eB.trans e2)) ⟨q, rfl, Ex.back (eH.trans eB) hq, bs, h2, hbs⟩
end
end Lp

set_option Elab.async false
set_option linter.all false
set_option maxRecDepth 100000
set_option maxHeartbeats 4000000
/-! Lostplates: the walks of the law's own _law_way, _law_seen, _law_letters, _law_left. -/
namespace Lp
open PySem PySem.Spec PyProof.Rows L2
open Evl
abbrev sLWay : Stmt := top 56
abbrev sLSeen : Stmt := top 57
abbrev sLLetters : Stmt := top 58
abbrev sLLeft : Stmt := top 59
theorem find_range (o : List Nat) (c : Nat) : ((List.range o.length).filter fun k => o.getD k 0 == c).head? = o.findIdx? (· == c) := by
  rw [List.head?_filter]
  cases hx : o.findIdx? (· == c) with
  | none =>
    rw [List.find?_eq_none]
    intro k hk
    have hkl := List.mem_range.mp hk
    rw [List.findIdx?_eq_none_iff] at hx
    have h1 := hx o[k] (List.getElem_mem hkl)
    rw [List.getD_eq_getElem?_getD, List.getElem?_eq_getElem hkl]
    show ¬ (o[k] == c) = true
    rw [h1]
    exact Bool.false_ne_true
  | some i =>
    rw [List.find?_range_eq_some]
    rw [List.findIdx?_eq_some_iff_getElem] at hx
    obtain ⟨h1, h2, h3⟩ := hx
    refine ⟨?_, List.mem_range.mpr h1, fun j hj => ?_⟩
    · rw [List.getD_eq_getElem?_getD, List.getElem?_eq_getElem h1]
      exact h2
    · have := h3 j hj
      rw [List.getD_eq_getElem?_getD, List.getElem?_eq_getElem (by omega)]
      cases hq : (o[j] == c) with
      | false => show (!(o[j] == c)) = true; rw [hq]; rfl
      | true => rw [hq] at this; exact absurd rfl this
theorem own_head (names : List Str) (o : List Nat) (c : Nat) : ((((List.range o.length).filter fun k => o.getD k 0 == c).map fun k => V.str (names.getD k Str.empty)) ++ [V.non])[0]? = some (own names o c) := by
  unfold own
  rw [← find_range]
  cases ((List.range o.length).filter fun k => o.getD k 0 == c) <;> rfl
/-- ([..] + [None])[0] -/
theorem ev_first {K : PySem.W.Frag} {σ : L2.St} {H : Hp} {tl : TE} {us : List V} {v : V} (h : EvLG tl σ H (fun vs _ => vs = us)) (hl : us.length ≤ 1000) (hv : (us ++ [V.non])[0]? = some v) :
    Ev (tOp (rIxL K) (tOp rCat tl (tLst (tCons (tC .non) tNil))) (tC (.int 0))) σ H v := fun H1 e Q q =>
  h H1 e _ fun d H2 vs hd e2 h2 hvs => by
    refine ⟨by show 1 ≤ sizeLine; decide, fun r hr => ?_⟩
    have e3 : Ex H2 (upd H2 r (.lst [V.non])) := Ex.new hr
    refine ⟨d, r, us, [V.non], rfl, rfl, by rw [← hvs]; exact e3 _ _ h2, upd_same, sz_of (by show us.length + 1 ≤ 100000; omega), fun t ht => ?_⟩
    exact ⟨t, _, 0, v, rfl, rfl, .inl (.inl upd_same), atI_nat (j := 0) hv, q _ ((e2.trans e3).trans (Ex.new ht))⟩
def pdO : Option Nat → PyData
  | none => .none
  | some b => .int (b : Int)
def pdObs (g : List (Option Nat)) : PyData := .tuple (g.map pdO)
theorem dpa_obs {K : PySem.W.Frag} {H : Hp} : ∀ g : List (Option Nat), DpAll K H (g.map ob) (g.map pdO)
  | [] => .nil
  | none :: g => .cons .non (dpa_obs g)
  | some b :: g => .cons (.int _) (dpa_obs g)
theorem shp_obs (g : List (Option Nat)) : SeqAt.shaped (pdObs g) = true := by
  refine shp_of ?_ ?_
  · unfold pdObs
    rw [PyData.canLay0]
    exact canAll_by pdO g fun b _ => by cases b <;> simp [pdO, PyData.canLay0]
  · unfold pdObs
    rw [PyData.depth]
    have := depthAll_by pdO 0 g fun b _ => by cases b <;> simp [pdO, PyData.depth]
    omega
/-- manner == "..", the manner a text or guesses -/
theorem ev_man {K : PySem.W.Frag} {σ : L2.St} {H : Hp} {te : TE} {v : V} {m : Man} {z : Str} {b : Bool} (h : Ev te σ H v) (hm : ManAt H v m) (hz : SeqAt.shaped (.str z) = true)
    (h1 : m = .back → decide (("back" : Str) = z) = b) (h2 : m = .keep → decide (("keep" : Str) = z) = b) (h3 : ∀ g, m = .guess g → b = false) : Ev (tOp (rEqD K) te (tC (.str z))) σ H (.bl b) := by
  cases m with
  | back =>
    obtain rfl : v = .str "back" := hm
    exact ev_op h ev_c (rv_eqD (d := .str "back") (e := .str z) (fun _ _ => .str _) (fun _ _ => .str _) (by decide +kernel) hz (by rw [eqv_S]; exact h1 rfl))
  | keep =>
    obtain rfl : v = .str "keep" := hm
    exact ev_op h ev_c (rv_eqD (d := .str "keep") (e := .str z) (fun _ _ => .str _) (fun _ _ => .str _) (by decide +kernel) hz (by rw [eqv_S]; exact h2 rfl))
  | guess g =>
    obtain ⟨a, rfl, ha⟩ := hm
    rw [h3 g rfl]
    exact ev_op h ev_c (rv_eqD (d := pdObs g) (e := .str z) (fun H1 e1 => .tup (.inl (.inl (e1 _ _ ha))) (dpa_obs g)) (fun _ _ => .str _) (shp_obs g) hz (by unfold pdObs; simp [PyData.eqv]))
section
variable {P : Program} {w : World} {K : PySem.W.Frag} {mg : Str → Option Value} {base : Heap} {C CN : Addr}
abbrev nmLWay : List Str := ["_law_plan", "_law_some", "_law_name", "_law_box", "_law_met", "_law_turn", "_law_here", "_law_owner", "_law_manner", "_law_goal", "_law_k"]
theorem scLWay : FnScope nmLWay ["_law_plan", "_law_some", "_law_name", "_law_box"] (defScope sLWay) := ⟨rfl, rfl, rfl, by decide +kernel, rfl, by decide +kernel, by decide +kernel⟩
def gLWay : List V → Hp → (V → Hp → Prop) → Prop := fun vs H R => ∃ (p a : Addr) (h : Hs) (tr o : List Nat) (j b : Nat) (y : Str), vs = [.ref p, .ref a, .str y, bx b] ∧ PlanAt H p h tr ∧ h.Ok ∧ TupAt H a o ∧ o.length = h.names.length ∧ h.names[j]? = some y ∧ b < h.n ∧
  R = WayR (way h.ways o j b).1 (way h.ways o j b).2
theorem ok_lway (D : DefAt K mg "_law_way" sLWay) (T : Tx K mg) : Df P w K mg base CX0 1 "_law_way" (spG gLWay) := by
  refine D.ok scLWay (fun _ _ _ _ _ _ us hl => match us, hl with | [_, _, _, _], _ => rfl) (fun vs H Q E h => ?_) (fun f cdv A outer s H vs Q E hr h => ?_)
  · obtain ⟨z, ⟨p, a, h, tr, o, j, b, y, rfl, _⟩, _⟩ := h
    rfl
  · obtain ⟨z, ⟨p, a, h, tr, o, j, b, y, rfl, hp, O, ho, hol, hj, hb, rfl⟩, kk⟩ := h
    refine ⟨_, pss_cons (ps_set (i := 4) scLWay.nd rfl (Or.inl rfl) (pe_lst (pa_cons (pv 3) pa_nil)))
      (pss_cons (ps_for PassesOwn.never rfl (pi_range1 (by rfl) T.range (pa_cons pe_int pa_nil)) (pg_name (i := 5) scLWay.nd rfl (Or.inl rfl))
        (pss_cons (ps_set (i := 6) scLWay.nd rfl (Or.inr rfl) (pe_ix ix_list (pv 4) (pe_un un_neg pe_int) (fun _ _ => rfl)))
        (pss_cons (ps_set (i := 7) scLWay.nd rfl (Or.inl rfl) (pe_ix ix_list (pe_op op_cat
          (pe_lc (own := [("_law_k", 10)]) (g := gName 10) (te := tOp (rIxT K) (tOp (rIxT K) (tVar 0) (tC (.int 0))) (tVar 10)) (tt := tTest (tOp rEq (tOp (rIxT K) (tVar 1) (tVar 10)) (tVar 6))) rfl scLWay.nd (pi_range1 (by rfl) T.range (pa_cons (pe_callB call_len_seq (by rfl) T.len PySem.boot_len (pa_cons (pv 1) pa_nil)) pa_nil)) (blkOk_by (N := nmLWay) (sc := defScope sLWay) (by decide +kernel))
            (fun _ _ _ _ _ => pg_name (i := 10) scLWay.nd rfl (Or.inl rfl))
            (fun _ _ _ _ _ => pts_one (pt_cmpR op_eq (pe_ix ix_tup (pv 1) (pv 10) (fun _ _ => rfl)) (pv 6) (nomark _)))
            (fun _ _ _ _ _ => pe_ix ix_tup (pe_ix ix_tup (pv 0) pe_int (fun _ _ => rfl)) (pv 10) (fun _ _ => rfl)))
          (pe_lst (pa_cons pe_non pa_nil))) pe_int (fun _ _ => rfl)))
        (pss_cons (ps_set (i := 8) scLWay.nd rfl (Or.inl rfl) (pe_ifExp (pt_cmpR op_isN (pv 7) pe_non (nomark _)) pe_str (pe_dget (hu_of hr) (pe_ix ix_tup (pv 0) pe_int (fun _ _ => rfl)) (pv 7) (fun _ _ => rfl))))
        (pss_cons (ps_if (pt_cmpR op_eq (pv 7) (pv 2) (nomark _)) (pss_one (ps_ret (pe_tup (pa_cons (pe_callTy call_tuple_of (by rfl) T.tuple boot_tuple (pa_cons (pv 4) pa_nil)) (pa_cons pe_str pa_nil))))) pss_nil)
        (pss_cons (ps_if (pt_cmpR (op_eqD hr.units) (pv 8) pe_str (nomark _)) (pss_one (ps_ret (pe_tup (pa_cons (pe_callTy call_tuple_of (by rfl) T.tuple boot_tuple (pa_cons (pv 4) pa_nil)) (pa_cons pe_str pa_nil))))) pss_nil)
        (pss_cons (ps_set (i := 9) scLWay.nd rfl (Or.inl rfl) (pe_ifExp (pt_cmpR (op_eqD hr.units) (pv 8) pe_str (nomark _)) pe_non (pe_ix ix_tup (pv 8) (pe_bmT PySem.F.slot_tuple_index PySem.F.type_tuple_index mt_tupIx (pe_ix ix_tup (pv 0) pe_int (fun _ _ => rfl)) (pa_cons (pv 2) pa_nil)) (fun _ _ => rfl))))
        (pss_cons (ps_if (PW.pt (pw_or (pt_cmpR op_isN (pv 9) pe_non (nomark _)) (pw_or1 (pt_cmpR op_eq (pv 9) (pv 6) (nomark _))))) (pss_one (ps_ret (pe_tup (pa_cons (pe_callTy call_tuple_of (by rfl) T.tuple boot_tuple (pa_cons (pv 4) pa_nil)) (pa_cons pe_str pa_nil))))) pss_nil)
        (pss_cons (ps_if (pt_cmpR op_in_seq (pv 9) (pv 4) rfl) (pss_one (ps_ret (pe_tup (pa_cons (pe_callTy call_tuple_of (by rfl) T.tuple boot_tuple (pa_cons (pv 4) pa_nil)) (pa_cons pe_str pa_nil))))) pss_nil)
        (pss_one (ps_expr (pe_bm PySem.F.plainAttrs_list PySem.F.slot_list_append PySem.F.type_list_append mt_append (pv 4) (pa_cons (pv 9) pa_nil)))))))))))))
      (pss_one (ps_ret (pe_tup (pa_cons (pe_callTy call_tuple_of (by rfl) T.tuple boot_tuple (pa_cons (pv 4) pa_nil)) (pa_cons pe_str pa_nil)))))), ?_⟩
    obtain ⟨nT, sT, wD, tT, h1, h2, h3, h4, h5⟩ := id hp
    have plan0 : ∀ {σ : L2.St} {H1 : Hp}, σ[0]? = some (some (.ref p)) → Ex H H1 → Ev (tOp (rIxT K) (tVar 0) (tC (.int 0))) σ H1 (.ref nT) := fun z e => ev_op (ev_var z) ev_c (rv_ixT (.inl (.inl (e _ _ h1))) (atI_nat (j := 0) rfl))
    have plan2 : ∀ {σ : L2.St} {H1 : Hp}, σ[0]? = some (some (.ref p)) → Ex H H1 → Ev (tOp (rIxT K) (tVar 0) (tC (.int 2))) σ H1 (.ref wD) := fun z e => ev_op (ev_var z) ev_c (rv_ixT (.inl (.inl (e _ _ h1))) (atI_nat (j := 2) rfl))
    have hn5 : h.n ≤ 5 := O.l3
    have ol : o.length ≤ 4 := by have := O.l1; omega
    refine q_asgL (el_lst (ea_cons (ev_var rfl) ea_nil) (by show 1 ≤ 100000; decide)) fun l H1 hl e1 hl1 => ?_
    refine q_forB (HB := H) (n := 9) (ei_rng (ea_cons ev_c ea_nil) (by decide)) e1 (fun i σ' H' => ∃ (met : List Nat) (v5 v6 v7 v8 v9 : Option V), Met h.n met ∧ wayF h.ways o j (9 - i) met = way h.ways o j b ∧ σ' = [some (.ref p), some (.ref a), some (.str y), some (bx b), some (.ref l), v5, v6, v7, v8, v9, none] ∧ Ex H H' ∧ H' l = some (.lst (met.map bx)))
      (fun H2 e2 => ⟨[b], none, none, none, none, none, ⟨by simp, by simp, fun c hc => by
        have ec : c = b := by simpa using hc
        rw [ec]
        exact hb⟩, rfl, rfl, e1.trans e2, e2 _ _ hl1⟩) (fun i σ' H' ⟨_, _, _, _, _, _, _, _, _, e, _⟩ => e) ?_ ?_
    · rintro i x σ' HA' HA hi ⟨met, v5, v6, v7, v8, v9, M, hw, rfl, eA, hlA⟩ ⟨rfl, rfl⟩
      obtain ⟨f, hf⟩ : ∃ f, 9 - i = f + 1 := ⟨8 - i, by omega⟩
      have hf' : 9 - (i + 1) = f := by omega
      rw [hf] at hw
      rw [hf']
      have hml := M.le
      obtain ⟨m0, c, rfl⟩ : ∃ m0 c, met = m0 ++ [c] := ⟨met.dropLast, met.getLast M.ne, (List.dropLast_concat_getLast M.ne).symm⟩
      have hcn : c < h.n := M.lt c (by simp)
      rw [← hw] at kk
      refine q_asg (v := bx c) (ev_op (ev_var rfl) (ev_un ev_c ru_neg) (rv_ixL (.inl (.inl hlA)) (by rw [List.map_append]; exact atI_last _ _))) fun H2 e2 => ?_
      have e02 := eA.trans e2
      refine q_asg (v := own h.names o c) (ev_first (us := ((List.range o.length).filter fun k => o.getD k 0 == c).map fun k => V.str (h.names.getD k Str.empty)) (el_lstV (l := List.range o.length) (ei_rngL (ea_cons (ev_is (ev_lenT (ev_var (i := 1) rfl) (ho.ex e02).sq) (by rw [List.length_map])) ea_nil) (by omega)) (by rw [List.length_range]; omega) (fun k => o.getD k 0 == c) (fun k => .str (h.names.getD k Str.empty)) ?_) ?_ (own_head _ _ _)) fun H3 e3 => ?_
      · rintro i' k HB' u HB hk eB ⟨rfl, rfl⟩
        obtain ⟨rfl, hko⟩ := range_at hk
        have hkn : k < h.names.length := by omega
        refine ⟨Ex.refl _, [some (.ref p), some (.ref a), some (.str y), some (bx b), some (.ref l), some (bx i), some (bx c), v7, v8, v9, some (bx k)], rfl, fun Kk z => z _ (Ex.refl _), et_test (ev_is (ev_op (ev_op (ev_var rfl) (ev_var rfl) (rv_ixT (ho.ex (e02.trans eB)).sq (atI_nat (bx_at hko)))) (ev_var rfl) (rv_eq rfl)) (by rw [dec_bx])),
          fun _ => Evl_g (ev_op (plan0 rfl (e02.trans eB)) (ev_var rfl) (rv_ixT (FT.sq (h2.ex (e02.trans eB))) (atI_nat ?_)))⟩
        rw [List.getElem?_map, List.getD_eq_getElem?_getD, List.getElem?_eq_getElem hkn]
        rfl
      · rw [List.length_map]
        have := List.length_filter_le (fun k => o.getD k 0 == c) (List.range o.length)
        rw [List.length_range] at this
        omega
      · have e03 := e02.trans e3
        have hl3 := e3 _ _ (e2 _ _ hlA)
        cases hk : o.findIdx? (· == c) with
        | none =>
          have ho1 : own h.names o c = .non := by
            unfold own
            rw [hk]
          rw [ho1]
          rw [wayF_end (step_none hk)] at kk
          refine q_asg (v := .str "keep") (ev_if (b := true) (et_test (ev_is (ev_op (ev_var rfl) ev_c rv_isN) rfl)) (fun _ => ev_c) (fun q => by cases q)) fun H4 e4 => ?_
          refine q_when (b := false) (et_test (ev_is (ev_op (ev_var rfl) (ev_var rfl) (rv_eq rfl)) rfl)) (fun hb => by cases hb) (fun _ H5 e5 => ?_)
          refine q_when (b := true) (et_test (ev_man (m := .keep) (ev_var rfl) rfl (by decide +kernel) (fun q => by cases q) (fun _ => by decide +kernel) (fun g q => by cases q))) (fun _ H6 e6 => ?_) (fun hb => by cases hb)
          exact s_retG (eg_way (u := .lies) (ev_var rfl) ev_c (e6 _ _ (e5 _ _ (e4 _ _ hl3)))) fun v H7 e7 hv => kk v H7 (e03.trans (((e4.trans e5).trans e6).trans e7)) hv
        | some k =>
          have hko : k < o.length := (List.getElem?_eq_some_iff.mp (find_at hk)).1
          have hkn : k < h.names.length := by omega
          have hx : h.names[k]? = some h.names[k] := List.getElem?_eq_getElem hkn
          have ho1 : own h.names o c = .str h.names[k] := by
            unfold own
            rw [hk]
            show V.str (h.names.getD k Str.empty) = _
            rw [List.getD_eq_getElem?_getD, hx]
            rfl
          rw [ho1]
          have hkw : k < h.ways.length := by rw [O.wl]; exact hkn
          have hmk : h.ways[k]? = some h.ways[k] := List.getElem?_eq_getElem hkw
          obtain ⟨vs, hd, hvs⟩ := h4.ex e03
          obtain ⟨v, hv, hmv⟩ := paired_at2 hvs hmk
          refine q_asg (v := v) (ev_if (b := false) (et_test (ev_is (ev_op (ev_var rfl) ev_c rv_isN) rfl)) (fun q => by cases q) (fun _ => ev_dget (k := Sum.inr h.names[k]) (plan2 rfl e03) (ev_var rfl) hd (kvW_val O.nd hx hv))) fun H4 e4 => ?_
          by_cases hkj : k = j
          · subst hkj
            have exy : h.names[k] = y := Option.some.inj (hx.symm.trans hj)
            rw [wayF_end (step_own hk)] at kk
            refine q_when (b := true) (et_test (ev_is (ev_op (ev_var rfl) (ev_var rfl) (rv_eq rfl)) (by rw [exy, decide_eq_true rfl]))) (fun _ H5 e5 => ?_) (fun hb => by cases hb)
            exact s_retG (eg_way (u := .kept) (ev_var rfl) ev_c (e5 _ _ (e4 _ _ hl3))) fun v H6 e6 hv => kk v H6 (e03.trans ((e4.trans e5).trans e6)) hv
          · have exy : ¬ V.str h.names[k] = V.str y := fun q => hkj (by
              have := V.str.inj q
              rw [this] at hx
              exact nd_at O.nd hx hj)
            refine q_when (b := false) (et_test (ev_is (ev_op (ev_var rfl) (ev_var rfl) (rv_eq rfl)) (by rw [decide_eq_false exy]))) (fun hb => by cases hb) (fun _ H5 e5 => ?_)
            have e35 := e4.trans e5
            have hm5 : ManAt H5 v h.ways[k] := hmv.ex e35
            have hst := step_other hk hkj hmk
            have hl5 := e35 _ _ hl3
            -- the way ends by a word
            have back : ∀ H6, Ex H5 H6 → step h.ways o j c = .inl .back → tRet (tTup (tCons (tCB (fun xs H Q => ∃ p ys, xs = [.ref p] ∧ ((SqL K H p ys ∧ ∀ l, H l = none → Q (.ref l) (upd H l (.tup ys))) ∨ (SqT K H p ys ∧ Q (.ref p) H))) (tCons (tVar 4) tNil)) (tCons (tC (.str "back")) tNil))) { nx := fun _ H' => Q .non H', rt := Q } [some (.ref p), some (.ref a), some (.str y), some (bx b), some (.ref l), some (bx i), some (bx c), some (.str h.names[k]), some v, some .non, none] H6 := fun H6 e6 hs => by
              rw [wayF_end hs] at kk
              exact s_retG (eg_way (u := .back) (ev_var rfl) ev_c (e6 _ _ hl5)) fun v H7 e7 hv => kk v H7 (e03.trans ((e35.trans e6).trans e7)) hv
            cases hman : h.ways[k] with
            | back =>
              rw [hman] at hst hm5
              refine q_when (b := false) (et_test (ev_man (m := .back) (ev_var rfl) hm5 (by decide +kernel) (fun _ => by decide +kernel) (fun q => by cases q) (fun g q => by cases q))) (fun hb => by cases hb) (fun _ H6 e6 => ?_)
              refine q_asg (v := .non) (ev_if (b := true) (et_test (ev_man (m := .back) (ev_var rfl) (hm5.ex e6) (by decide +kernel) (fun _ => by decide +kernel) (fun q => by cases q) (fun g q => by cases q))) (fun _ => ev_c) (fun q => by cases q)) fun H7 e7 => ?_
              refine q_when (b := true) (et_or (a := true) (b := true) (et_test (ev_is (ev_op (ev_var rfl) ev_c rv_isN) rfl)) (fun q => by cases q)) (fun _ H8 e8 => ?_) (fun hb => by cases hb)
              rw [wayF_end hst] at kk
              exact s_retG (eg_way (u := .back) (ev_var rfl) ev_c (e8 _ _ (e7 _ _ (e6 _ _ hl5)))) fun v H9 e9 hv => kk v H9 (e03.trans ((e35.trans ((e6.trans e7).trans e8)).trans e9)) hv
            | keep =>
              rw [hman] at hst hm5
              refine q_when (b := true) (et_test (ev_man (m := .keep) (ev_var rfl) hm5 (by decide +kernel) (fun q => by cases q) (fun _ => by decide +kernel) (fun g q => by cases q))) (fun _ H6 e6 => ?_) (fun hb => by cases hb)
              rw [wayF_end hst] at kk
              exact s_retG (eg_way (u := .lies) (ev_var rfl) ev_c (e6 _ _ hl5)) fun v H7 e7 hv => kk v H7 (e03.trans ((e35.trans e6).trans e7)) hv
            | guess g =>
              rw [hman] at hst hm5
              refine q_when (b := false) (et_test (ev_man (m := .guess g) (ev_var rfl) hm5 (by decide +kernel) (fun q => by cases q) (fun q => by cases q) (fun _ _ => rfl))) (fun hb => by cases hb) (fun _ H6 e6 => ?_)
              have hm6 := hm5.ex e6
              obtain ⟨ga, rfl, hga⟩ := id hm6
              have hjn : j < h.names.length := (List.getElem?_eq_some_iff.mp hj).1
              have hjg : j < g.length := by rw [O.gl k g (by rw [hmk, hman])]; exact hjn
              have hg : g[j]? = some g[j] := List.getElem?_eq_getElem hjg
              have e06 := e03.trans (e35.trans e6)
              refine q_asg (v := ob g[j]) (ev_if (b := false) (et_test (ev_man (m := .guess g) (ev_var rfl) hm6 (by decide +kernel) (fun q => by cases q) (fun q => by cases q) (fun _ _ => rfl))) (fun q => by cases q) (fun _ => ev_op (ev_var rfl) (ev_tix (z := .str y) (plan0 rfl e06) (ev_var rfl) (h2.ex e06) rfl (flat_str _) (by rw [List.getElem?_map, hj]; rfl) (beq_self_eq_true y) (str_first O.nd hj))
                (rv_ixT (.inl (.inl hga)) (atI_nat (by rw [List.getElem?_map, hg]; rfl))))) fun H7 e7 => ?_
              have hl7 := e7 _ _ (e6 _ _ hl5)
              have e37 := e35.trans (e6.trans e7)
              cases hc : g[j] with
              | none =>
                have hs : stepM (.guess g) j c = .inl .back := by
                  show (match g[j]? with | some (some b) => if b = c then (.inl .back : Sum Wd Nat) else .inr b | _ => .inl .back) = _
                  rw [hg, hc]
                rw [hs] at hst
                rw [wayF_end hst] at kk
                refine q_when (b := true) (et_or (a := true) (b := true) (et_test (ev_is (ev_op (ev_var rfl) ev_c rv_isN) rfl)) (fun q => by cases q)) (fun _ H8 e8 => ?_) (fun hb => by cases hb)
                exact s_retG (eg_way (u := .back) (ev_var rfl) ev_c (e8 _ _ hl7)) fun v H9 e9 hv => kk v H9 (e03.trans ((e37.trans e8).trans e9)) hv
              | some b' =>
                by_cases hbc : b' = c
                · subst hbc
                  have hs : stepM (.guess g) j b' = .inl .back := by
                    show (match g[j]? with | some (some d) => if d = b' then (.inl .back : Sum Wd Nat) else .inr d | _ => .inl .back) = _
                    rw [hg, hc]
                    exact if_pos rfl
                  rw [hs] at hst
                  rw [wayF_end hst] at kk
                  refine q_when (b := true) (et_or (a := false) (b := true) (et_test (ev_is (ev_op (ev_var rfl) ev_c rv_isN) rfl)) (fun _ => et_test (ev_is (ev_op (ev_var rfl) (ev_var rfl) (rv_eq rfl)) (by rw [decide_eq_true (show ob (some b') = bx b' from rfl)])))) (fun _ H8 e8 => ?_) (fun hb => by cases hb)
                  exact s_retG (eg_way (u := .back) (ev_var rfl) ev_c (e8 _ _ hl7)) fun v H9 e9 hv => kk v H9 (e03.trans ((e37.trans e8).trans e9)) hv
                · have hs : stepM (.guess g) j c = .inr b' := by
                    show (match g[j]? with | some (some d) => if d = c then (.inl .back : Sum Wd Nat) else .inr d | _ => .inl .back) = _
                    rw [hg, hc]
                    exact if_neg hbc
                  rw [hs] at hst
                  rw [wayF_next hst] at kk
                  refine q_when (b := false) (et_or (a := false) (b := false) (et_test (ev_is (ev_op (ev_var rfl) ev_c rv_isN) rfl)) (fun _ => et_test (ev_is (ev_op (ev_var rfl) (ev_var rfl) (rv_eq rfl)) (by rw [decide_eq_false (show ¬ ob (some b') = bx c from fun q => hbc (bx_inj q))])))) (fun hb => by cases hb) (fun _ H8 e8 => ?_)
                  have hl8 := e8 _ _ hl7
                  have e38 := e37.trans e8
                  refine q_when (et_test (ev_op (ev_var rfl) (ev_var rfl) (rv_isL (.inl (.inl hl8)) rfl (flat_bx _)))) (fun hb H9 e9 => ?_) (fun hb H9 e9 => ?_)
                  · have hb : inV (bx b') ((m0 ++ [c]).map bx) = true := hb
                    rw [in_bx] at hb
                    rw [hb, if_pos rfl] at kk
                    exact s_retG (eg_way (u := .round) (ev_var rfl) ev_c (e9 _ _ hl8)) fun v Ha ea hv => kk v Ha (e03.trans ((e38.trans e9).trans ea)) hv
                  · have hb : inV (bx b') ((m0 ++ [c]).map bx) = false := hb
                    rw [in_bx] at hb
                    rw [hb, if_neg Bool.false_ne_true] at kk
                    have hbn := (step_lt O.gs hst).1
                    have hw2 : wayF h.ways o j f (m0 ++ [c] ++ [b']) = way h.ways o j b := by
                      rw [← hw, wayF_next hst, hb, if_neg Bool.false_ne_true]
                    refine s_app (e9 _ _ hl8) (ev_var rfl) (ev_var rfl) (by rw [List.length_map]; omega) fun Hb eb => ⟨m0 ++ [c] ++ [b'], _, _, _, _, _, M.snoc hbn hb, hw2, rfl, ?_, ?_⟩
                    · exact Ex.chg (e03.trans ((e38.trans e9).trans eb)) hl
                    · rw [upd_same, List.map_append (l₁ := m0 ++ [c])]
                      rfl
    · rintro σ' HA ⟨met, v5, v6, v7, v8, v9, M, hw, rfl, eA, hlA⟩
      have hw : (met, Wd.round) = way h.ways o j b := hw
      rw [← hw] at kk
      exact s_retG (eg_way (u := .round) (ev_var rfl) ev_c hlA) fun v H2 e2 hv => kk v H2 (eA.trans e2) hv
end
end Lp

set_option Elab.async false
set_option linter.all false
set_option maxRecDepth 100000
set_option maxHeartbeats 4000000
/-! Lostplates: the walks of the law's own _law_seen, _law_letters, _law_left. -/
namespace Lp
open PySem PySem.Spec PyProof.Rows L2
open Evl
/-- a letter that can be put -/
def LetAt (h : Hs) (H : Hp) (a : Addr) : Prop := ∃ (j : Nat) (x : Str) (b : Nat), h.names[j]? = some x ∧ b < h.n ∧ H a = some (.tup [.str x, bx b])
theorem LetAt.ex {h : Hs} {H H' : Hp} {a : Addr} (e : Ex H H') (q : LetAt h H a) : LetAt h H' a := by
  obtain ⟨j, x, b, h1, h2, h3⟩ := q
  exact ⟨j, x, b, h1, h2, e _ _ h3⟩
section
variable {P : Program} {w : World} {K : PySem.W.Frag} {mg : Str → Option Value} {base : Heap} {C CN : Addr}

/-! ### _law_seen -/
def gLSeen : List V → Hp → V → Prop := fun vs H z => ∃ (p a : Addr) (h : Hs) (tr o : List Nat) (j b : Nat) (y : Str), vs = [.ref p, .ref a, .str y, bx b] ∧ PlanAt H p h tr ∧ h.Ok ∧ TupAt H a o ∧ o.length = h.names.length ∧ h.names[j]? = some y ∧ b < h.n ∧ z = ob (ans h.ways o j b)
theorem scLSeen : FnScope ["_law_plan", "_law_some", "_law_name", "_law_box", "_law_met", "_law_word"] ["_law_plan", "_law_some", "_law_name", "_law_box"] (defScope sLSeen) := ⟨rfl, rfl, rfl, by decide +kernel, rfl, by decide +kernel, by decide +kernel⟩
theorem ok_lseen (D : DefAt K mg "_law_seen" sLSeen) (T : Tx K mg) (F : Df P w K mg base CX0 1 "_law_way" (spG gLWay)) : Df P w K mg base CX0 2 "_law_seen" (spV gLSeen) := by
  refine D.ok scLSeen (fun _ _ _ _ _ _ us hl => match us, hl with | [_, _, _, _], _ => rfl) (fun vs H Q E h => ?_) (fun f cdv A outer s H vs Q E hr h => ?_)
  · obtain ⟨z, ⟨p, a, h, tr, o, j, b, y, rfl, _⟩, _⟩ := h
    rfl
  · obtain ⟨z, ⟨p, a, h, tr, o, j, b, y, rfl, hp, O, ho, hol, hj, hb, rfl⟩, kk⟩ := h
    refine ⟨_, pss_cons (ps_asg (pe_df F hr (by rfl) pass0 (pa_cons (pv 0) (pa_cons (pv 1) (pa_cons (pv 2) (pa_cons (pv 3) pa_nil))))) (pg_tup rfl (pgs_cons (pg_name (i := 4) scLSeen.nd rfl (Or.inl rfl)) (pgs_cons (pg_name (i := 5) scLSeen.nd rfl (Or.inl rfl)) pgs_nil))))
      (pss_one (ps_ret (pe_ifExp (pt_cmpR op_eq (pv 5) pe_str (nomark _)) (pe_op op_sub (pe_callB call_len_seq (by rfl) T.len PySem.boot_len (pa_cons (pv 4) pa_nil)) pe_int) pe_non))), ?_⟩
    refine ev_cl (G := WayR (way h.ways o j b).1 (way h.ways o j b).2) (ea_cons (ev_var rfl) (ea_cons (ev_var rfl) (ea_cons (ev_var rfl) (ea_cons (ev_var rfl) ea_nil)))) (spG_g fun H1 e1 => ⟨p, a, h, tr, o, j, b, y, rfl, hp.ex e1, O, ho.ex e1, hol, hj, hb, rfl⟩) H (Ex.refl H) _ fun v H1 e1 hv => ?_
    obtain ⟨t, m, rfl, ht, hm⟩ := hv
    refine g_two (.inl (.inl ht)) ?_
    have ha : ans h.ways o j b = if (way h.ways o j b).2 = .back then some ((way h.ways o j b).1.length - 1) else none := rfl
    rw [ha] at kk
    by_cases hw : (way h.ways o j b).2 = .back
    · rw [if_pos hw] at kk
      have M : Met h.n (way h.ways o j b).1 := wayF_met O.gs 9 [b] ⟨by simp, by simp, fun c hc => by
        have ec : c = b := by simpa using hc
        rw [ec]
        exact hb⟩
      have hp : 1 ≤ (way h.ways o j b).1.length := by
        cases hx : (way h.ways o j b).1 with
        | nil => exact absurd hx M.ne
        | cons _ _ => simp
      refine s_ret (ev_if (b := true) (et_test (ev_is (ev_op (ev_var rfl) ev_c (rv_eq rfl)) (by rw [decide_eq_true (wd_back.mpr hw)]))) (fun _ => ev_is (ev_op (ev_lenT (ev_var rfl) (.inl (.inl hm))) ev_c rv_I0) ?_) (fun q => by cases q)) fun H2 e2 => kk H2 (e1.trans e2)
      show V.int _ = V.int _
      rw [List.length_map]
      congr 1
      omega
    · rw [if_neg hw] at kk
      exact s_ret (ev_if (b := false) (et_test (ev_is (ev_op (ev_var rfl) ev_c (rv_eq rfl)) (by rw [decide_eq_false fun q => hw (wd_back.mp q)]))) (fun q => by cases q) (fun _ => ev_c)) fun H2 e2 => kk H2 (e1.trans e2)

/-! ### _law_letters -/
def gLLetters : List V → Hp → (V → Hp → Prop) → Prop := fun vs H R => ∃ (p : Addr) (h : Hs) (tr : List Nat), vs = [.ref p] ∧ PlanAt H p h tr ∧ h.Ok ∧ R = fun v H' => ∃ (u : Addr) (as : List Addr), v = .ref u ∧ H' u = some (.lst (as.map V.ref)) ∧ 1 ≤ as.length ∧ as.length ≤ 20 ∧ ∀ a ∈ as, LetAt h H' a
theorem scLLetters : FnScope ["_law_plan", "_law_found", "_law_name", "_law_box"] ["_law_plan"] (defScope sLLetters) := ⟨rfl, rfl, rfl, by decide +kernel, rfl, by decide +kernel, by decide +kernel⟩
theorem ok_lletters (D : DefAt K mg "_law_letters" sLLetters) (T : Tx K mg) : Df P w K mg base CX0 1 "_law_letters" (spG gLLetters) := by
  refine D.ok scLLetters (fun _ _ _ _ _ _ us hl => match us, hl with | [_], _ => rfl) (fun vs H Q E h => ?_) (fun f cdv A outer s H vs Q E hr h => ?_)
  · obtain ⟨z, ⟨p, h, tr, rfl, _⟩, _⟩ := h
    rfl
  · obtain ⟨z, ⟨p, h, tr, rfl, hp, O, rfl⟩, kk⟩ := h
    refine ⟨_, pss_cons (ps_set (i := 1) scLLetters.nd rfl (Or.inl rfl) (pe_lst pa_nil))
      (pss_cons (ps_for PassesOwn.never rfl (pi_tup (pe_ix ix_tup (pv 0) pe_int (fun _ _ => rfl))) (pg_name (i := 2) scLLetters.nd rfl (Or.inr rfl))
        (pss_one (ps_set (i := 1) scLLetters.nd rfl (Or.inl rfl) (pe_op op_cat (pv 1)
          (pe_lc (own := [("_law_box", 3)]) (g := gName 3) (te := tTup (tCons (tVar 2) (tCons (tVar 3) tNil))) (tt := tYes) rfl scLLetters.nd (pi_range1 (by rfl) T.range (pa_cons (pe_callB call_len_seq (by rfl) T.len PySem.boot_len (pa_cons (pe_ix ix_tup (pv 0) pe_int (fun _ _ => rfl)) pa_nil)) pa_nil)) (blkOk_by (N := ["_law_plan", "_law_found", "_law_name", "_law_box"]) (sc := defScope sLLetters) (by decide +kernel))
            (fun _ _ _ _ _ => pg_name (i := 3) scLLetters.nd rfl (Or.inl rfl)) (fun _ _ _ _ _ => pts_nil) (fun _ _ _ _ _ => pe_tup (pa_cons (pv 2) (pa_cons (pv 3) pa_nil))))))))
      (pss_one (ps_ret (pv 1)))), ?_⟩
    obtain ⟨nT, sT, wD, tT, h1, h2, h3, h4, h5⟩ := id hp
    have hn5 : h.n ≤ 5 := O.l3
    have l1 := O.l1
    have plan0 : ∀ {σ : L2.St} {H1 : Hp}, σ[0]? = some (some (.ref p)) → Ex H H1 → Ev (tOp (rIxT K) (tVar 0) (tC (.int 0))) σ H1 (.ref nT) := fun z e => ev_op (ev_var z) ev_c (rv_ixT (.inl (.inl (e _ _ h1))) (atI_nat (j := 0) rfl))
    have plan1 : ∀ {σ : L2.St} {H1 : Hp}, σ[0]? = some (some (.ref p)) → Ex H H1 → Ev (tOp (rIxT K) (tVar 0) (tC (.int 1))) σ H1 (.ref sT) := fun z e => ev_op (ev_var z) ev_c (rv_ixT (.inl (.inl (e _ _ h1))) (atI_nat (j := 1) rfl))
    refine q_asgL (el_lst ea_nil (Nat.zero_le _)) fun l0 H1 hl0 e1 hl1 => ?_
    refine q_forI (ei_tup (plan0 rfl e1) (FT.sq (h2.ex e1))) (fun i σ' H' => ∃ (l : Addr) (as : List Addr) (v2 v3 : Option V), σ' = [some (.ref p), some (.ref l), v2, v3] ∧ Ex H1 H' ∧ H' l = some (.lst (as.map V.ref)) ∧ as.length = i * h.n ∧ ∀ a ∈ as, LetAt h H' a)
      (fun H2 e2 => ⟨l0, [], none, none, rfl, e2, e2 _ _ hl1, by rw [Nat.zero_mul]; rfl, fun a ha => by cases ha⟩) (fun i σ' H' ⟨_, _, _, _, _, e, _⟩ => e) ?_ ?_
    · rintro i x σ' HA' HA hi ⟨l, as, v2, v3, rfl, eA, hlA, hal, has⟩ ⟨rfl, hx⟩
      rw [List.getElem?_map] at hx
      obtain ⟨x, hx', rfl⟩ := Option.map_eq_some_iff.mp hx
      have eH := e1.trans eA
      have hin : i < h.names.length := (List.getElem?_eq_some_iff.mp hx').1
      have hmul : i * h.n ≤ 4 * 5 := Nat.mul_le_mul (by omega) hn5
      refine s_asgG (G := fun v H' => ∃ (c : Addr) (bs : List Addr), v = .ref c ∧ H' c = some (.lst (bs.map V.ref)) ∧ bs.length = (i + 1) * h.n ∧ ∀ a ∈ bs, LetAt h H' a) (fun HB eB Q qq => ?_) fun v HB eB ⟨c, bs, hv, hc, hb1, hb2⟩ => ?_
      · refine (ev_var (i := 1) rfl : Ev (tVar 1) _ HA (.ref l)) HB eB _ fun HC eC => ?_
        have e0C := eH.trans (eB.trans eC)
        refine el_lst_ (σ := [some (.ref p), some (.ref l), some (.str x), v3]) (l := List.range h.n) (ei_rngL (ea_cons (ev_is (ev_lenT (plan1 rfl e0C) (.inl (.inl (e0C _ _ h3)))) (by rw [List.length_map]; rfl)) ea_nil) (by omega)) (by rw [List.length_range]; omega) (fun _ => true) (fun b v H' => ∃ c, v = .ref c ∧ H' c = some (.tup [.str x, bx b])) (fun b v H2 H3 k ⟨c, q1, q2⟩ => ⟨c, q1, k.tup q2⟩) ?_ HC (Ex.refl _) _ fun d HD vs hd eD hdD hvs => ?_
        · rintro k b HE' u HE hb eE ⟨rfl, rfl⟩
          obtain ⟨rfl, hbn⟩ := range_at hb
          refine ⟨Ex.refl _, [some (.ref p), some (.ref l), some (.str x), some (bx b)], rfl, fun Kk z => z _ (Ex.refl _), et_yes, fun _ H3 e3 Q2 q2 => eu_tup (vs := [.str x, bx b]) (ea_cons (ev_var rfl) (ea_cons (ev_var rfl) ea_nil)) (by show 2 ≤ 100000; decide) H3 e3 _ fun c H4 hc e4 h4' => q2 _ H4 e4 ⟨c, rfl, h4'⟩⟩
        · obtain ⟨cs', rfl, hcs⟩ := paired_refs hvs
          have lcs := paired_len hcs
          have hfl : ((List.range h.n).filter fun _ => true) = List.range h.n := List.filter_eq_self.mpr fun _ _ => rfl
          rw [hfl] at hcs lcs
          rw [List.length_range] at lcs
          refine ⟨l, d, as.map V.ref, cs'.map V.ref, rfl, rfl, eD _ _ ((eB.trans eC) _ _ hlA), hdD, sz_of (by rw [List.length_map, List.length_map]; omega), fun c hc => ?_⟩
          have eN : Ex HD (upd HD c (.lst (as.map V.ref ++ cs'.map V.ref))) := Ex.new hc
          refine qq _ _ ((eC.trans eD).trans eN) ⟨c, as ++ cs', rfl, by rw [upd_same, List.map_append], by rw [List.length_append, hal, lcs, Nat.add_mul, Nat.one_mul], fun a ha => ?_⟩
          rcases List.mem_append.mp ha with ha | ha
          · exact (has a ha).ex ((eB.trans (eC.trans eD)).trans eN)
          · obtain ⟨k, hk⟩ := List.getElem?_of_mem ha
            obtain ⟨b, hb, hab⟩ := paired_at hcs hk
            obtain ⟨rfl, hbn⟩ := range_at hb
            exact ⟨i, x, b, hx', hbn, eN _ _ hab⟩
      · subst hv
        exact ⟨c, bs, _, _, rfl, eA.trans eB, hc, hb1, hb2⟩
    · rintro σ' HA ⟨l, as, v2, v3, rfl, eA, hlA, hal, has⟩
      rw [List.length_map] at hal
      refine s_ret (ev_var rfl) fun H2 e2 => kk _ H2 (e1.trans (eA.trans e2)) ⟨l, as, rfl, e2 _ _ hlA, ?_, ?_, fun a ha => (has a ha).ex e2⟩
      · have := O.l0
        have := O.l2
        have h6 : 1 ≤ h.n := by show 1 ≤ h.signs.length; omega
        rw [hal]
        exact Nat.mul_le_mul O.l0 h6
      · rw [hal]
        exact Nat.mul_le_mul l1 hn5

/-! ### _law_left -/
def gLLeft : List V → Hp → (V → Hp → Prop) → Prop := fun vs H R => ∃ (p r q : Addr) (h : Hs) (tr : List Nat) (rows : List (List Nat)) (log : List Ent), vs = [.ref p, .ref r, .ref q] ∧ PlanAt H p h tr ∧ h.Ok ∧ OrdL H r rows ∧ (∀ o ∈ rows, o.length = h.names.length) ∧ rows.length ≤ 625 ∧ LogL h.names H q log ∧ LogOk h log ∧
  R = fun v H' => ∃ u, v = .ref u ∧ H u = none ∧ OrdL H' u (left h.ways rows log)
theorem scLLeft : FnScope ["_law_plan", "_law_rows", "_law_log", "_law_found", "_law_some", "_law_name", "_law_box", "_law_seen_here"] ["_law_plan", "_law_rows", "_law_log"] (defScope sLLeft) := ⟨rfl, rfl, rfl, by decide +kernel, rfl, by decide +kernel, by decide +kernel⟩
theorem none_all {α : Type} (f : α → Bool) (l : List α) : ((l.filter fun e => !f e).map fun _ => 1).isEmpty = l.all f := by
  rw [Bool.eq_iff_iff, List.isEmpty_iff, List.map_eq_nil_iff, List.filter_eq_nil_iff, List.all_eq_true]
  constructor
  · intro h x hx
    have := h x hx
    cases hf : f x with
    | true => rfl
    | false => rw [hf] at this; exact absurd rfl this
  · intro h x hx
    rw [h x hx]
    exact Bool.false_ne_true
theorem ok_lleft (D : DefAt K mg "_law_left" sLLeft) (T : Tx K mg) (F : Df P w K mg base CX0 2 "_law_seen" (spV gLSeen)) : Df P w K mg base CX0 3 "_law_left" (spG gLLeft) := by
  refine D.ok scLLeft (fun _ _ _ _ _ _ us hl => match us, hl with | [_, _, _], _ => rfl) (fun vs H Q E h => ?_) (fun f cdv A outer s H vs Q E hr h => ?_)
  · obtain ⟨z, ⟨p, r, q, h, tr, rows, log, rfl, _⟩, _⟩ := h
    rfl
  · obtain ⟨z, ⟨p, r, q, h, tr, rows, log, rfl, hp, O, hrows, hlen, hmany, hlog, L, rfl⟩, kk⟩ := h
    refine ⟨_, pss_cons (ps_set (i := 3) scLLeft.nd rfl (Or.inl rfl) (pe_lst pa_nil))
      (pss_cons (ps_for PassesOwn.never rfl (pi_list (pv 1)) (pg_name (i := 4) scLLeft.nd rfl (Or.inr rfl))
        (pss_one (ps_if (pt_cmpR (op_eqD hr.units) (pe_lc (own := [("_law_name", 5), ("_law_box", 6), ("_law_seen_here", 7)]) (g := gTup K 3 (gCons (gName 5) (gCons (gName 6) (gCons (gName 7) gNil)))) (te := tC (.int 1)) (tt := tTest (tOp rNe (tCl (spV gLSeen) E0 (tCons (tVar 0) (tCons (tVar 4) (tCons (tVar 5) (tCons (tVar 6) tNil))))) (tVar 7))) rfl scLLeft.nd (pi_list (pv 2)) (blkOk_by (N := ["_law_plan", "_law_rows", "_law_log", "_law_found", "_law_some", "_law_name", "_law_box", "_law_seen_here"]) (sc := defScope sLLeft) (by decide +kernel))
          (fun _ _ _ _ _ => pg_tup rfl (pgs_cons (pg_name (i := 5) scLLeft.nd rfl (Or.inl rfl)) (pgs_cons (pg_name (i := 6) scLLeft.nd rfl (Or.inl rfl)) (pgs_cons (pg_name (i := 7) scLLeft.nd rfl (Or.inl rfl)) pgs_nil))))
          (fun _ _ _ _ _ => pts_one (pt_cmpR op_ne (pe_df F hr (by rfl) pass0 (pa_cons (pv 0) (pa_cons (pv 4) (pa_cons (pv 5) (pa_cons (pv 6) pa_nil))))) (pv 7) (nomark _)))
          (fun _ _ _ _ _ => pe_int)) (pe_lst pa_nil) (nomark _))
          (pss_one (ps_expr (pe_bm PySem.F.plainAttrs_list PySem.F.slot_list_append PySem.F.type_list_append mt_append (pv 3) (pa_cons (pv 4) pa_nil)))) pss_nil)))
      (pss_one (ps_ret (pv 3)))), ?_⟩
    obtain ⟨as, hr1, hras⟩ := id hrows
    obtain ⟨ls, hq, hls⟩ := id hlog
    refine q_asgL (el_lst ea_nil (Nat.zero_le _)) fun u H1 hu e1 hL => ?_
    refine q_forB (HB := H) (ei_refs (ev_var rfl) hr1 hras) e1 (fun i σ' H' => ∃ (v4 v5 v6 v7 : Option V) (bs : List Addr), σ' = [some (.ref p), some (.ref r), some (.ref q), some (.ref u), v4, v5, v6, v7] ∧ Ex H H' ∧ H' u = some (.lst (bs.map V.ref)) ∧ Paired (TupAt H') bs (left h.ways (rows.take i) log))
      (fun H2 e2 => ⟨none, none, none, none, [], rfl, e1.trans e2, e2 _ _ hL, .nil⟩) (fun i σ' H' ⟨_, _, _, _, _, _, e, _⟩ => e) ?_ ?_
    · rintro i x σ' HA' HA hi ⟨v4, v5, v6, v7, bs, rfl, eA, hLA, hbs⟩ ⟨rfl, hx⟩
      obtain ⟨a, o, rfl, ho, hoa⟩ := ref_at hras hx
      have hol := hlen o (List.mem_of_getElem? ho)
      have lbs := paired_len hbs
      have l1 := left_len h.ways (rows.take i) log
      have l2 := List.length_take_le' i rows
      refine s_when (b := log.all (agrees h.ways o)) (et_is (et_test (ev_noLc (ns := (log.filter fun e => !agrees h.ways o e).map fun _ => 1) (fun H2 e2 Q qq => el_lstV (l := log) (ei_refs (ev_var rfl) ((eA.trans e2) _ _ hq) (paired_mono (fun _ _ z => z.ex (eA.trans e2)) hls)) (Nat.le_trans L.len (by decide)) (fun e => !agrees h.ways o e) (fun _ => bx 1) ?_ H2 (Ex.refl _) Q fun d H3 us hd e3 h3 hus => qq d H3 us hd e3 h3 (by rw [hus, List.map_map]; rfl)))) (none_all _ _)) (fun hb H2 e2 => ?_) (fun hb H2 e2 => ⟨_, _, _, _, bs, rfl, eA.trans e2, e2 _ _ hLA, ?_⟩)
      · rintro k en HC' y HC hk eC ⟨rfl, hy⟩
        obtain ⟨la, en', rfl, hen, nm, hnm, hat⟩ := ref_at hls hy
        have een : en' = en := Option.some.inj (hen.symm.trans hk)
        subst een
        have hmem := List.mem_of_getElem? hk
        have e0C := eA.trans (e2.trans eC)
        refine ⟨Ex.refl _, [some (.ref p), some (.ref r), some (.ref q), some (.ref u), some (.ref a), some (.str nm), some (bx en'.b), some (ob en'.seen)], rfl, fun Kk z => g_three (.inl (.inl (e0C _ _ hat))) (z _ (Ex.refl _)), et_test (ev_is (ev_op (ev_clV (z := ob (ans h.ways o en'.j en'.b)) (ea_cons (ev_var rfl) (ea_cons (ev_var rfl) (ea_cons (ev_var rfl) (ea_cons (ev_var rfl) ea_nil))))
          (spV_g fun H4 e4 => ⟨p, a, h, tr, o, en'.j, en'.b, nm, rfl, hp.ex (e0C.trans e4), O, hoa.ex (e0C.trans e4), hol, hnm, L.bx en' hmem, rfl⟩)) (ev_var rfl) (rv_ne (scal_ob _ _))) (by rw [eq_ob]; rfl)), fun _ => Evl_g ev_c⟩
      · have hl2 := e2 _ _ hLA
        refine s_app hl2 (ev_var rfl) (ev_var rfl) (by rw [List.length_map]; omega) fun H3 e3 => ⟨_, _, _, _, bs ++ [a], rfl, Ex.chg (eA.trans (e2.trans e3)) hu, ?_, ?_⟩
        · rw [upd_same, List.map_append]
          rfl
        · have hl3 : H3 u = some (.lst (bs.map V.ref)) := e3 _ _ hl2
          rw [left_take ho, if_pos hb]
          exact paired_app (paired_mono (fun _ _ z => z.kt ((Kt.of (e2.trans e3)).trans (Kt.lst hl3))) hbs) (.cons (TupAt.kt (Kt.lst hl3) (hoa.ex (eA.trans (e2.trans e3)))) .nil)
      · rw [left_take ho, if_neg (by rw [hb]; exact Bool.false_ne_true), List.append_nil]
        exact paired_mono (fun _ _ z => z.ex e2) hbs
    · rintro σ' HA ⟨v4, v5, v6, v7, bs, rfl, eA, hLA, hbs⟩
      rw [List.take_length] at hbs
      exact s_ret (ev_var rfl) fun H2 e2 => kk _ H2 (eA.trans e2) ⟨u, rfl, hu, bs, e2 _ _ hLA, paired_mono (fun _ _ z => z.ex e2) hbs⟩
end
end Lp

set_option Elab.async false
set_option linter.all false
set_option maxRecDepth 100000
set_option maxHeartbeats 4000000
/-! Lostplates: what is drawn: any number below the bound; the row of the drawing is the only thing that changes. -/
namespace Lp
open PySem PySem.Spec PyProof.Rows L2
open Evl
abbrev sTaken : Stmt := top 51
abbrev sPick : Stmt := top 52
abbrev sMixed : Stmt := top 53
/-- all but the row stays -/
def Fr (rw : Addr) (H H' : Hp) : Prop := ∀ a o, a ≠ rw → H a = some o → H' a = some o
/-- all but the row -/
def cut (rw : Addr) (H : Hp) : Hp := fun a => if a = rw then none else H a
theorem cut_at {rw a : Addr} {H : Hp} (h : a ≠ rw) : cut rw H a = H a := if_neg h
theorem cut_rw {rw : Addr} {H : Hp} : cut rw H rw = none := if_pos rfl
theorem cut_some {rw a : Addr} {H : Hp} {o : HO} (h : cut rw H a = some o) : a ≠ rw ∧ H a = some o := by
  unfold cut at h
  by_cases e : a = rw
  · rw [if_pos e] at h
    cases h
  · rw [if_neg e] at h
    exact ⟨e, h⟩
theorem cut_ex {rw : Addr} {H : Hp} : Ex (cut rw H) H := fun a o h => (cut_some h).2
theorem Fr.refl (rw : Addr) (H : Hp) : Fr rw H H := fun _ _ _ h => h
theorem Fr.trans {rw : Addr} {H H1 H2 : Hp} (a : Fr rw H H1) (b : Fr rw H1 H2) : Fr rw H H2 := fun x o n h => b x o n (a x o n h)
theorem Fr.of {rw : Addr} {H H' : Hp} (e : Ex H H') : Fr rw H H' := fun a o _ h => e a o h
theorem Fr.row {rw : Addr} {H : Hp} {o : HO} : Fr rw H (upd H rw o) := fun a u n h => by
  rw [upd_ne n]
  exact h
theorem Fr.cut {rw : Addr} {H H' : Hp} (f : Fr rw H H') : Ex (cut rw H) (cut rw H') := fun a o h => by
  obtain ⟨n, h1⟩ := cut_some h
  rw [cut_at n]
  exact f a o n h1
/-- the row: the script, how many numbers are drawn, the generator, what is left of a great number -/
def RowAt (rw S : Addr) (H : Hp) : Prop := ∃ i r2 r3 : Int, H rw = some (.lst [.ref S, .int i, .int r2, .int r3]) ∧ 0 ≤ i ∧ 0 ≤ r2 ∧ r2 < 2147483647
theorem RowAt.ex {rw S : Addr} {H H' : Hp} (e : Ex H H') (h : RowAt rw S H) : RowAt rw S H' := by
  obtain ⟨i, r2, r3, h3, h4⟩ := h
  exact ⟨i, r2, r3, e _ _ h3, h4⟩
theorem RowAt.chg {rw S p : Addr} {H : Hp} {o : HO} (h : RowAt rw S H) (n : p ≠ rw) : RowAt rw S (upd H p o) := by
  obtain ⟨i, r2, r3, h3, h4⟩ := h
  exact ⟨i, r2, r3, by rw [upd_ne (Ne.symm n)]; exact h3, h4⟩
theorem RowAt.new {rw S p : Addr} {H : Hp} (r : RowAt rw S H) (h : H p = none) : p ≠ rw := fun e => by
  obtain ⟨_, _, _, h3, _⟩ := r
  rw [e, h3] at h
  cases h
/-- the script -/
def ScrAt (K : PySem.W.Frag) (S : Addr) (H : Hp) : Prop := ∃ ns : List Int, SqL K H S (ns.map V.int)
theorem ScrAt.ex {K : PySem.W.Frag} {S : Addr} {H H' : Hp} (e : Ex H H') (h : ScrAt K S H) : ScrAt K S H' := by
  obtain ⟨ns, h⟩ := h
  exact ⟨ns, ex_l e h⟩
theorem sql_fr {K : PySem.W.Frag} {rw S : Addr} {H H' : Hp} {xs : List V} (f : Fr rw H H') (n : S ≠ rw) (h : SqL K H S xs) : SqL K H' S xs := by
  rcases h with (h | ⟨o, h⟩) | h
  · exact .inl (.inl (f _ _ n h))
  · exact .inl (.inr ⟨o, f _ _ n h⟩)
  · exact .inr h
/-- the script is not the row, or it is written -/
def Apart (K : PySem.W.Frag) (rw S : Addr) : Prop := S ≠ rw ∨ ∀ H, ScrAt K S H
theorem ScrAt.fr {K : PySem.W.Frag} {rw S : Addr} {H H' : Hp} (f : Fr rw H H') (n : Apart K rw S) (h : ScrAt K S H) : ScrAt K S H' := by
  rcases n with n | n
  · obtain ⟨ns, h⟩ := h
    exact ⟨ns, sql_fr f n h⟩
  · exact n H'
/-- what is known at a state: Kn holds, the row is a row -/
structure Run (K : PySem.W.Frag) (rw S : Addr) (Kn H : Hp) : Prop where
  kn : Kn rw = none
  ex : Ex Kn H
  ne : Apart K rw S
  sc : ScrAt K S Kn
  row : RowAt rw S H
section
variable {K : PySem.W.Frag} {rw S : Addr} {Kn H H' : Hp}
theorem Run.fr (r : Run K rw S Kn H) (f : Fr rw H H') (q : RowAt rw S H') : Run K rw S Kn H' := ⟨r.kn, fun a o h => f a o (fun e => by
  rw [e, r.kn] at h
  cases h) (r.ex a o h), r.ne, r.sc, q⟩
theorem Run.ex' (r : Run K rw S Kn H) (e : Ex H H') : Run K rw S Kn H' := ⟨r.kn, r.ex.trans e, r.ne, r.sc, r.row.ex e⟩
theorem Run.sub (r : Run K rw S Kn H) : Ex Kn (cut rw H) := fun a o h => by
  rw [cut_at (fun e => by
    rw [e, r.kn] at h
    cases h)]
  exact r.ex a o h
theorem Run.cut (r : Run K rw S Kn H) : Run K rw S (cut rw H) H := ⟨cut_rw, cut_ex, r.ne, r.sc.ex r.sub, r.row⟩
theorem Run.new (r : Run K rw S Kn H) {p : Addr} (h : H p = none) : p ≠ rw := r.row.new h
/-- a change of what is not known and no row -/
theorem Run.chg (r : Run K rw S Kn H) {p : Addr} {o : HO} (h : Kn p = none) (n : p ≠ rw) : Run K rw S Kn (upd H p o) := ⟨r.kn, r.ex.mut h, r.ne, r.sc, r.row.chg n⟩
end
/-- te gives a value of a kind, the row may change -/
def EvR (K : PySem.W.Frag) (rw S : Addr) (te : TE) (σ : L2.St) (Kn : Hp) (G : V → Hp → Prop) : Prop := ∀ H, Run K rw S Kn H → ∀ Q : VK, (∀ v H', Fr rw H H' → RowAt rw S H' → G v (cut rw H') → Q v H') → te σ H Q
section
variable {K : PySem.W.Frag} {rw S : Addr} {te ta tb : TE} {σ : L2.St} {Kn Kn' : Hp} {G : V → Hp → Prop} {v : V}
theorem EvR.mono (e : Ex Kn Kn') (h : EvR K rw S te σ Kn G) (sc : ScrAt K S Kn) : EvR K rw S te σ Kn' G := fun H r Q q => h H ⟨Ex.back e r.kn, e.trans r.ex, r.ne, sc, r.row⟩ Q q
theorem evr_v (h : Ev te σ Kn v) : EvR K rw S te σ Kn (fun u _ => u = v) := fun H r Q q => h H r.ex Q fun H2 e2 => q v H2 (Fr.of e2) (r.row.ex e2) rfl
theorem evr_l {xs : List V} (h : EvL te σ Kn xs) : EvR K rw S te σ Kn (fun u H' => ∃ p, u = .ref p ∧ Kn p = none ∧ H' p = some (.lst xs)) := fun H r Q q => h H r.ex Q fun p H2 hp e2 h2 => q _ H2 (Fr.of e2) (r.row.ex e2) ⟨p, rfl, Ex.back r.ex hp, by
  rw [cut_at (r.new hp)]
  exact h2⟩
theorem EvR.imp {G' : V → Hp → Prop} (h : EvR K rw S te σ Kn G) (k : ∀ v H', G v H' → G' v H') : EvR K rw S te σ Kn G' := fun H r Q q => h H r Q fun v H' f w g => q v H' f w (k v _ g)
end
theorem ev_int1 {te : TE} {σ : L2.St} {H : Hp} {i : Int} (h : Ev te σ H (.int i)) : Ev (tCB (fun xs H Q => (∃ i, xs = [.int i] ∧ Q (.int i) H) ∨ ∃ k, xs = [.bl k] ∧ Q (.int (if k then 1 else 0)) H) (tCons te tNil)) σ H (.int i) :=
  ev_cb (ea_cons h ea_nil) fun H1 e Q q => .inl ⟨i, rfl, q H1 (Ex.refl H1)⟩
section
variable {P : Program} {w : World} {K : PySem.W.Frag} {mg : Str → Option Value} {base : Heap} {C CN : Addr}
/-! ### _law_taken -/
def spTaken (K : PySem.W.Frag) : Sp := fun vs H Q _ => ∃ (rw S : Addr) (m : Nat), vs = [.ref rw, .int (m : Int)] ∧ Apart K rw S ∧ ScrAt K S H ∧ RowAt rw S H ∧ 0 < m ∧ m < 1000000 ∧ ∀ (k : Nat) (H' : Hp), k < m → Fr rw H H' → RowAt rw S H' → Q (bx k) H'
theorem scTaken : FnScope ["_law_row", "_law_many", "_law_found", "_law_cell"] ["_law_row", "_law_many"] (defScope sTaken) := ⟨rfl, rfl, rfl, by decide +kernel, rfl, by decide +kernel, by decide +kernel⟩
theorem mod_bx {i : Int} {m : Nat} (h : 0 < m) : ∃ k : Nat, k < m ∧ V.int (i % (m : Int)) = bx k := by
  have h1 : 0 ≤ i % (m : Int) := Int.emod_nonneg i (by omega)
  have h2 : i % (m : Int) < (m : Int) := Int.emod_lt_of_pos i (by omega)
  exact ⟨(i % (m : Int)).toNat, by omega, by unfold bx; rw [Int.toNat_of_nonneg h1]⟩
theorem ok_taken (D : DefAt K mg "_law_taken" sTaken) (T : Tx K mg) : Df P w K mg base CX0 1 "_law_taken" (spTaken K) := by
  refine D.ok scTaken (fun _ _ _ _ _ _ us hl => match us, hl with | [_, _], _ => rfl) (fun vs H Q E h => ?_) (fun f cdv A outer s H vs Q E hr h => ?_)
  · obtain ⟨rw, S, m, rfl, _⟩ := h
    rfl
  · obtain ⟨rw, S, m, rfl, hS, hscr, hrow, m0, m1, kk⟩ := h
    refine ⟨_, pss_cons (ps_if (pt_cmpR op_gt (pe_ix ix_list (pv 0) pe_int (fun _ _ => rfl)) pe_int (nomark _))
        (pss_cons (ps_set (i := 2) scTaken.nd rfl (Or.inl rfl) (pe_op op_mod (pe_callTy call_int1 (by rfl) T.int boot_int (pa_cons (pe_ix ix_list (pv 0) pe_int (fun _ _ => rfl)) pa_nil)) (pv 1)))
        (pss_cons (ps_asg (pe_op op_fdiv (pe_ix ix_list (pv 0) pe_int (fun _ _ => rfl)) (pv 1)) (pg_sub (pv 0) pe_int set_list))
        (pss_one (ps_ret (pv 2))))) pss_nil)
      (pss_cons (ps_asg (pe_op op_add (pe_ix ix_list (pv 0) pe_int (fun _ _ => rfl)) pe_int) (pg_sub (pv 0) pe_int set_list))
      (pss_cons (ps_if (pt_cmpR op_gt (pe_ix ix_list (pv 0) pe_int (fun _ _ => rfl)) (pe_callB call_len_seq (by rfl) T.len PySem.boot_len (pa_cons (pe_ix ix_list (pv 0) pe_int (fun _ _ => rfl)) pa_nil)) (nomark _))
        (pss_cons (ps_asg (pe_op op_mod (pe_callTy call_int1 (by rfl) T.int boot_int (pa_cons (pe_op op_add (pe_op op_mul (pe_ix ix_list (pv 0) pe_int (fun _ _ => rfl)) pe_int) pe_int) pa_nil)) pe_int) (pg_sub (pv 0) pe_int set_list))
        (pss_one (ps_ret (pe_op op_mod (pe_callTy call_int1 (by rfl) T.int boot_int (pa_cons (pe_op op_fdiv (pe_ix ix_list (pv 0) pe_int (fun _ _ => rfl)) pe_int) pa_nil)) (pv 1))))) pss_nil)
      (pss_cons (ps_set (i := 3) scTaken.nd rfl (Or.inl rfl) (pe_ix ix_list (pe_ix ix_list (pv 0) pe_int (fun _ _ => rfl)) (pe_op op_sub (pe_ix ix_list (pv 0) pe_int (fun _ _ => rfl)) pe_int) (fun _ _ => rfl)))
      (pss_cons (ps_asg (pe_op op_mod (pe_callTy call_int1 (by rfl) T.int boot_int (pa_cons (pe_op op_add (pe_op op_add (pe_op op_mul (pe_ix ix_list (pv 0) pe_int (fun _ _ => rfl)) pe_int) (pv 3)) pe_int) pa_nil)) pe_int) (pg_sub (pv 0) pe_int set_list))
      (pss_cons (ps_asg (pe_ifExp (pt_cmpR op_ge (pv 3) (pe_op op_pow pe_int pe_int) (nomark _)) (pe_op op_fdiv (pv 3) (pv 1)) pe_int) (pg_sub (pv 0) pe_int set_list))
      (pss_one (ps_ret (pe_op op_mod (pe_callTy call_int1 (by rfl) T.int boot_int (pa_cons (pv 3) pa_nil)) (pv 1))))))))), ?_⟩
    obtain ⟨i, r2, r3, hl, i0, a0, a1⟩ := id hrow
    have it : ∀ {σ : L2.St} {H' : Hp} {xs : List V} (j : Nat) (v : V), σ[0]? = some (some (.ref rw)) → H' rw = some (.lst xs) → xs[j]? = some v → Ev (tOp (rIxL K) (tVar 0) (tC (.int (j : Int)))) σ H' v := fun j v z hx hv => ev_op (ev_var z) ev_c (rv_ixL (.inl (.inl hx)) (atI_nat hv))
    have row' : ∀ {H' : Hp} (i' r2' r3' : Int), Fr rw H H' → H' rw = some (.lst [.ref S, .int i', .int r2', .int r3']) → 0 ≤ i' → 0 ≤ r2' → r2' < 2147483647 → RowAt rw S H' := fun i' r2' r3' f h1 h2 h3 h4 => ⟨i', r2', r3', h1, h2, h3, h4⟩
    refine q_when (et_test (ev_op (it 3 _ rfl hl rfl) ev_c rv_I0)) (fun hb H1 e1 => ?_) (fun hb H1 e1 => ?_)
    · obtain ⟨k, hk, ek⟩ := mod_bx (i := r3) m0
      refine q_asg (ev_op (ev_int1 (it 3 _ rfl (e1 _ _ hl) rfl)) (ev_var rfl) (rv_I (by show (0 : Int) < (m : Int); omega))) fun H2 e2 => ?_
      have hl2 := e2 _ _ (e1 _ _ hl)
      refine q_setL hl2 (ev_op (it 3 _ rfl hl2 rfl) (ev_var rfl) (rv_I (show CDiv _ _ from ⟨by omega, by omega⟩))) (ev_var rfl) (j := 3) ev_c (by show 3 < 4; decide) fun H3 e3 => ?_
      rw [ek]
      have f3 : Fr rw H (upd H3 rw (.lst ([V.ref S, .int i, .int r2, .int r3].set 3 (.int (r3 / (m : Int)))))) := (Fr.of ((e1.trans e2).trans e3)).trans Fr.row
      exact s_ret (ev_var rfl) fun H4 e4 => kk k H4 hk (f3.trans (Fr.of e4)) (row' i r2 (r3 / (m : Int)) (f3.trans (Fr.of e4)) (e4 _ _ upd_same) i0 a0 a1)
    · have hl1 := e1 _ _ hl
      refine q_setL hl1 (ev_op (it 1 _ rfl hl1 rfl) ev_c rv_I0) (ev_var rfl) (j := 1) ev_c (by show 1 < 4; decide) fun H2 e2 => ?_
      have f2 : Fr rw H (upd H2 rw (.lst ([V.ref S, .int i, .int r2, .int r3].set 1 (.int (i + 1))))) := (Fr.of (e1.trans e2)).trans Fr.row
      have hl3 : (upd H2 rw (.lst ([V.ref S, .int i, .int r2, .int r3].set 1 (.int (i + 1))))) rw = some (.lst [.ref S, .int (i + 1), .int r2, .int r3]) := upd_same
      generalize upd H2 rw (.lst ([V.ref S, .int i, .int r2, .int r3].set 1 (.int (i + 1)))) = H3 at f2 hl3 ⊢
      obtain ⟨ns, hs3⟩ := hscr.fr f2 hS
      refine q_when (et_test (ev_op (it 1 _ rfl hl3 rfl) (ev_len (it 0 _ rfl hl3 rfl) hs3) rv_I0)) (fun hb2 H4 e4 => ?_) (fun hb2 H4 e4 => ?_)
      · have hl4 := e4 _ _ hl3
        refine q_setL hl4 (ev_op (z := .int ((r2 * 48271 + 11) % 2147483647)) (ev_int1 (ev_op (ev_op (it 2 _ rfl hl4 rfl) ev_c (rv_I (show CMul _ _ from .inl ⟨by omega, by omega⟩))) ev_c rv_I0)) ev_c (rv_I (by show (0 : Int) < 2147483647; decide))) (ev_var rfl) (j := 2) ev_c (by show 2 < 4; decide) fun H5 e5 => ?_
        have f5 := (f2.trans (Fr.of (e4.trans e5))).trans (Fr.row (rw := rw) (o := .lst ([V.ref S, .int (i + 1), .int r2, .int r3].set 2 (.int ((r2 * 48271 + 11) % 2147483647)))))
        have hl6 : (upd H5 rw (.lst ([V.ref S, .int (i + 1), .int r2, .int r3].set 2 (.int ((r2 * 48271 + 11) % 2147483647))))) rw = some (.lst [.ref S, .int (i + 1), .int ((r2 * 48271 + 11) % 2147483647), .int r3]) := upd_same
        obtain ⟨k, hk, ek⟩ := mod_bx (i := (r2 * 48271 + 11) % 2147483647 / 7) m0
        refine s_ret (v := bx k) (ev_is (ev_op (ev_int1 (ev_op (it 2 _ rfl hl6 rfl) ev_c (rv_I (show CDiv _ _ from ⟨by decide, by decide⟩)))) (ev_var rfl) (rv_I (by show (0 : Int) < (m : Int); omega))) ek) fun H7 e7 => ?_
        exact kk k H7 hk (f5.trans (Fr.of e7)) (row' _ _ _ (f5.trans (Fr.of e7)) (e7 _ _ hl6) (by omega) (Int.emod_nonneg _ (by decide)) (Int.emod_lt_of_pos _ (by decide)))
      · have hb2' : ¬ ((ns.map V.int).length : Int) < i + 1 := of_decide_eq_false hb2
        rw [List.length_map] at hb2'
        have hl4 := e4 _ _ hl3
        have hs4 := ex_l e4 hs3
        have hin : i.toNat < ns.length := by omega
        have hc : ns[i.toNat]? = some ns[i.toNat] := List.getElem?_eq_getElem hin
        generalize hcell : ns[i.toNat] = cell at hc
        have ei : i + 1 - 1 = ((i.toNat : Nat) : Int) := by omega
        refine q_asg (v := .int cell) (ev_op (it 0 _ rfl hl4 rfl) (ev_is (ev_op (it 1 _ rfl hl4 rfl) ev_c rv_I0) (by rw [ei])) (rv_ixL hs4 (atI_nat (by rw [List.getElem?_map, hc]; rfl)))) fun H5 e5 => ?_
        have hl5 := e5 _ _ hl4
        refine q_setL hl5 (ev_op (z := .int ((r2 * 48271 + cell + 11) % 2147483647)) (ev_int1 (ev_op (ev_op (ev_op (it 2 _ rfl hl5 rfl) ev_c (rv_I (show CMul _ _ from .inl ⟨by omega, by omega⟩))) (ev_var rfl) rv_I0) ev_c rv_I0)) ev_c (rv_I (by show (0 : Int) < 2147483647; decide))) (ev_var rfl) (j := 2) ev_c (by show 2 < 4; decide) fun H6 e6 => ?_
        have f6 := (f2.trans (Fr.of ((e4.trans e5).trans e6))).trans (Fr.row (rw := rw) (o := .lst ([V.ref S, .int (i + 1), .int r2, .int r3].set 2 (.int ((r2 * 48271 + cell + 11) % 2147483647)))))
        have hl7 : (upd H6 rw (.lst ([V.ref S, .int (i + 1), .int r2, .int r3].set 2 (.int ((r2 * 48271 + cell + 11) % 2147483647))))) rw = some (.lst [.ref S, .int (i + 1), .int ((r2 * 48271 + cell + 11) % 2147483647), .int r3]) := upd_same
        generalize upd H6 rw (.lst ([V.ref S, .int (i + 1), .int r2, .int r3].set 2 (.int ((r2 * 48271 + cell + 11) % 2147483647)))) = H7 at f6 hl7 ⊢
        have hq0 : 0 ≤ (r2 * 48271 + cell + 11) % 2147483647 := Int.emod_nonneg _ (by decide)
        have hq1 : (r2 * 48271 + cell + 11) % 2147483647 < 2147483647 := Int.emod_lt_of_pos _ (by decide)
        generalize (r2 * 48271 + cell + 11) % 2147483647 = q2 at hl7 hq0 hq1
        refine q_setL (v := .int (if decide ((10 : Int) ^ (18 : Int).toNat ≤ cell) = true then cell / (m : Int) else 0)) hl7 (ev_if (et_test (ev_op (ev_var rfl) (ev_op ev_c ev_c (rv_I (show CPow _ _ from ⟨by decide, by decide, by decide⟩))) rv_I0)) (fun hb3 => ev_is (ev_op (ev_var rfl) (ev_var rfl) (rv_I (show CDiv _ _ from ⟨by omega, by omega⟩))) (by rw [if_pos hb3])) (fun hb3 => ev_is ev_c (by rw [if_neg (by rw [hb3]; exact Bool.false_ne_true)]))) (ev_var rfl) (j := 3) ev_c (by show 3 < 4; decide) fun H8 e8 => ?_
        generalize (if decide ((10 : Int) ^ (18 : Int).toNat ≤ cell) = true then cell / (m : Int) else 0) = r3'
        have f8 := (f6.trans (Fr.of e8)).trans (Fr.row (rw := rw) (o := .lst ([V.ref S, .int (i + 1), .int q2, .int r3].set 3 (.int r3'))))
        obtain ⟨k, hk, ek⟩ := mod_bx (i := cell) m0
        refine s_ret (v := bx k) (ev_is (ev_op (ev_int1 (ev_var rfl)) (ev_var rfl) (rv_I (by show (0 : Int) < (m : Int); omega))) ek) fun H9 e9 => ?_
        exact kk k H9 hk (f8.trans (Fr.of e9)) (row' _ _ _ (f8.trans (Fr.of e9)) (e9 _ _ upd_same) (by omega) hq0 hq1)
end
end Lp

set_option Elab.async false
set_option linter.all false
set_option maxRecDepth 100000
set_option maxHeartbeats 4000000
/-! Lostplates: one of some, a drawn order. -/
namespace Lp
open PySem PySem.Spec PyProof.Rows L2
open Evl
/-- a value that is data by itself -/
def FlatD (v : V) : Prop := ∃ d : PyData, (∀ (K : PySem.W.Frag) (H : Hp), Dp K H v d) ∧ d.canLay0 = true ∧ d.depth ≤ 0
theorem flat_list : ∀ {xs : List V}, (∀ v ∈ xs, FlatD v) → ∃ ds : List PyData, (∀ (K : PySem.W.Frag) (H : Hp), DpAll K H xs ds) ∧ PyData.canLayAll0 ds = true ∧ PyData.depthAll ds ≤ 0 ∧ ds.isEmpty = xs.isEmpty
  | [], _ => ⟨[], fun _ _ => .nil, by simp [PyData.canLayAll0], by simp [PyData.depthAll], rfl⟩
  | x :: xs, h => by
    obtain ⟨d, h1, h2, h3⟩ := h x (List.mem_cons_self ..)
    obtain ⟨ds, g1, g2, g3, _⟩ := flat_list fun v hv => h v (List.mem_cons_of_mem _ hv)
    refine ⟨d :: ds, fun K H => .cons (h1 K H) (g1 K H), ?_, ?_, rfl⟩
    · rw [PyData.canLayAll0, h2, g2]
      rfl
    · rw [PyData.depthAll]
      exact Nat.max_le.mpr ⟨h3, g3⟩
theorem flat_some {K : PySem.W.Frag} {σ : L2.St} {H : Hp} {te : TE} {p : Addr} {xs : List V} (h : Ev te σ H (.ref p)) (hl : H p = some (.lst xs)) (hf : ∀ v ∈ xs, FlatD v) : Ev (tOp (rNeD K) te (tLst tNil)) σ H (.bl (!xs.isEmpty)) := by
  obtain ⟨ds, g1, g2, g3, g4⟩ := flat_list hf
  refine ev_opL h (el_lst ea_nil (Nat.zero_le _)) fun q H1 hq e1 => rv_neD (d := .list ds) (e := .list []) (fun H2 e2 => .lst (.inl (.inl (e2 _ _ (e1 _ _ hl)))) (g1 K H2)) (fun H2 e2 => .lst (.inl (.inl (e2 _ _ hq))) .nil) (shp_of (by rw [PyData.canLay0]; exact g2) (by rw [PyData.depth]; omega)) (by decide +kernel) ?_
  rw [← g4, PyData.eqv]
  cases ds <;> simp [PyData.eqvAll]
theorem flat_bxD (b : Nat) : FlatD (bx b) := ⟨pdN b, fun _ _ => .int _, can_N b, dep_N b⟩
theorem flat_strD {z : Str} (h : PyData.strOk z = true) : FlatD (.str z) := ⟨.str z, fun _ _ => .str _, by rw [PyData.canLay0]; exact h, by simp [PyData.depth]⟩
theorem Fr.chg {rw p : Addr} {H H' : Hp} {o : HO} (f : Fr rw H H') (h : H p = none) : Fr rw H (upd H' p o) := fun a u n ha => by
  have hne : a ≠ p := fun e => by
    rw [e, h] at ha
    cases ha
  rw [upd_ne hne]
  exact f a u n ha
theorem erase_perm {α : Type} : ∀ {l : List α} {k : Nat} {y : α}, l[k]? = some y → (y :: l.eraseIdx k).Perm l
  | [], _, _, h => by simp at h
  | x :: l, 0, y, h => by
    have e : x = y := Option.some.inj h
    rw [e]
    exact List.Perm.refl _
  | x :: l, k + 1, y, h => by
    have h' : l[k]? = some y := h
    show (y :: x :: l.eraseIdx k).Perm (x :: l)
    exact (List.Perm.swap x y _).trans (List.Perm.cons x (erase_perm h'))
section
variable {P : Program} {w : World} {K : PySem.W.Frag} {mg : Str → Option Value} {base : Heap} {C CN : Addr}
/-! ### _law_pick -/
def spPick (K : PySem.W.Frag) : Sp := fun vs H Q _ => ∃ (rw S l : Addr) (xs : List V), vs = [.ref rw, .ref l] ∧ Apart K rw S ∧ ScrAt K S H ∧ RowAt rw S H ∧ l ≠ rw ∧ H l = some (.lst xs) ∧ 0 < xs.length ∧ xs.length < 1000000 ∧ ∀ (v : V) (H' : Hp), v ∈ xs → Fr rw H H' → RowAt rw S H' → Q v H'
theorem scPick : FnScope ["_law_row", "_law_some"] ["_law_row", "_law_some"] (defScope sPick) := ⟨rfl, rfl, rfl, by decide +kernel, rfl, by decide +kernel, by decide +kernel⟩
theorem ok_pick (D : DefAt K mg "_law_pick" sPick) (T : Tx K mg) (F : Df P w K mg base CX0 1 "_law_taken" (spTaken K)) : Df P w K mg base CX0 2 "_law_pick" (spPick K) := by
  refine D.ok scPick (fun _ _ _ _ _ _ us hl => match us, hl with | [_, _], _ => rfl) (fun vs H Q E h => ?_) (fun f cdv A outer s H vs Q E hr h => ?_)
  · obtain ⟨rw, S, l, xs, rfl, _⟩ := h
    rfl
  · obtain ⟨rw, S, l, xs, rfl, hS, hsc, hrow, hne, hl, l0, l1, kk⟩ := h
    refine ⟨_, pss_one (ps_ret (pe_ix ix_list (pv 1) (pe_df F hr (by rfl) pass0 (pa_cons (pv 0) (pa_cons (pe_callB call_len_seq (by rfl) T.len PySem.boot_len (pa_cons (pv 1) pa_nil)) pa_nil))) (fun _ _ => rfl))), ?_⟩
    refine ⟨_, rfl, _, rfl, _, rfl, l, xs, rfl, .inl (.inl (.inl hl)), rw, S, xs.length, rfl, hS, hsc, hrow, l0, l1, fun k H' hk f r => ?_⟩
    have hv : xs[k]? = some xs[k] := List.getElem?_eq_getElem hk
    exact ⟨l, xs, (k : Int), xs[k], rfl, rfl, .inl (.inl (f _ _ hne hl)), atI_nat hv, kk _ H' (List.getElem_mem hk) f r⟩

/-! ### _law_mixed -/
def spMixed (K : PySem.W.Frag) : Sp := fun vs H Q _ => ∃ (rw S l : Addr) (xs : List V), vs = [.ref rw, .ref l] ∧ Apart K rw S ∧ ScrAt K S H ∧ RowAt rw S H ∧ H l = some (.lst xs) ∧ xs.length ≤ 100 ∧ (∀ v ∈ xs, FlatD v) ∧ ∀ (p : Addr) (ys : List V) (H' : Hp), H p = none → ys.Perm xs → Fr rw H H' → RowAt rw S H' → H' p = some (.lst ys) → Q (.ref p) H'
theorem scMixed : FnScope ["_law_row", "_law_things", "_law_left_here", "_law_found"] ["_law_row", "_law_things"] (defScope sMixed) := ⟨rfl, rfl, rfl, by decide +kernel, rfl, by decide +kernel, by decide +kernel⟩
theorem ok_mixed (D : DefAt K mg "_law_mixed" sMixed) (T : Tx K mg) (F : Df P w K mg base CX0 1 "_law_taken" (spTaken K)) : Df P w K mg base CX0 2 "_law_mixed" (spMixed K) := by
  refine D.ok scMixed (fun _ _ _ _ _ _ us hl => match us, hl with | [_, _], _ => rfl) (fun vs H Q E h => ?_) (fun f cdv A outer s H vs Q E hr h => ?_)
  · obtain ⟨rw, S, l, xs, rfl, _⟩ := h
    rfl
  · obtain ⟨rw, S, th, xs, rfl, hS, hsc, hrow, hth, hlen, hflat, kk⟩ := h
    refine ⟨_, pss_cons (ps_par (i := 2) (j := 3) rfl scMixed.nd rfl rfl (by decide) rfl rfl (pa_cons (pe_callTy call_list_of (by rfl) T.list boot_list (pa_cons (pv 1) pa_nil)) (pa_cons (pe_lst pa_nil) pa_nil)) (by rfl))
      (pss_cons (ps_while PassesOwn.never (pt_cmpR (op_neD hr.units) (pv 2) (pe_lst pa_nil) (nomark _))
        (pss_one (ps_expr (pe_bm PySem.F.plainAttrs_list PySem.F.slot_list_append PySem.F.type_list_append mt_append (pv 3) (pa_cons (pe_bm PySem.F.plainAttrs_list PySem.F.slot_list_pop PySem.F.type_list_pop mt_popAt (pv 2) (pa_cons (pe_df F hr (by rfl) pass0 (pa_cons (pv 0) (pa_cons (pe_callB call_len_seq (by rfl) T.len PySem.boot_len (pa_cons (pv 2) pa_nil)) pa_nil))) pa_nil)) pa_nil)))))
      (pss_one (ps_ret (pv 3)))), ?_⟩
    refine ⟨_, rfl, th, xs, rfl, .inl (.inl (.inl hth)), fun l hl => ⟨Nat.zero_le _, fun g hg => ⟨_, _, rfl, ?_⟩⟩⟩
    have e1 : Ex H (upd H l (.lst xs)) := Ex.new hl
    have e2 : Ex (upd H l (.lst xs)) (upd (upd H l (.lst xs)) g (.lst [])) := Ex.new hg
    have hg0 : H g = none := Ex.back e1 hg
    have nl : l ≠ rw := hrow.new hl
    have ng : g ≠ rw := hrow.new hg0
    have lg : l ≠ g := fun q => by rw [← q, upd_same] at hg; cases hg
    refine ⟨fun m σ' H' => ∃ zs ys : List V, σ' = [some (.ref rw), some (.ref th), some (.ref l), some (.ref g)] ∧ Fr rw H H' ∧ RowAt rw S H' ∧ H' l = some (.lst zs) ∧ H' g = some (.lst ys) ∧ (ys ++ zs).Perm xs ∧ m = zs.length, ⟨xs.length, xs, [], rfl, Fr.of (e1.trans e2), hrow.ex (e1.trans e2), e2 _ _ upd_same, upd_same, List.Perm.refl _, rfl⟩, ?_⟩
    rintro m σ' HA ⟨zs, ys, rfl, fA, rA, hlA, hgA, pA, rfl⟩
    have hzf : ∀ v ∈ zs, FlatD v := fun v hv => hflat v (pA.subset (List.mem_append_right _ hv))
    have hll : ys.length + zs.length = xs.length := by
      rw [← pA.length_eq, List.length_append]
    refine et_test (flat_some (ev_var rfl) hlA hzf) HA (Ex.refl HA) _ fun HB eB => ?_
    cases hz : zs.isEmpty with
    | true =>
      have hz0 : zs = [] := List.isEmpty_iff.mp hz
      subst hz0
      rw [List.append_nil] at pA
      exact kk g ys HB hg0 pA (fA.trans (Fr.of eB)) (rA.ex eB) (eB _ _ hgA) |> fun q => ⟨_, rfl, q⟩
    | false =>
      have hzl : 0 < zs.length := by
        cases zs with
        | nil => cases hz
        | cons _ _ => exact Nat.succ_pos _
      have fB := fA.trans (Fr.of eB)
      have hlB := eB _ _ hlA
      refine ⟨_, fun _ _ q => q, _, rfl, .inl ⟨rfl, ys, .inl (.inl (eB _ _ hgA))⟩, _, rfl, .inl ⟨rfl, zs, .inl (.inl hlB)⟩, _, rfl, _, rfl, l, zs, rfl, .inl (.inl (.inl hlB)), rw, S, zs.length, rfl, hS, hsc.fr fB hS, rA.ex eB, hzl, by omega, fun k HC hk fC rC => ?_⟩
      have hy : zs[k]? = some zs[k] := List.getElem?_eq_getElem hk
      refine ⟨l, zs, (k : Int), k, zs[k], rfl, rfl, fC _ _ nl hlB, by omega, by omega, (ixN_seq (ixN_nat hk)).1, hy, g, ys, zs[k], rfl, rfl, by rw [upd_ne (Ne.symm lg)]; exact fC _ _ ng (eB _ _ hgA), sz_lt (by omega), (zs.eraseIdx k).length, ?_, zs.eraseIdx k, ys ++ [zs[k]], rfl, ((fB.trans fC).chg hl).chg hg0, (rC.chg nl).chg ng, ?_, upd_same, ?_, rfl⟩
      · rw [List.length_eraseIdx, if_pos hk]
        omega
      · rw [upd_ne lg, upd_same]
      · rw [List.append_assoc]
        exact (List.Perm.append_left ys (erase_perm hy)).trans pA
end
end Lp

set_option Elab.async false
set_option linter.all false
set_option maxRecDepth 100000
set_option maxHeartbeats 4000000
/-! Lostplates: sorted texts. -/
namespace Lp
open PySem PySem.Spec PyProof.Rows L2
theorem le_cs (a b : List Nat) : (¬ b < a) ↔ a ≤ b := List.not_lt
theorem cs_inj {a b : Str} (h : cs a = cs b) : a = b := by
  obtain ⟨⟨l⟩⟩ := a
  obtain ⟨⟨m⟩⟩ := b
  have e : l = m := h
  rw [e]
theorem rising_pw : ∀ (p : Str) (l : List Str), risingS p l = true → (p :: l).Pairwise fun a b => ¬ cs b < cs a
  | p, [], _ => List.pairwise_singleton _ _
  | p, x :: r, h => by
    have h' : (!ltCps (cs x) (cs p) && risingS x r) = true := h
    rw [Bool.and_eq_true, Bool.not_eq_true', ltCps_eq] at h'
    obtain ⟨h1, h2⟩ := h'
    have ih := rising_pw x r h2
    refine List.pairwise_cons.mpr ⟨fun b hb => ?_, ih⟩
    have hx : ¬ cs x < cs p := of_decide_eq_false h1
    rcases List.mem_cons.mp hb with e | hb
    · rw [e]
      exact hx
    · have h3 := (List.pairwise_cons.mp ih).1 b hb
      rw [le_cs] at *
      exact List.le_trans hx h3
theorem sorted_pw {l : List Str} (h : sortedS l = true) : l.Pairwise fun a b => ¬ cs b < cs a := by
  cases l with
  | nil => exact List.Pairwise.nil
  | cons p l => exact rising_pw p l h
theorem sorted_lt {l : List Str} (h : sortedS l = true) (nd : l.Nodup) : l.Pairwise fun a b => cs a < cs b := by
  refine List.Pairwise.imp₂ (R := fun a b => ¬ cs b < cs a) (S := fun a b => a ≠ b) (fun a b h1 h2 => ?_) (sorted_pw h) nd
  refine Decidable.byContradiction fun h3 => h2 (cs_inj ?_)
  rw [le_cs] at h1 h3
  exact List.le_antisymm h1 h3
/-- a sorted order of what ascends is itself -/
theorem sorted_same : ∀ {ys ks : List Str}, ys.Perm ks → (ys.Pairwise fun a b => ¬ cs b < cs a) → (ks.Pairwise fun a b => cs a < cs b) → ys = ks
  | [], ks, p, _, _ => (List.nil_perm.mp p).symm ▸ rfl
  | y :: ys, [], p, _, _ => by
    have := p.length_eq
    cases this
  | y :: ys, k :: ks, p, h1, h2 => by
    obtain ⟨a1, a2⟩ := List.pairwise_cons.mp h1
    obtain ⟨b1, b2⟩ := List.pairwise_cons.mp h2
    have e : y = k := by
      have hk : k ∈ y :: ys := p.symm.subset (List.mem_cons_self ..)
      have hy : y ∈ k :: ks := p.subset (List.mem_cons_self ..)
      rcases List.mem_cons.mp hy with e | hy
      · exact e
      · have h3 := b1 y hy
        rcases List.mem_cons.mp hk with e | hk
        · exact e.symm
        · exact absurd h3 (a1 k hk)
    subst e
    rw [sorted_same p.cons_inv a2 b2]
theorem asc_nd {l : List Str} (h : l.Pairwise fun a b => cs a < cs b) : l.Nodup := h.imp fun {a b} q e => by
  rw [e] at q
  exact List.lt_irrefl _ q
end Lp

set_option Elab.async false
set_option linter.all false
set_option maxRecDepth 100000
set_option maxHeartbeats 4000000
/-! Lostplates: words for walks that draw; the pool of names; joined signs. -/
namespace Lp
open PySem PySem.Spec PyProof.Rows L2
open Evl
theorem ScrAt.cut {K : PySem.W.Frag} {rw S : Addr} {H : Hp} (n : Apart K rw S) (h : ScrAt K S H) : ScrAt K S (cut rw H) := by
  rcases n with n | n
  rotate_left
  · exact n _
  obtain ⟨ns, h⟩ := h
  refine ⟨ns, ?_⟩
  rcases h with (h | ⟨o, h⟩) | h
  · exact .inl (.inl (by rw [cut_at n]; exact h))
  · exact .inl (.inr ⟨o, by rw [cut_at n]; exact h⟩)
  · exact .inr h
theorem Run.of {K : PySem.W.Frag} {rw S : Addr} {H : Hp} (n : Apart K rw S) (h : ScrAt K S H) (r : RowAt rw S H) : Run K rw S (Lp.cut rw H) H := ⟨cut_rw, cut_ex, n, h.cut n, r⟩
section
variable {K : PySem.W.Frag} {rw S : Addr} {σ : L2.St} {Kn H : Hp} {te ta tb : TE} {E : XK} {G : V → Hp → Prop} {D : Ends} {tz : TS}
theorem er_taken {m : Nat} (ha : Ev ta σ Kn (.ref rw)) (hb : Ev tb σ Kn (.int (m : Int))) (m0 : 0 < m) (m1 : m < 1000000) : EvR K rw S (tCl (spTaken K) E (tCons ta (tCons tb tNil))) σ Kn (fun u _ => ∃ k, k < m ∧ u = bx k) := fun H r Q q =>
  ha H r.ex _ fun H1 e1 => hb H1 (r.ex.trans e1) _ fun H2 e2 => ⟨rw, S, m, rfl, r.ne, r.sc.ex ((r.ex.trans e1).trans e2), (r.row.ex e1).ex e2, m0, m1, fun k H' hk f w => q _ H' ((Fr.of (e1.trans e2)).trans f) w ⟨k, hk, rfl⟩⟩
theorem er_mixed {xs : List V} (ha : Ev ta σ Kn (.ref rw)) (hb : ∀ H, Ex Kn H → ∀ Q : VK, (∀ p H2, Ex H H2 → H2 p = some (.lst xs) → Q (.ref p) H2) → tb σ H Q) (hl : xs.length ≤ 100) (hf : ∀ v ∈ xs, FlatD v) :
    EvR K rw S (tCl (spMixed K) E (tCons ta (tCons tb tNil))) σ Kn (fun u H' => ∃ p ys, u = .ref p ∧ Kn p = none ∧ ys.Perm xs ∧ H' p = some (.lst ys)) := fun H r Q q =>
  ha H r.ex _ fun H1 e1 => hb H1 (r.ex.trans e1) _ fun p H2 e2 h2 => ⟨rw, S, p, xs, rfl, r.ne, r.sc.ex ((r.ex.trans e1).trans e2), (r.row.ex e1).ex e2, h2, hl, hf, fun p' ys H' hp perm f w h' => by
    have hp0 : H p' = none := Ex.back (e1.trans e2) hp
    refine q _ H' ((Fr.of (e1.trans e2)).trans f) w ⟨p', ys, rfl, Ex.back r.ex hp0, perm, ?_⟩
    rw [cut_at (r.new hp0)]
    exact h'⟩
/-- one of a new list -/
theorem er_pick {P : List V → Hp → Prop} (ha : Ev ta σ Kn (.ref rw)) (hb : ∀ H, Run K rw S Kn H → ∀ Q : VK, (∀ l H2 xs, Fr rw H H2 → RowAt rw S H2 → H l = none → H2 l = some (.lst xs) → 0 < xs.length → xs.length < 1000000 → P xs (cut rw H2) → Q (.ref l) H2) → tb σ H Q)
    (hG : ∀ xs v H1 H2, P xs H1 → v ∈ xs → Ex H1 H2 → G v H2) : EvR K rw S (tCl (spPick K) E (tCons ta (tCons tb tNil))) σ Kn G := fun H r Q q =>
  ha H r.ex _ fun H1 e1 => hb H1 (r.ex' e1) _ fun l H2 xs f2 w2 hl h2 l0 l1 hP => ⟨rw, S, l, xs, rfl, r.ne, (r.sc.ex (r.ex.trans e1)).fr f2 r.ne, w2, (r.ex' e1).new hl, h2, l0, l1, fun v H' hv f w => q v H' (((Fr.of e1).trans f2).trans f) w (hG xs v _ _ hP hv f.cut)⟩
theorem s_asgR {i : Nat} (r : Run K rw S Kn H) (h : EvR K rw S te σ Kn G) (k : ∀ v H', Fr rw H H' → Run K rw S (Lp.cut rw H') H' → Ex Kn (Lp.cut rw H') → G v (Lp.cut rw H') → D.nx (σ.set i (some v)) H') : tAsg te (gName i) D σ H :=
  h H r _ fun v H' f w g => k v H' f (r.fr f w).cut (r.fr f w).sub g
theorem q_asgR {i : Nat} (r : Run K rw S Kn H) (h : EvR K rw S te σ Kn G) (k : ∀ v H', Fr rw H H' → Run K rw S (Lp.cut rw H') H' → Ex Kn (Lp.cut rw H') → G v (Lp.cut rw H') → tz D (σ.set i (some v)) H') : tSeq (tAsg te (gName i)) tz D σ H := s_asgR (D := { D with nx := tz D }) r h k
/-- tests that draw -/
theorem s_whenR {te' : TE} {tu : TS} (r : Run K rw S Kn H) (h : EvR K rw S te' σ Kn (fun u _ => ∃ b : Bool, u = .bl b)) (k1 : ∀ H', Fr rw H H' → Run K rw S (Lp.cut rw H') H' → Ex Kn (Lp.cut rw H') → tu D σ H') (k2 : ∀ H', Fr rw H H' → Run K rw S (Lp.cut rw H') H' → Ex Kn (Lp.cut rw H') → D.nx σ H') : tIfS (tTest te') tu tNext D σ H :=
  h H r _ fun v H' f w ⟨b, hb⟩ => ⟨b, hb, by
    cases b with
    | true => exact k1 H' f (r.fr f w).cut (r.fr f w).sub
    | false => exact k2 H' f (r.fr f w).cut (r.fr f w).sub⟩
theorem er_eq0 {m : Nat} (h : EvR K rw S te σ Kn (fun u _ => ∃ k, k < m ∧ u = bx k)) : EvR K rw S (tOp rEq te (tC (.int 0))) σ Kn (fun u _ => ∃ b : Bool, u = .bl b) := fun H r Q q =>
  h H r _ fun v H' f w ⟨k, hk, hv⟩ => by
    subst hv
    exact ⟨rfl, q _ H' f w ⟨_, rfl⟩⟩
/-- a comprehension that draws: values that lean on nothing -/
theorem er_lc {α : Type} {l : List α} {Pv : α → V → Prop} {wi : TI} {Y : Nat → Hp → V → Hp → Prop} {g : TG} {vs : List Nat} (hi : EvI wi σ Kn l.length Y) (hn : l.length ≤ 40000)
    (turn : ∀ i a H1 x H2, l[i]? = some a → Ex Kn H1 → Y i H1 x H2 → Ex H1 H2 ∧ ∃ σ2, wipe σ2 vs = wipe σ vs ∧ (∀ Kk : L2.St → Hp → Prop, (∀ H3, Ex H2 H3 → Kk σ2 H3) → g x (wipe σ vs) H2 Kk) ∧ EvR K rw S te σ2 Kn (fun u _ => Pv a u)) :
    EvR K rw S (tLc wi g tYes te vs) σ Kn (fun u H' => ∃ p us, u = .ref p ∧ Kn p = none ∧ H' p = some (.lst us) ∧ Paired Pv l us) := fun H r Q q =>
  hi H r.ex _ fun J H1 G e1 w hG Dl hD => by
    have hD0 : H Dl = none := Ex.back e1 hD
    have nD : Dl ≠ rw := r.new hD0
    refine lc_it w (fun i H' => ∃ us, Fr rw H1 H' ∧ RowAt rw S H' ∧ H' Dl = some (.lst us) ∧ Paired Pv (l.take i) us) ⟨[], Fr.of (Ex.new hD), (r.row.ex e1).chg nD, upd_same, .nil⟩ (fun i H' _ ⟨us, f, w', _⟩ => hG H' ((r.ex' e1).fr f w').ex) ?_ ?_
    · rintro i x H' H'' hi' ⟨us, f, w', h1, h2⟩ hy
      have ha : l[i]? = some l[i] := List.getElem?_eq_getElem hi'
      have r' := (r.ex' e1).fr f w'
      obtain ⟨e', σ2, hw, hg, ht⟩ := turn i _ H' x H'' ha r'.ex hy
      refine hg _ fun H3' e3' => ⟨hw, ?_⟩
      refine et_yes (σ := σ2) H3' (Ex.refl _) _ fun H3 e3 => ?_
      rw [if_pos rfl]
      have e'3 := e'.trans (e3'.trans e3)
      refine ht H3 (r'.ex' e'3) _ fun v H4 f4 w4 hv => ?_
      have hD4 : H4 Dl = some (.lst us) := f4 _ _ nD (e'3 _ _ h1)
      have lus : us.length ≤ i := by
        rw [← paired_len h2]
        rw [List.length_take]
        exact Nat.min_le_left _ _
      refine ⟨us, hD4, Nat.lt_of_le_of_lt (Nat.le_trans lus (Nat.le_of_lt (Nat.lt_of_lt_of_le hi' hn))) (by decide), us ++ [v], ((f.trans (Fr.of e'3)).trans f4).chg hD, w4.chg nD, upd_same, ?_⟩
      rw [take_snoc ha]
      exact paired_app h2 (.cons hv .nil)
    · rintro H' ⟨us, f, w', h1, h2⟩
      rw [List.take_length] at h2
      exact q _ H' ((Fr.of e1).trans f) w' ⟨Dl, us, rfl, Ex.back r.ex hD0, by rw [cut_at nD]; exact h1, h2⟩
end
/-! ### the pool -/
theorem perm_map {α : Type} (f : α → V) (g : V → α) (hg : ∀ a, g (f a) = a) {ys : List V} {l : List α} (h : ys.Perm (l.map f)) : ∃ m : List α, m.Perm l ∧ ys = m.map f := by
  refine ⟨ys.map g, ?_, ?_⟩
  · have h2 := h.map g
    rw [List.map_map] at h2
    have e : l.map (g ∘ f) = l := by
      have : (g ∘ f) = id := funext hg
      rw [this, List.map_id]
    rw [e] at h2
    exact h2
  · rw [List.map_map]
    have : ∀ y ∈ ys, (f ∘ g) y = y := fun y hy => by
      obtain ⟨a, _, rfl⟩ := List.mem_map.mp (h.subset hy)
      show f (g (f a)) = f a
      rw [hg]
    exact ((List.map_congr_left this).trans (List.map_id _)).symm
def gStr : V → Str
  | .str z => z
  | _ => Str.empty
def gNat : V → Nat
  | .int i => i.toNat
  | _ => 0
theorem perm_strs {ys : List V} {l : List Str} (h : ys.Perm (l.map V.str)) : ∃ m : List Str, m.Perm l ∧ ys = m.map V.str := perm_map V.str gStr (fun _ => rfl) h
theorem perm_bxs {ys : List V} {l : List Nat} (h : ys.Perm (l.map bx)) : ∃ m : List Nat, m.Perm l ∧ ys = m.map bx := perm_map bx gNat (fun a => Int.toNat_natCast a) h
def pool : List Str := ["al", "anna", "anne", "bo", "bob", "eve"]
theorem pool_nd : pool.Nodup := by decide +kernel
theorem pool_len : ∀ x ∈ pool, 1 ≤ x.length ∧ x.length ≤ 8 := by decide +kernel
theorem pool_let : ∀ x ∈ pool, ∀ c ∈ cs x, 97 ≤ c ∧ c ≤ 122 := by decide +kernel
theorem pool_ok : ∀ x ∈ pool, PyData.strOk x = true := by decide +kernel
/-! ### joined signs -/
theorem joinL_one : ∀ l : List Nat, TL.joinL [] (l.map fun c => [c]) = l
  | [] => rfl
  | [c] => rfl
  | c :: d :: r => by
    have := joinL_one (d :: r)
    show [c] ++ ([] ++ TL.joinL [] ((d :: r).map fun c => [c])) = _
    rw [this]
    rfl
end Lp

set_option Elab.async false
set_option linter.all false
set_option maxRecDepth 100000
set_option maxHeartbeats 4000000
/-! Lostplates: the walk of the law's _law_scheme. -/
namespace Lp
open PySem PySem.Spec PyProof.Rows L2
open Evl
abbrev sScheme : Stmt := top 61
abbrev nmScheme : List Str := ["_law_row", "_law_most", "_law_pool", "_law_count", "_law_names", "_law_size", "_law_truth", "_law_signs", "_law_k", "_law_ways", "_law_name", "_law_guess", "_law_letter", "_law_box"]
theorem scScheme : FnScope nmScheme ["_law_row", "_law_most"] (defScope sScheme) := ⟨rfl, rfl, rfl, by decide +kernel, rfl, by decide +kernel, by decide +kernel⟩
/-- what a house of the law's has besides -/
structure Hs.Fine (h : Hs) : Prop where
  ok : h.Ok
  asc : h.names.Pairwise fun a b => cs a < cs b
  nl : ∀ x ∈ h.names, ∀ c ∈ cs x, 97 ≤ c ∧ c ≤ 122
  sl : ∀ z ∈ h.signs, cs z = [] ∨ (∀ c ∈ cs z, c = 46 ∨ (97 ≤ c ∧ c ≤ 122))
section
variable {K : PySem.W.Frag} {rw S : Addr} {σ : L2.St} {Kn H : Hp} {te ta tb : TE} {E : XK} {G : V → Hp → Prop}
theorem er_add {i : Int} {m : Nat} (ha : Ev ta σ Kn (.int i)) (hb : EvR K rw S tb σ Kn (fun u _ => ∃ k, k < m ∧ u = bx k)) : EvR K rw S (tOp (rI0 fun i j => .int (i + j)) ta tb) σ Kn (fun u _ => ∃ k : Nat, k < m ∧ u = .int (i + (k : Int))) := fun H r Q q =>
  ha H r.ex _ fun H1 e1 => hb H1 (r.ex' e1) _ fun v H2 f w ⟨k, hk, hv⟩ => by
    subst hv
    exact ⟨i, (k : Int), rfl, rfl, q _ H2 ((Fr.of e1).trans f) w ⟨k, hk, rfl⟩⟩
theorem er_min {i j : Int} {m : Nat} (ha : Ev ta σ Kn (.int i)) (hb : EvR K rw S tb σ Kn (fun u _ => ∃ k : Nat, k < m ∧ u = .int (j + (k : Int)))) :
    EvR K rw S (tCB (fun xs H Q => ∃ i j, xs = [.int i, .int j] ∧ Q (.int (if j < i then j else i)) H) (tCons ta (tCons tb tNil))) σ Kn (fun u _ => ∃ k : Nat, k < m ∧ u = .int (if j + (k : Int) < i then j + (k : Int) else i)) := fun H r Q q =>
  ha H r.ex _ fun H1 e1 => hb H1 (r.ex' e1) _ fun v H2 f w ⟨k, hk, hv⟩ => by
    subst hv
    exact ⟨i, j + (k : Int), rfl, q _ H2 ((Fr.of e1).trans f) w ⟨k, hk, rfl⟩⟩
/-- some of the pool, in order -/
def Names (names : List Str) : Prop := (names.Pairwise fun a b => cs a < cs b) ∧ ∀ x ∈ names, x ∈ pool
theorem er_names {count : Nat} (ht : EvR K rw S te σ Kn (fun u H' => ∃ p ys, u = .ref p ∧ Kn p = none ∧ ys.Perm (pool.map V.str) ∧ H' p = some (.lst ys))) (hc : ∀ H, Ex Kn H → Ev tb σ H (.int (count : Int))) (c6 : count ≤ 6) :
    EvR K rw S (tCB (rSortedS K) (tCons (tSl (rSlL K) te tNoPart (tPart tb)) tNil)) σ Kn (fun u H' => ∃ (p : Addr) (names : List Str), u = .ref p ∧ Kn p = none ∧ H' p = some (.lst (names.map V.str)) ∧ names.length = count ∧ Names names) := fun H r Q q =>
  ht H r _ fun v H1 f w ⟨p, ys, hv, hp, perm, h1⟩ => by
    subst hv
    obtain ⟨hpn, h1'⟩ := cut_some h1
    have r1 := r.fr f w
    obtain ⟨zs, pz, rfl⟩ := perm_strs perm
    have hlz : zs.length = 6 := pz.length_eq
    refine hc H1 r1.ex H1 (Ex.refl _) _ fun H2 e2 => ⟨(count : Int), rfl, p, zs.map V.str, rfl, .inl (.inl (e2 _ _ h1')), fun l hl => ?_⟩
    rw [cutV_take (by rw [List.length_map, hlz]; exact c6), ← List.map_take]
    have e3 : Ex H2 (upd H2 l (.lst ((zs.take count).map V.str))) := Ex.new hl
    refine ⟨l, zs.take count, rfl, .inl (.inl upd_same), by rw [List.length_take, hlz]; omega, fun names g pn sn hg => ?_⟩
    have e4 : Ex (upd H2 l (.lst ((zs.take count).map V.str))) (upd (upd H2 l (.lst ((zs.take count).map V.str))) g (.lst (names.map V.str))) := Ex.new hg
    have e14 := (e2.trans e3).trans e4
    have hg0 : H1 g = none := Ex.back (e2.trans e3) hg
    have sub : ∀ x ∈ names, x ∈ pool := fun x hx => pz.subset (List.mem_of_mem_take (pn.subset hx))
    have ndz : (zs.take count).Nodup := (pz.symm.nodup pool_nd).sublist (List.take_sublist _ _)
    refine q _ _ (f.trans (Fr.of e14)) (w.ex e14) ⟨g, names, rfl, Ex.back r1.ex hg0, ?_, ?_, sorted_lt sn (pn.symm.nodup ndz), sub⟩
    · rw [cut_at (w.new hg0)]
      exact upd_same
    · rw [pn.length_eq, List.length_take, hlz]
      omega
theorem er_truth {count size : Nat} (ht : EvR K rw S te σ Kn (fun u H' => ∃ p ys, u = .ref p ∧ Kn p = none ∧ ys.Perm ((List.range size).map bx) ∧ H' p = some (.lst ys))) (hc : ∀ H, Ex Kn H → Ev tb σ H (.int (count : Int))) (c6 : count ≤ size) :
    EvR K rw S (tCB (fun xs H Q => ∃ p ys, xs = [.ref p] ∧ ((SqL K H p ys ∧ ∀ l, H l = none → Q (.ref l) (upd H l (.tup ys))) ∨ (SqT K H p ys ∧ Q (.ref p) H))) (tCons (tSl (rSlL K) te tNoPart (tPart tb)) tNil)) σ Kn (fun u H' => ∃ (p : Addr) (tr : List Nat), u = .ref p ∧ H' p = some (.tup (tr.map bx)) ∧ tr.length = count ∧ ∀ b ∈ tr, b < size) := fun H r Q q =>
  ht H r _ fun v H1 f w ⟨p, ys, hv, hp, perm, h1⟩ => by
    subst hv
    obtain ⟨hpn, h1'⟩ := cut_some h1
    have r1 := r.fr f w
    obtain ⟨zs, pz, rfl⟩ := perm_bxs perm
    have hlz : zs.length = size := by rw [pz.length_eq, List.length_range]
    refine hc H1 r1.ex H1 (Ex.refl _) _ fun H2 e2 => ⟨(count : Int), rfl, p, zs.map bx, rfl, .inl (.inl (e2 _ _ h1')), fun l hl => ?_⟩
    rw [cutV_take (by rw [List.length_map, hlz]; exact c6), ← List.map_take]
    have e3 : Ex H2 (upd H2 l (.lst ((zs.take count).map bx))) := Ex.new hl
    refine ⟨l, (zs.take count).map bx, rfl, .inl ⟨.inl (.inl upd_same), fun g hg => ?_⟩⟩
    have e4 : Ex (upd H2 l (.lst ((zs.take count).map bx))) (upd (upd H2 l (.lst ((zs.take count).map bx))) g (.tup ((zs.take count).map bx))) := Ex.new hg
    have e14 := (e2.trans e3).trans e4
    have hg0 : H1 g = none := Ex.back (e2.trans e3) hg
    refine q _ _ (f.trans (Fr.of e14)) (w.ex e14) ⟨g, zs.take count, rfl, ?_, ?_, fun b hb => List.mem_range.mp (pz.subset (List.mem_of_mem_take hb))⟩
    · rw [cut_at (w.new hg0)]
      exact upd_same
    · rw [List.length_take, hlz]
      omega
end
theorem el_rep {tb : TE} {σ : L2.St} {H : Hp} {n : Nat} (h : Ev tb σ H (bx n)) (hn : n ≤ 1000) : EvL (tOp rRep (tLst (tCons (tC (.str "")) tNil)) tb) σ H ((List.replicate n ("" : Str)).map V.str) := fun H1 e Q q =>
  el_lst (ea_cons ev_c ea_nil) (by show 1 ≤ 100000; decide) H1 e _ fun p H2 hp e2 h2 => h H2 (e.trans e2) _ fun H3 e3 => by
    refine ⟨p, (n : Int), [V.str ""], rfl, rfl, e3 _ _ h2, by omega, by omega, sz_of (by rw [Int.toNat_natCast]; show 1 * n ≤ 100000; omega), fun l hl => ?_⟩
    refine q l _ (Ex.back (e2.trans e3) hl) ((e2.trans e3).trans (Ex.new hl)) ?_
    rw [upd_same, Int.toNat_natCast, List.map_replicate, List.flatten_replicate_singleton]
/-- a sign that can be -/
def SignOk (z : Str) : Prop := z.length ≤ 8 ∧ (cs z = [] ∨ ∀ c ∈ cs z, c = 46 ∨ (97 ≤ c ∧ c ≤ 122))
/-- "".join of single signs -/
theorem cs_join (dl : List Nat) : cs (Txt.join "" (dl.map fun d => ⟨#[d]⟩)) = dl := by
  have h := TL.tl_join ("" : Str) (dl.map fun d => (⟨#[d]⟩ : Str))
  rw [← TL.join_eq] at h
  have e0 : TL.tl ("" : Str) = [] := by decide +kernel
  rw [e0, List.map_map] at h
  exact h.trans (joinL_one dl)
theorem pos_sum (dl : List Nat) : ((dl.map fun d => (⟨#[d]⟩ : Str)).map (·.length)).sum = dl.length := by
  induction dl with
  | nil => rfl
  | cons d dl ih =>
    rw [List.map_cons, List.map_cons, List.sum_cons, ih, List.length_cons]
    show 1 + dl.length = _
    omega
theorem paired_pick {α : Type} {F : α → Nat → Prop} {f : Nat → V} : ∀ {l : List α} {us : List V}, Paired (fun a v => ∃ d, v = f d ∧ F a d) l us → ∃ dl : List Nat, us = dl.map f ∧ Paired F l dl
  | _, _, .nil => ⟨[], rfl, .nil⟩
  | _, _, .cons ⟨d, h1, h2⟩ t => by
    obtain ⟨dl, e, q⟩ := paired_pick t
    exact ⟨d :: dl, by rw [h1, e, List.map_cons], .cons h2 q⟩
theorem paired_obs {α : Type} {F : α → Option Nat → Prop} : ∀ {l : List α} {us : List V}, Paired (fun a v => ∃ d, v = ob d ∧ F a d) l us → ∃ dl : List (Option Nat), us = dl.map ob ∧ Paired F l dl
  | _, _, .nil => ⟨[], rfl, .nil⟩
  | _, _, .cons ⟨d, h1, h2⟩ t => by
    obtain ⟨dl, e, q⟩ := paired_obs t
    exact ⟨d :: dl, by rw [h1, e, List.map_cons], .cons h2 q⟩
theorem paired_all {α β : Type} {F : α → β → Prop} {q : β → Prop} (hq : ∀ a b, F a b → q b) : ∀ {l : List α} {m : List β}, Paired F l m → ∀ b ∈ m, q b
  | _, _, .nil, b, hb => by cases hb
  | _, _, .cons h t, b, hb => by
    rcases List.mem_cons.mp hb with e | hb
    · rw [e]
      exact hq _ _ h
    · exact paired_all hq t b hb
/-- manners that can be -/
def ManOk (count size : Nat) (m : Man) : Prop := ∀ g, m = .guess g → g.length = count ∧ ∀ o ∈ g, ∀ b, o = some b → b < size
theorem cut2_fr {rw d : Addr} {H H' : Hp} (f : Fr rw H H') : Ex (cut d (cut rw H)) (cut d (cut rw H')) := fun a o h => by
  obtain ⟨n, h1⟩ := cut_some h
  rw [cut_at n]
  exact f.cut a o h1
theorem cut2_upd {rw d : Addr} {H : Hp} {o : HO} : Ex (cut d (cut rw H)) (cut d (cut rw (upd H d o))) := fun a u h => by
  obtain ⟨n, h1⟩ := cut_some h
  obtain ⟨n2, h2⟩ := cut_some h1
  rw [cut_at n, cut_at n2, upd_ne n]
  exact h2
theorem man_cut {d : Addr} {H : Hp} {v : V} {m : Man} {kvs : List (Key × V)} (h : ManAt H v m) (hd : H d = some (.dK kvs)) : ManAt (cut d H) v m := by
  cases m with
  | back => exact h
  | keep => exact h
  | guess g =>
    obtain ⟨a, h1, h2⟩ := h
    refine ⟨a, h1, ?_⟩
    rw [cut_at (fun e => by
      rw [e, hd] at h2
      cases h2)]
    exact h2
theorem kvW_snoc {names : List Str} {vs : List V} {i : Nat} {x : Str} {v : V} (hx : names[i]? = some x) (hl : vs.length = i) : kvW (names.take (i + 1)) (vs ++ [v]) = kvW (names.take i) vs ++ [(Sum.inr x, v)] := by
  unfold kvW
  have hi : (names.take i).length = i := by
    have := (List.getElem?_eq_some_iff.mp hx).1
    rw [List.length_take]
    omega
  rw [take_snoc hx, List.map_append, List.zip_append (by rw [List.length_map, hi, hl])]
  rfl
theorem kvW_new {names : List Str} {vs : List V} {i : Nat} {x : Str} (nd : names.Nodup) (hx : names[i]? = some x) : valV (kvW (names.take i) vs) (Sum.inr x : Key) = none := by
  refine valV_absent fun p hp => ?_
  unfold kvW at hp
  have h1 := (List.of_mem_zip (show (p.1, p.2) ∈ ((names.take i).map fun x => (Sum.inr x : Key)).zip vs from hp)).1
  obtain ⟨y, hy, ey⟩ := List.mem_map.mp h1
  intro q
  rw [← ey] at q
  have e : y = x := Sum.inr.inj q
  subst e
  obtain ⟨k, hk⟩ := List.getElem?_of_mem hy
  have hki : k < i := by
    have := (List.getElem?_eq_some_iff.mp hk).1
    rw [List.length_take] at this
    omega
  rw [List.getElem?_take, if_pos hki] at hk
  have := nd_at nd hk hx
  omega
section
variable {P : Program} {w : World} {K : PySem.W.Frag} {mg : Str → Option Value} {base : Heap} {C CN : Addr}
def spScheme (K : PySem.W.Frag) : Sp := fun vs H Q _ => ∃ (rw S : Addr), vs = [.ref rw, .int 5] ∧ Apart K rw S ∧ ScrAt K S H ∧ RowAt rw S H ∧ ∀ (p : Addr) (h : Hs) (tr : List Nat) (H' : Hp), h.Fine → tr.length = h.names.length → (∀ b ∈ tr, b < h.n) → Fr rw H H' → RowAt rw S H' → PlanAt (cut rw H') p h tr → Q (.ref p) H'
theorem ok_scheme (D : DefAt K mg "_law_scheme" sScheme) (T : Tx K mg) (F1 : Df P w K mg base CX0 1 "_law_taken" (spTaken K)) (F2 : Df P w K mg base CX0 2 "_law_pick" (spPick K)) (F3 : Df P w K mg base CX0 2 "_law_mixed" (spMixed K)) :
    Df P w K mg base CX0 3 "_law_scheme" (spScheme K) := by
  refine D.ok scScheme (fun _ _ _ _ _ _ us hl => match us, hl with | [_, _], _ => rfl) (fun vs H Q E h => ?_) (fun f cdv A outer s H vs Q E hr h => ?_)
  · obtain ⟨rw, S, rfl, _⟩ := h
    rfl
  · obtain ⟨rw, S, rfl, hS, hsc, hrow, kk⟩ := h
    have hr1 : Room 1 _ := hr.mono (by decide)
    refine ⟨_, pss_cons (ps_set (i := 2) scScheme.nd rfl (Or.inl rfl) (pe_lst (pa_cons pe_str (pa_cons pe_str (pa_cons pe_str (pa_cons pe_str (pa_cons pe_str (pa_cons pe_str pa_nil))))))))
      (pss_cut (ps_set (i := 3) scScheme.nd rfl (Or.inl rfl) (pe_op op_add pe_int (pe_df F1 hr1 (by rfl) pass0 (pa_cons (pv 0) (pa_cons (pe_callB (call_min2 rfl) (by rfl) T.min boot_min (pa_cons pe_int (pa_cons (pv 1) pa_nil))) pa_nil)))))
      (pss_cut (ps_set (i := 4) scScheme.nd rfl (Or.inl rfl) (pe_callB cr_sortedS (by rfl) T.sorted boot_sorted (pa_cons (pe_slice sl_list (pe_df F3 hr (by rfl) pass0 (pa_cons (pv 0) (pa_cons (pv 2) pa_nil))) po_none (po_some (pv 3))) pa_nil)))
      (pss_cut (ps_set (i := 5) scScheme.nd rfl (Or.inr rfl) (pe_callB (call_min2 rfl) (by rfl) T.min boot_min (pa_cons (pv 1) (pa_cons (pe_op op_add (pv 3) (pe_df F1 hr1 (by rfl) pass0 (pa_cons (pv 0) (pa_cons pe_int pa_nil)))) pa_nil))))
      (pss_cut (ps_set (i := 6) scScheme.nd rfl (Or.inl rfl) (pe_callTy call_tuple_of (by rfl) T.tuple boot_tuple (pa_cons (pe_slice sl_list (pe_df F3 hr (by rfl) pass0 (pa_cons (pv 0) (pa_cons (pe_listRg rfl (by rfl) T.list (prg_1 (by rfl) T.range (pv 5))) pa_nil))) po_none (po_some (pv 3))) pa_nil)))
      (pss_cons (ps_set (i := 7) scScheme.nd rfl (Or.inl rfl) (pe_op op_rep (pe_lst (pa_cons pe_str pa_nil)) (pv 5)))
      (pss_cut (ps_for PassesOwn.never rfl (pi_range1 (by rfl) T.range (pa_cons (pv 3) pa_nil)) (pg_name (i := 8) scScheme.nd rfl (Or.inl rfl))
        (pss_one (ps_if (pt_cmpR op_eq (pe_df F1 hr1 (by rfl) pass0 (pa_cons (pv 0) (pa_cons pe_int pa_nil))) pe_int (nomark _))
          (pss_one (ps_asg (pe_join pe_str (pe_lc (own := [("_law_letter", 12)]) (g := gName 12) (te := tIf (tTest (tOp rEq (tCl (spTaken K) E0 (tCons (tVar 0) (tCons (tC (.int 2)) tNil))) (tC (.int 0)))) (tVar 12) (tC (.str "."))) (tt := tYes) rfl scScheme.nd (pi_str (pe_ix ix_list (pv 4) (pv 8) (fun _ _ => rfl))) (blkOk_by (N := nmScheme) (sc := defScope sScheme) (by decide +kernel))
              (fun _ _ _ _ _ => pg_name (i := 12) scScheme.nd rfl (Or.inl rfl)) (fun _ _ _ _ _ => pts_nil)
              (fun _ _ _ _ _ => pe_ifExp (pt_cmpR op_eq (pe_df F1 hr1 (by rfl) pass0 (pa_cons (pv 0) (pa_cons pe_int pa_nil))) pe_int (nomark _)) (pv 12) pe_str)))
            (pg_sub (pv 7) (pe_ix ix_tup (pv 6) (pv 8) (fun _ _ => rfl)) set_list))) pss_nil)))
      (pss_cons (ps_set (i := 9) scScheme.nd rfl (Or.inl rfl) pe_dnewK)
      (pss_cut (ps_for PassesOwn.never rfl (pi_list (pv 4)) (pg_name (i := 10) scScheme.nd rfl (Or.inl rfl))
        (pss_cut (ps_setLc (i := 11) (own := [("_law_box", 13)]) (g := gName 13) (te := tCl (spPick K) E0 (tCons (tVar 0) (tCons (tLst (tCons (tVar 13) (tCons (tVar 13) (tCons (tCl (spTaken K) E0 (tCons (tVar 0) (tCons (tVar 5) tNil))) (tCons (tC .non) tNil))))) tNil))) (tt := tYes) rfl scScheme.nd rfl rfl (sw_true rfl rfl rfl (by decide +kernel)) (pi_tup (pv 6)) (blkOk_by (N := nmScheme) (sc := defScope sScheme) (by decide +kernel))
            (fun _ _ _ _ _ => pg_name (i := 13) scScheme.nd rfl (Or.inl rfl)) (fun _ _ _ _ _ => pts_nil)
            (fun _ _ _ _ _ => pe_df F2 hr (by rfl) pass0 (pa_cons (pv 0) (pa_cons (pe_lst (pa_cons (pv 13) (pa_cons (pv 13) (pa_cons (pe_df F1 hr1 (by rfl) pass0 (pa_cons (pv 0) (pa_cons (pv 5) pa_nil))) (pa_cons pe_non pa_nil))))) pa_nil))))
        (pss_one (ps_dput (hu_of hr) (pv 9) (pv 10) (pe_df F2 hr (by rfl) pass0 (pa_cons (pv 0) (pa_cons (pe_lst (pa_cons pe_str (pa_cons pe_str (pa_cons (pe_callTy call_tuple_of (by rfl) T.tuple boot_tuple (pa_cons (pv 11) pa_nil)) (pa_cons (pe_callTy call_tuple_of (by rfl) T.tuple boot_tuple (pa_cons (pv 11) pa_nil)) (pa_cons (pe_callTy call_tuple_of (by rfl) T.tuple boot_tuple (pa_cons (pv 11) pa_nil)) pa_nil)))))) pa_nil))) rfl))))
      (pss_one (ps_ret (pe_tup (pa_cons (pe_callTy call_tupF (by rfl) T.tuple boot_tuple (pa_cons (pv 4) pa_nil)) (pa_cons (pe_callTy call_tuple_of (by rfl) T.tuple boot_tuple (pa_cons (pv 7) pa_nil)) (pa_cons (pv 9) (pa_cons (pv 6) pa_nil))))))))))))))), ?_⟩
    refine q_asgL (el_lst (ea_cons ev_c (ea_cons ev_c (ea_cons ev_c (ea_cons ev_c (ea_cons ev_c (ea_cons ev_c ea_nil)))))) (by show 6 ≤ 100000; decide)) fun pl H1 hpl e1 h1 => ?_
    have R1 := ((Run.of hS hsc hrow).ex' e1).cut
    have hpl' : cut rw H1 pl = some (.lst (pool.map V.str)) := by
      rw [cut_at (hrow.new hpl)]
      exact h1
    have f1 : Fr rw H H1 := Fr.of e1
    -- count
    refine q_cut (M := fun σ' H' => ∃ (count : Nat), σ' = [some (.ref rw), some (.int 5), some (.ref pl), some (bx count), none, none, none, none, none, none, none, none, none, none] ∧ 1 ≤ count ∧ count ≤ 4 ∧ Fr rw H1 H' ∧ RowAt rw S H') ?_ ?_
    · refine s_asgR R1 (er_add ev_c (er_taken (m := 4) (ev_var rfl) (ev_is (ev_cb (z := .int 4) (ea_cons ev_c (ea_cons (ev_var rfl) ea_nil)) fun H2 e2 Q q => ⟨4, 5, rfl, q H2 (Ex.refl _)⟩) rfl) (by decide) (by decide))) fun v H' f r e ⟨k, hk, hv⟩ => ?_
      subst hv
      refine ⟨k + 1, ?_, by omega, by omega, f, r.row⟩
      have : (V.int (1 + (k : Int))) = bx (k + 1) := by
        unfold bx
        congr 1
        omega
      rw [← this]
      rfl
    rintro σ2 H2 ⟨count, rfl, c1, c4, f2, w2⟩
    have R2 := (R1.fr f2 w2).cut
    have hpl2 := f2.cut _ _ hpl'
    -- names
    refine q_cut (M := fun σ' H' => ∃ (nm : Addr) (names : List Str), σ' = [some (.ref rw), some (.int 5), some (.ref pl), some (bx count), some (.ref nm), none, none, none, none, none, none, none, none, none] ∧ cut rw H' nm = some (.lst (names.map V.str)) ∧ names.length = count ∧ Names names ∧ Fr rw H2 H' ∧ RowAt rw S H') ?_ ?_
    · refine s_asgR R2 (er_names (er_mixed (xs := pool.map V.str) (ev_var rfl) (fun H3 e3 Q q => ⟨_, rfl, q pl H3 (Ex.refl _) (e3 _ _ hpl2)⟩) (by decide) (fun v hv => by
        obtain ⟨x, hx, rfl⟩ := List.mem_map.mp hv
        exact flat_strD (pool_ok x hx))) (fun H3 e3 => ev_var (v := bx count) rfl) (by omega)) fun v H' f r e ⟨p, names, hv, hp, hn, hl, hN⟩ => ?_
      subst hv
      exact ⟨p, names, rfl, hn, hl, hN, f, r.row⟩
    rintro σ3 H3 ⟨nm, names, rfl, hnm, hnl, hN, f3, w3⟩
    have R3 := (R2.fr f3 w3).cut
    -- size
    refine q_cut (M := fun σ' H' => ∃ (size : Nat), σ' = [some (.ref rw), some (.int 5), some (.ref pl), some (bx count), some (.ref nm), some (bx size), none, none, none, none, none, none, none, none] ∧ count ≤ size ∧ size ≤ 5 ∧ Fr rw H3 H' ∧ RowAt rw S H') ?_ ?_
    · refine s_asgR R3 (er_min (ev_var rfl) (er_add (i := (count : Int)) (ev_var rfl) (er_taken (m := 3) (ev_var rfl) ev_c (by decide) (by decide)))) fun v H' f r e ⟨k, hk, hv⟩ => ?_
      subst hv
      by_cases hlt : (count : Int) + (k : Int) < 5
      · rw [if_pos hlt]
        exact ⟨count + k, by unfold bx; rw [Int.natCast_add]; rfl, by omega, by omega, f, r.row⟩
      · rw [if_neg hlt]
        exact ⟨5, rfl, by omega, by omega, f, r.row⟩
    rintro σ4 H4 ⟨size, rfl, cs1, s5, f4, w4⟩
    have R4 := (R3.fr f4 w4).cut
    have hnm4 := f4.cut _ _ hnm
    -- truth
    refine q_cut (M := fun σ' H' => ∃ (tt : Addr) (tr : List Nat), σ' = [some (.ref rw), some (.int 5), some (.ref pl), some (bx count), some (.ref nm), some (bx size), some (.ref tt), none, none, none, none, none, none, none] ∧ cut rw H' tt = some (.tup (tr.map bx)) ∧ tr.length = count ∧ (∀ b ∈ tr, b < size) ∧ Fr rw H4 H' ∧ RowAt rw S H') ?_ ?_
    · refine s_asgR R4 (er_truth (size := size) (er_mixed (xs := (List.range size).map bx) (ev_var rfl) (fun H5 e5 Q q => ⟨_, rfl, (size : Int), rfl, RgOk.of_le (by decide) (by omega) (by decide) (by omega), fun l hl => ?_⟩) (by rw [List.length_map, List.length_range]; omega) (fun v hv => by
        obtain ⟨x, hx, rfl⟩ := List.mem_map.mp hv
        exact flat_bxD x)) (fun H5 e5 => ev_var (v := bx count) rfl) cs1) fun v H' f r e ⟨p, tr, hv, hp, hl, hb⟩ => ?_
      · have hrg : rgV 0 (size : Int) = (List.range size).map bx := by
          unfold rgV
          rw [Int.sub_zero, Int.toNat_natCast]
          refine List.map_congr_left fun i _ => ?_
          unfold bx
          rw [Int.zero_add]
        rw [hrg]
        exact q l _ (Ex.new hl) upd_same
      · subst hv
        exact ⟨p, tr, rfl, hp, hl, hb, f, r.row⟩
    rintro σ5 H5 ⟨tt, tr, rfl, htt, htl, htb, f5, w5⟩
    have R5 := (R4.fr f5 w5).cut
    have hnm5 := f5.cut _ _ hnm4
    have f05 : Fr rw H H5 := (((f1.trans f2).trans f3).trans f4).trans f5
    -- signs
    refine q_asgL (el_rep (n := size) (ev_var rfl) (by omega)) fun sg H6 hsg e6 h6 => ?_
    have R6 := R5.ex' e6
    have nsg : sg ≠ rw := w5.new hsg
    have ksg : cut rw H5 sg = none := by rw [cut_at nsg]; exact hsg
    have ncount : names.length = count := hnl
    refine q_cut (M := fun σ' H' => ∃ (zs : List Str) (v8 : Option V), σ' = [some (.ref rw), some (.int 5), some (.ref pl), some (bx count), some (.ref nm), some (bx size), some (.ref tt), some (.ref sg), v8, none, none, none, none, none] ∧ RowAt rw S H' ∧ Fr rw H5 H' ∧ H' sg = some (.lst (zs.map V.str)) ∧ zs.length = size ∧ ∀ z ∈ zs, SignOk z) ?_ ?_
    · refine s_forB (HB := cut rw H5) (ei_rng (n := count) (ea_cons (ev_var rfl) ea_nil) (by omega)) R6.ex (fun i σ' H' => ∃ (zs : List Str) (v8 : Option V), σ' = [some (.ref rw), some (.int 5), some (.ref pl), some (bx count), some (.ref nm), some (bx size), some (.ref tt), some (.ref sg), v8, none, none, none, none, none] ∧ Run K rw S (cut rw H5) H' ∧ Fr rw H5 H' ∧ H' sg = some (.lst (zs.map V.str)) ∧ zs.length = size ∧ ∀ z ∈ zs, SignOk z)
        (fun H7 e7 => ⟨List.replicate size "", none, rfl, R6.ex' e7, Fr.of (e6.trans e7), e7 _ _ h6, List.length_replicate, fun z hz => by
          rw [(List.mem_replicate.mp hz).2]
          exact ⟨by decide +kernel, .inl (by decide +kernel)⟩⟩) (fun i σ' H' ⟨_, _, _, r, _⟩ => r.ex) ?_ ?_
      · rintro i x σ' HA' HA hi ⟨zs, v8, rfl, RA, fA, hzA, hzl, hzs⟩ ⟨rfl, rfl⟩
        refine s_whenR RA (er_eq0 (er_taken (m := 4) (ev_var rfl) ev_c (by decide) (by decide))) (fun HB fB rB eB => ?_) (fun HB fB rB eB => ⟨zs, _, rfl, RA.fr fB rB.row, fA.trans fB, fB _ _ nsg hzA, hzl, hzs⟩)
        have RB := RA.fr fB rB.row
        have hin : i < names.length := by omega
        have hx : names[i]? = some names[i] := List.getElem?_eq_getElem hin
        have xp := hN.2 names[i] (List.getElem_mem hin)
        have x8 := pool_len _ xp
        have lx : (cs names[i]).length = names[i].length := Array.length_toList
        refine ⟨⟨_, rfl⟩, er_lc (l := cs names[i]) (Pv := fun c v => ∃ d, v = .str ⟨#[d]⟩ ∧ (d = c ∨ d = 46)) (ei_strL (ev_op (ev_var rfl) (ev_var rfl) (rv_ixL (.inl (.inl hnm5)) (atI_nat (by rw [List.getElem?_map, hx]; rfl))))) (by omega) ?_ HB RB _ fun u HC fC wC ⟨p, us, hu, kp, hp, hpair⟩ => ?_⟩
        · rintro j c HD y HE hj eD ⟨rfl, c', hc', rfl⟩
          have ec : c' = c := Option.some.inj (hc'.symm.trans hj)
          subst ec
          refine ⟨Ex.refl _, [some (.ref rw), some (.int 5), some (.ref pl), some (bx count), some (.ref nm), some (bx size), some (.ref tt), some (.ref sg), some (bx i), none, none, none, some (.str ⟨#[c']⟩), none], rfl, fun Kk z => z _ (Ex.refl _), fun HF rF Q q => er_eq0 (er_taken (m := 2) (ev_var rfl) ev_c (by decide) (by decide)) HF rF _ fun v HG fG wG ⟨b, hb⟩ => ?_⟩
          subst hb
          refine ⟨b, rfl, ?_⟩
          cases b with
          | true => exact ⟨_, rfl, q _ HG fG wG ⟨c', rfl, .inl rfl⟩⟩
          | false => exact q _ HG fG wG ⟨46, by rw [point_eq], .inr rfl⟩
        · subst hu
          obtain ⟨hpn, hp1⟩ := cut_some hp
          obtain ⟨dl, rfl, hdl⟩ := paired_pick (f := fun d => V.str ⟨#[d]⟩) hpair
          have ldl : dl.length = (cs names[i]).length := (paired_len hdl).symm
          have hus : (dl.map fun d => V.str ⟨#[d]⟩) = (dl.map fun d => (⟨#[d]⟩ : Str)).map V.str := by rw [List.map_map]; rfl
          rw [hus] at hp1
          have hbn : i < tr.length := by omega
          have hb : tr[i]? = some tr[i] := List.getElem?_eq_getElem hbn
          have hbs : tr[i] < size := htb _ (List.getElem_mem hbn)
          have RC := RB.fr fC wC
          have hz1 := fC _ _ nsg (fB _ _ nsg hzA)
          refine ⟨"", p, _, rfl, rfl, .inl (.inl (.inl hp1)), ?_, _, rfl, _, rfl, _, rfl, tt, tr.map bx, (i : Int), bx tr[i], rfl, rfl, .inl (.inl (RC.ex _ _ htt)), atI_nat (by rw [List.getElem?_map, hb]; rfl), sg, zs.map V.str, (tr[i] : Int), tr[i], rfl, rfl, hz1, ixN_nat (by rw [List.length_map, hzl]; exact hbs), zs.set tr[i] (Txt.join "" (dl.map fun d => ⟨#[d]⟩)), _, rfl, RC.chg ksg nsg, ((fA.trans fB).trans fC).chg hsg, ?_, ?_, ?_⟩
          · rw [pos_sum]
            have e0 : ("" : Str).length = 0 := by decide +kernel
            rw [e0, Nat.mul_zero]
            omega
          · rw [upd_same, List.map_set]
          · rw [List.length_set]
            exact hzl
          · intro z hz
            rcases List.mem_or_eq_of_mem_set hz with hz | hz
            · exact hzs z hz
            · rw [hz]
              refine ⟨?_, .inr ?_⟩
              · have e1 : (cs (Txt.join "" (dl.map fun d => ⟨#[d]⟩))).length = (Txt.join "" (dl.map fun d => ⟨#[d]⟩)).length := Array.length_toList
                rw [← e1, cs_join]
                omega
              · rw [cs_join]
                have hdl' : Paired (fun c d => (97 ≤ c ∧ c ≤ 122) ∧ (d = c ∨ d = 46)) (cs names[i]) dl := by
                  have key : ∀ {l m : List Nat}, (∀ c ∈ l, 97 ≤ c ∧ c ≤ 122) → Paired (fun c d => d = c ∨ d = 46) l m → Paired (fun c d => (97 ≤ c ∧ c ≤ 122) ∧ (d = c ∨ d = 46)) l m := by
                    intro l m hl q
                    induction q with
                    | nil => exact .nil
                    | cons h1 h2 ih => exact .cons ⟨hl _ (List.mem_cons_self ..), h1⟩ (ih fun c hc => hl c (List.mem_cons_of_mem _ hc))
                  exact key (pool_let _ xp) hdl
                refine paired_all (fun c d hcd => ?_) hdl'
                omega
      · rintro σ' HA ⟨zs, v8, rfl, RA, fA, hzA, hzl, hzs⟩
        exact ⟨zs, v8, rfl, RA.row, fA, hzA, hzl, hzs⟩
    rintro σ7 H7 ⟨zs, v8, rfl, w7, f7, hzs7, hzl, hzs⟩
    have R7 := (R5.fr f7 w7).cut
    have hnm7 := f7.cut _ _ hnm5
    have htt7 := f7.cut _ _ htt
    have hsg7 : cut rw H7 sg = some (.lst (zs.map V.str)) := by rw [cut_at nsg]; exact hzs7
    -- ways
    refine fun d hd => ?_
    have R8 := R7.ex' (Ex.new (o := HO.dK []) hd)
    have nd : d ≠ rw := w7.new hd
    have kd : cut rw H7 d = none := by rw [cut_at nd]; exact hd
    have namesND : names.Nodup := asc_nd hN.1
    refine q_cut (M := fun σ' H' => ∃ (vs : List V) (ms : List Man) (v10 v11 : Option V), σ' = [some (.ref rw), some (.int 5), some (.ref pl), some (bx count), some (.ref nm), some (bx size), some (.ref tt), some (.ref sg), v8, some (.ref d), v10, v11, none, none] ∧ Run K rw S (cut rw H7) H' ∧ Fr rw H7 H' ∧ H' d = some (.dK (kvW names vs)) ∧ Paired (ManAt (cut d (cut rw H'))) vs ms ∧ ms.length = count ∧ ∀ m ∈ ms, ManOk count size m) ?_ ?_
    · refine s_forB (HB := cut rw H7) (ei_list (ev_var rfl) (.inl (.inl hnm7))) R8.ex (fun i σ' H' => ∃ (vs : List V) (ms : List Man) (v10 v11 : Option V), σ' = [some (.ref rw), some (.int 5), some (.ref pl), some (bx count), some (.ref nm), some (bx size), some (.ref tt), some (.ref sg), v8, some (.ref d), v10, v11, none, none] ∧ Run K rw S (cut rw H7) H' ∧ Fr rw H7 H' ∧ H' d = some (.dK (kvW (names.take i) vs)) ∧ Paired (ManAt (cut d (cut rw H'))) vs ms ∧ ms.length = i ∧ ∀ m ∈ ms, ManOk count size m)
        (fun H8 e8 => ⟨[], [], none, none, rfl, R8.ex' e8, Fr.of ((Ex.new hd).trans e8), e8 _ _ upd_same, .nil, rfl, fun m hm => by cases hm⟩) (fun i σ' H' ⟨_, _, _, _, _, r, _⟩ => r.ex) ?_ ?_
      · rintro i x σ' HA' HA hi ⟨vs, ms, v10, v11, rfl, RA, fA, hdA, hms, hml, hmo⟩ ⟨rfl, hx⟩
        rw [List.getElem?_map] at hx
        obtain ⟨x, hx', rfl⟩ := Option.map_eq_some_iff.mp hx
        refine q_cut (M := fun σ' H' => ∃ (gl : Addr) (g : List (Option Nat)), σ' = [some (.ref rw), some (.int 5), some (.ref pl), some (bx count), some (.ref nm), some (bx size), some (.ref tt), some (.ref sg), v8, some (.ref d), some (.str x), some (.ref gl), none, none] ∧ cut rw H' gl = some (.lst (g.map ob)) ∧ g.length = count ∧ (∀ o ∈ g, ∀ b, o = some b → b < size) ∧ Fr rw HA H' ∧ RowAt rw S H') ?_ ?_
        · refine s_asgR RA (er_lc (l := tr) (Pv := fun _ v => ∃ o : Option Nat, v = ob o ∧ ∀ b, o = some b → b < size) (by rw [← List.length_map (f := bx)]; exact ei_tup (ev_var rfl) (.inl (.inl htt7))) (by omega) ?_) fun v HB fB rB eB ⟨gl, us, hv, kg, hg, hp⟩ => ?_
          · rintro j b HD y HE hj eD ⟨rfl, hy⟩
            obtain ⟨b', hb', rfl⟩ := mapbx_at hy
            have ebb : b' = b := Option.some.inj (hb'.symm.trans hj)
            subst ebb
            have hbs : b' < size := htb _ (List.mem_of_getElem? hj)
            refine ⟨Ex.refl _, [some (.ref rw), some (.int 5), some (.ref pl), some (bx count), some (.ref nm), some (bx size), some (.ref tt), some (.ref sg), v8, some (.ref d), some (.str x), v11, none, some (bx b')], rfl, fun Kk z => z _ (Ex.refl _), er_pick (P := fun xs _ => ∀ v ∈ xs, ∃ o : Option Nat, v = ob o ∧ ∀ b, o = some b → b < size) (ev_var rfl) (fun HF rF Q q => ⟨_, rfl, _, rfl, er_taken (m := size) (ev_var rfl) (ev_var rfl) (by omega) (by omega) HF rF _ fun v HG fG wG ⟨k, hk, hv⟩ => ?_⟩) (fun xs v _ _ h1 h2 _ => h1 v h2)⟩
            subst hv
            refine ⟨by show 4 ≤ sizeLine; decide, fun l hl => ?_⟩
            have hl0 : HF l = none := by
              cases hx0 : HF l with
              | none => rfl
              | some o0 =>
                by_cases hlr : l = rw
                · obtain ⟨_, _, _, h3, _⟩ := wG
                  rw [hlr, h3] at hl
                  cases hl
                · have := fG _ _ hlr hx0
                  rw [this] at hl
                  cases hl
            refine q l _ [bx b', bx b', bx k, .non] (fG.trans (Fr.of (Ex.new hl))) (wG.ex (Ex.new hl)) hl0 upd_same (by show 0 < 4; decide) (by show 4 < 1000000; decide) fun v hv => ?_
            rcases List.mem_cons.mp hv with e | hv
            · exact ⟨some b', e, fun c hc => by rw [← Option.some.inj hc]; exact hbs⟩
            rcases List.mem_cons.mp hv with e | hv
            · exact ⟨some b', e, fun c hc => by rw [← Option.some.inj hc]; exact hbs⟩
            rcases List.mem_cons.mp hv with e | hv
            · exact ⟨some k, e, fun c hc => by rw [← Option.some.inj hc]; exact hk⟩
            rcases List.mem_cons.mp hv with e | hv
            · exact ⟨none, e, fun c hc => by cases hc⟩
            · cases hv
          · subst hv
            obtain ⟨g, rfl, hgp⟩ := paired_obs hp
            exact ⟨gl, g, rfl, hg, by rw [← paired_len hgp, htl], paired_all (q := fun o : Option Nat => ∀ b, o = some b → b < size) (fun _ _ h => h) hgp, fB, rB.row⟩
        rintro σB HB ⟨gl, g, rfl, hg, hgl, hgo, fB, wB⟩
        have RB := (RA.fr fB wB).cut
        have mg : ManOk count size (.guess g) := fun g' e => by
          cases e
          exact ⟨hgl, hgo⟩
        refine er_pick (Kn := cut rw HB) (P := fun xs H1 => ∀ v ∈ xs, ∃ m, ManAt H1 v m ∧ ManOk count size m) (G := fun v H1 => ∃ m, ManAt H1 v m ∧ ManOk count size m) (ev_var rfl) (fun HF rF Q q => ?_) (fun xs v H1 H2 h1 h2 e => ?_) HB RB _ fun v HC fC wC ⟨m, hm, hmok⟩ => ?_
        · refine ⟨_, rfl, gl, g.map ob, rfl, .inl ⟨.inl (.inl (rF.ex _ _ hg)), fun t1 ht1 => ⟨_, rfl, gl, g.map ob, rfl, .inl ⟨.inl (.inl ((Ex.new ht1) _ _ (rF.ex _ _ hg))), fun t2 ht2 => ⟨_, rfl, gl, g.map ob, rfl, .inl ⟨.inl (.inl ((Ex.new ht2) _ _ ((Ex.new ht1) _ _ (rF.ex _ _ hg)))), fun t3 ht3 => ⟨by show 5 ≤ sizeLine; decide, fun l hl => ?_⟩⟩⟩⟩⟩⟩⟩
          have x1 : Ex HF (upd HF t1 (.tup (g.map ob))) := Ex.new ht1
          have x2 : Ex (upd HF t1 (.tup (g.map ob))) (upd (upd HF t1 (.tup (g.map ob))) t2 (.tup (g.map ob))) := Ex.new ht2
          have x3 : Ex (upd (upd HF t1 (.tup (g.map ob))) t2 (.tup (g.map ob))) (upd (upd (upd HF t1 (.tup (g.map ob))) t2 (.tup (g.map ob))) t3 (.tup (g.map ob))) := Ex.new ht3
          have x4 : Ex (upd (upd (upd HF t1 (.tup (g.map ob))) t2 (.tup (g.map ob))) t3 (.tup (g.map ob))) (upd (upd (upd (upd HF t1 (.tup (g.map ob))) t2 (.tup (g.map ob))) t3 (.tup (g.map ob))) l (.lst [.str "back", .str "keep", .ref t1, .ref t2, .ref t3])) := Ex.new hl
          have x14 := ((x1.trans x2).trans x3).trans x4
          have n1 : t1 ≠ rw := rF.new ht1
          have n2 : t2 ≠ rw := rF.new (Ex.back x1 ht2)
          have n3 : t3 ≠ rw := rF.new (Ex.back (x1.trans x2) ht3)
          refine q l _ [.str "back", .str "keep", .ref t1, .ref t2, .ref t3] (Fr.of x14) (rF.row.ex x14) (Ex.back ((x1.trans x2).trans x3) hl) upd_same (by show 0 < 5; decide) (by show 5 < 1000000; decide) fun v hv => ?_
          rcases List.mem_cons.mp hv with e | hv
          · exact ⟨.back, e, fun g e => by cases e⟩
          rcases List.mem_cons.mp hv with e | hv
          · exact ⟨.keep, e, fun g e => by cases e⟩
          rcases List.mem_cons.mp hv with e | hv
          · exact ⟨.guess g, ⟨t1, e, by rw [cut_at n1]; exact ((x2.trans x3).trans x4) _ _ upd_same⟩, mg⟩
          rcases List.mem_cons.mp hv with e | hv
          · exact ⟨.guess g, ⟨t2, e, by rw [cut_at n2]; exact (x3.trans x4) _ _ upd_same⟩, mg⟩
          rcases List.mem_cons.mp hv with e | hv
          · exact ⟨.guess g, ⟨t3, e, by rw [cut_at n3]; exact x4 _ _ upd_same⟩, mg⟩
          · cases hv
        · obtain ⟨m, h3, h4⟩ := h1 v h2
          exact ⟨m, h3.ex e, h4⟩
        · have fAC := fB.trans fC
          have hdC := fAC _ _ nd hdA
          have RC := RA.fr fAC wC
          have hvl : vs.length = i := by rw [paired_len hms, hml]
          refine ⟨_, rfl, _, rfl, d, _, rfl, DPut.k (k := Sum.inr x) hdC (sz_lt (by rw [kvW_len]; have h9 := List.length_take_le' i names; omega)), vs ++ [v], ms ++ [m], _, _, rfl, RC.chg kd nd, (fA.trans fAC).chg hd, ?_, ?_, ?_, ?_⟩
          · rw [upd_same, putK_new _ (kvW_new namesND hx'), kvW_snoc hx' hvl]
          · have hmC : ManAt (cut d (cut rw HC)) v m := man_cut hm (by rw [cut_at nd]; exact hdC)
            exact paired_app (paired_mono (fun _ _ z => z.ex ((cut2_fr fAC).trans cut2_upd)) hms) (.cons (hmC.ex cut2_upd) .nil)
          · rw [List.length_append, hml, List.length_singleton]
          · intro m' hm'
            rcases List.mem_append.mp hm' with hm' | hm'
            · exact hmo m' hm'
            · rcases List.mem_cons.mp hm' with e | hm'
              · rw [e]
                exact hmok
              · cases hm'
      · rintro σ' HA ⟨vs, ms, v10, v11, rfl, RA, fA, hdA, hms, hml, hmo⟩
        rw [List.length_map] at hml hdA
        rw [List.take_length] at hdA
        exact ⟨vs, ms, v10, v11, rfl, RA, fA, hdA, hms, hml.trans ncount, hmo⟩
    rintro σ9 H9 ⟨vs, ms, v10, v11, rfl, R9, f9, hd9, hms, hml, hmo⟩
    -- the plan
    have hnm9 := R9.ex _ _ hnm7
    have hsg9 := R9.ex _ _ hsg7
    have htt9 := R9.ex _ _ htt7
    refine ⟨_, rfl, nm, names.map V.str, rfl, .inl (.inl hnm9), fun nT o hnT ho => ?_⟩
    have x1 : Ex H9 (upd H9 nT (.frz o (.tup (names.map V.str)))) := Ex.new hnT
    refine ⟨_, rfl, sg, zs.map V.str, rfl, .inl ⟨.inl (.inl (x1 _ _ hsg9)), fun sT hsT => ?_⟩⟩
    have x2 : Ex (upd H9 nT (.frz o (.tup (names.map V.str)))) (upd (upd H9 nT (.frz o (.tup (names.map V.str)))) sT (.tup (zs.map V.str))) := Ex.new hsT
    refine ⟨_, rfl, _, rfl, by show 4 ≤ sizeLine; decide, fun p hp => ?_⟩
    have x3 : Ex (upd (upd H9 nT (.frz o (.tup (names.map V.str)))) sT (.tup (zs.map V.str))) (upd (upd (upd H9 nT (.frz o (.tup (names.map V.str)))) sT (.tup (zs.map V.str))) p (.tup [.ref nT, .ref sT, .ref d, .ref tt])) := Ex.new hp
    have x13 := (x1.trans x2).trans x3
    have n1 : nT ≠ rw := R9.new hnT
    have n2 : sT ≠ rw := R9.new (Ex.back x1 hsT)
    have n3 : p ≠ rw := R9.new (Ex.back (x1.trans x2) hp)
    have n4 : tt ≠ rw := fun e => by
      rw [e, cut_rw] at htt7
      cases htt7
    have hvl : vs.length = names.length := by rw [paired_len hms, hml, ncount]
    have ex9 : Ex (cut d (cut rw H9)) (cut rw (upd (upd (upd H9 nT (.frz o (.tup (names.map V.str)))) sT (.tup (zs.map V.str))) p (.tup [.ref nT, .ref sT, .ref d, .ref tt]))) := fun a o h => (Fr.of (rw := rw) x13).cut a o (cut_some h).2
    refine kk p ⟨names, zs, ms⟩ tr _ ⟨⟨?_, ?_, ?_, ?_, namesND, ?_, ?_, ?_, ?_, ?_⟩, hN.1, fun x hx => pool_let x (hN.2 x hx), fun z hz => (hzs z hz).2⟩ (htl.trans ncount.symm) (fun b hb => ?_) ((((f05.trans f7).trans f9)).trans (Fr.of x13)) (R9.row.ex x13) ⟨nT, sT, d, tt, ?_, ⟨o, ho, ?_⟩, ?_, ⟨vs, ?_, ?_⟩, .inl ?_⟩
    · show 1 ≤ names.length
      omega
    · show names.length ≤ 4
      omega
    · show names.length ≤ zs.length
      omega
    · show zs.length ≤ 5
      omega
    · exact fun x hx => pool_len x (hN.2 x hx)
    · exact fun z hz => (hzs z hz).1
    · exact hml.trans ncount.symm
    · intro k g hk j b hj
      have h8 : b < size := (hmo _ (List.mem_of_getElem? hk) g rfl).2 _ (List.mem_of_getElem? hj) b rfl
      show b < zs.length
      omega
    · intro k g hk
      exact (hmo _ (List.mem_of_getElem? hk) g rfl).1.trans ncount.symm
    · show b < zs.length
      have := htb b hb
      omega
    · rw [cut_at n3]
      exact upd_same
    · rw [cut_at n1]
      exact (x2.trans x3) _ _ upd_same
    · rw [cut_at n2]
      exact x3 _ _ upd_same
    · rw [cut_at nd]
      exact x13 _ _ hd9
    · exact paired_mono (fun _ _ z => z.ex ex9) hms
    · rw [cut_at n4]
      exact x13 _ _ htt9
end
end Lp

set_option Elab.async false
set_option linter.all false
set_option maxRecDepth 100000
set_option maxHeartbeats 4000000
/-! Lostplates: the walks of are_names, are_plates, is_manner, are_manners, House.__init__, _law_built: of houses of the law's. -/
namespace Lp
open PySem PySem.Spec PyProof.Rows L2
open Evl
abbrev sNames : Stmt := top 24
abbrev sPlates : Stmt := top 25
abbrev sManner : Stmt := top 26
abbrev sManners : Stmt := top 27
abbrev sInit : Stmt := inClass (top 28) 1
abbrev sBuilt : Stmt := top 62
/-- what is walked may be new -/
def EvIN (wi : TI) (σ : L2.St) (H : Hp) (n : Nat) (Y : Nat → Hp → V → Hp → Prop) : Prop :=
  ∀ H0, Ex H H0 → ∀ R : It → Hp → Prop, (∀ J H1 G, Ex H0 H1 → Walk J n G Y → (∀ H2, Ex H1 H2 → G H2) → R J H1) → wi σ H0 R
theorem el_newM {α : Type} {l : List α} {σ : L2.St} {H : Hp} {wi : TI} {Y : Nat → Hp → V → Hp → Prop} {g : TG} {tt : TT} {te : TE} {vs : List Nat} (hi : EvIN wi σ H l.length Y) (hn : l.length ≤ 40000) (val : α → V) (turn : LTurn l Y g tt te vs σ (fun _ => true) (fun a v _ => v = val a) H) :
    EvLG (tLc wi g tt te vs) σ H (fun us _ => us = l.map val) := fun H0 e Q q =>
  hi H0 e _ fun J H1 G e1 w hG Dl hD => lc_walk w hn (fun i v H1 H2 k (r : ∀ a, l[i]? = some a → v = val a) => r) hG (turn.lc.mono (e.trans e1)) hD fun H2 us e2 h1 h2 => q Dl H2 us (Ex.back e1 hD) (e1.trans e2) h1 (by
    rw [List.range_eq_range'] at h2
    have hP := paired_range (R := fun a v => v = val a) l _ (fun _ => true) us 0 (fun i => by rw [Nat.zero_add]) h2
    rw [List.filter_eq_self.mpr fun _ _ => rfl] at hP
    have key : ∀ {us : List V} {m : List α}, Paired (fun v a => v = val a) us m → us = m.map val := by
      intro us m q
      induction q with
      | nil => rfl
      | cons h1 h2 ih => rw [h1, ih, List.map_cons]
    exact key hP)
theorem walk_zipT {K : PySem.W.Frag} {a b : Addr} {xs ys : List V} {n : Nat} (hn : n = min xs.length ys.length) : Walk (RZ.ItzT K a b) n (fun H => SqT K H a xs ∧ SqT K H b ys) (YPair (fun i => xs[i]?) (fun i => ys[i]?)) :=
  ⟨fun i H hi q => ⟨xs, ys, xs[i]'(by omega), ys[i]'(by omega), q.1, q.2, List.getElem?_eq_getElem _, List.getElem?_eq_getElem _⟩, fun H q => ⟨xs, ys, q.1, q.2, by omega⟩, fun i H v H' hi q y => by
    obtain ⟨T, x, z, h1, h2, h3, h4, h5⟩ := y
    exact ⟨T, x, z, h1, h2, h3, h4 xs q.1, h5 ys q.2⟩⟩
theorem cutV_tail {xs : List V} (h : 1 ≤ xs.length) : cutV xs (some 1) none = xs.drop 1 := by
  unfold cutV
  have e : HT.sIx xs.length 0 (some 1) = 1 := by
    have := HT.sIx_nat xs.length 0 1
    rw [Nat.min_eq_left h] at this
    exact this
  rw [e, HT.sIx_none, List.take_of_length_le (by rw [List.length_drop]; omega)]
/-- zip(row, row[1:]) -/
theorem en_zipRow {K : PySem.W.Frag} {σ : L2.St} {H : Hp} {te : TE} {p : Addr} {xs : List V} (h : Ev te σ H (.ref p)) (hs : SqT K H p xs) (hx : 1 ≤ xs.length) :
    EvIN (RZ.iZipA K (tCons te (tCons (tSl (rSlA K) te (tPart (tC (.int 1))) tNoPart) tNil))) σ H (xs.length - 1) (YPair (fun i => xs[i]?) (fun i => (xs.drop 1)[i]?)) := fun H0 e R q =>
  h H0 e _ fun H1 e1 => h H1 (e.trans e1) _ fun H2 e2 => ⟨(1 : Int), rfl, by
    have e02 := (e.trans e1).trans e2
    refine ⟨p, xs, rfl, ex_t e02 hs, fun hc => ?_, fun _ t ht => ?_⟩
    · have : HT.sIx xs.length 0 (some 1) = 1 := by
        have := HT.sIx_nat xs.length 0 1
        rw [Nat.min_eq_left hx] at this
        exact this
      rw [this] at hc
      cases hc.1
    · rw [cutV_tail hx]
      have e3 : Ex H2 (upd H2 t (.tup (xs.drop 1))) := Ex.new ht
      refine ⟨p, t, xs, xs.drop 1, rfl, .inr ⟨ex_t (e02.trans e3) hs, .inl (.inl upd_same), q _ _ _ ((e1.trans e2).trans e3) (walk_zipT (by rw [List.length_drop]; omega)) fun H4 e4 => ⟨ex_t ((e02.trans e3).trans e4) hs, .inl (.inl (e4 _ _ upd_same))⟩⟩⟩⟩
theorem rv_le {i j : Int} {H : Hp} (h : i ≤ j) : RV (rI0 fun i j => .bl (decide (i ≤ j))) (.int i) (.int j) H (.bl true) := fun H1 _ Q q => ⟨i, j, rfl, rfl, by
  show Q (.bl (decide (i ≤ j))) H1
  rw [decide_eq_true h]
  exact q H1 (Ex.refl H1)⟩
theorem letters_all : cs ("abcdefghijklmnopqrstuvwxyz" : Str) = (List.range 26).map (· + 97) := by decide +kernel
theorem letters_pt : cs (("abcdefghijklmnopqrstuvwxyz" : Str) ++ ".") = (List.range 26).map (· + 97) ++ [46] := by decide +kernel
theorem letter_in {c : Nat} (h : 97 ≤ c ∧ c ≤ 122) : c ∈ (List.range 26).map (· + 97) := List.mem_map.mpr ⟨c - 97, List.mem_range.mpr (by omega), by show c - 97 + 97 = c; omega⟩
theorem cs_len (x : Str) : (cs x).length = x.length := Array.length_toList
theorem all_true {α : Type} {l : List α} {p : α → Bool} (h : ∀ a ∈ l, p a = true) : l.all p = true := List.all_eq_true.mpr h
theorem strOk_of {x : Str} (h : ∀ c ∈ cs x, 97 ≤ c ∧ c ≤ 122) : PyData.strOk x = true := by
  unfold PyData.strOk
  rw [Array.all_eq_true']
  intro c hc
  have := h c (Array.mem_toList_iff.mpr hc)
  rw [decide_eq_true_iff]
  omega
section
variable {P : Program} {w : World} {K : PySem.W.Frag} {mg : Str → Option Value} {base : Heap} {C CN : Addr}
def gNames : List V → Hp → V → Prop := fun vs H z => ∃ (nT : Addr) (h : Hs), vs = [.ref nT] ∧ FT H nT (h.names.map V.str) ∧ h.Fine ∧ z = .bl true
theorem scNames : FnScope ["row", "name", "one", "other"] ["row"] (defScope sNames) := ⟨rfl, rfl, rfl, by decide +kernel, rfl, by decide +kernel, by decide +kernel⟩
theorem ok_names (D : DefAt K mg "are_names" sNames) (T : Tx K mg) (F : Df P w K mg base CX0 1 "is_text" (spV gText)) : Df P w K mg base CX0 2 "are_names" (spV gNames) := by
  refine D.ok scNames (fun _ _ _ _ _ _ us hl => match us, hl with | [_], _ => rfl) (fun vs H Q E h => ?_) (fun f cdv A outer s H vs Q E hr h => ?_)
  · obtain ⟨z, ⟨nT, h, rfl, _⟩, _⟩ := h
    rfl
  · obtain ⟨z, ⟨nT, h, rfl, hn, W, rfl⟩, kk⟩ := h
    refine ⟨_, pss_cons (ps_if (PW.pt (pw_or (pt_not (pt_chain op_le op_le pe_int (pe_callB call_len_seq (by rfl) T.len PySem.boot_len (pa_cons (pv 0) pa_nil)) (pe_gi (by rfl) T.maxNames)))
        (pw_or1 (pt_not (pt_val (pe_callB (cr_all rfl) (by rfl) T.all boot_all (pa_cons (pe_lc (own := [("name", 1)]) (g := gName 1) (te := tCl (spV gText) E0 (tCons (tVar 1) (tCons (tC (.str "abcdefghijklmnopqrstuvwxyz")) tNil))) (tt := tYes) rfl scNames.nd (pi_tup (pv 0)) (blkOk_by (N := ["row", "name", "one", "other"]) (sc := defScope sNames) (by decide +kernel))
          (fun _ _ _ _ _ => pg_name (i := 1) scNames.nd rfl (Or.inl rfl)) (fun _ _ _ _ _ => pts_nil) (fun _ _ _ _ _ => pe_df F hr (by rfl) pass0 (pa_cons (pv 1) (pa_cons (pe_gs (by rfl) T.letters) pa_nil)))) pa_nil)))))))
        (pss_one (ps_ret pe_bl)) pss_nil)
      (pss_one (ps_ret (pe_callB (cr_all rfl) (by rfl) T.all boot_all (pa_cons (pe_lc (own := [("one", 2), ("other", 3)]) (g := gTup K 2 (gCons (gName 2) (gCons (gName 3) gNil))) (tt := tYes) rfl scNames.nd
        (RZ.pi_zipA (by rfl) T.zip (pa_cons (pv 0) (pa_cons (pe_slice sl_tupA (pv 0) (po_some pe_int) po_none) pa_nil))) (blkOk_by (N := ["row", "name", "one", "other"]) (sc := defScope sNames) (by decide +kernel))
          (fun _ _ _ _ _ => pg_tup rfl (pgs_cons (pg_name (i := 2) scNames.nd rfl (Or.inl rfl)) (pgs_cons (pg_name (i := 3) scNames.nd rfl (Or.inl rfl)) pgs_nil))) (fun _ _ _ _ _ => pts_nil) (fun _ _ _ _ _ => pe_cmpR op_lt_str (pv 2) (pv 3) (nomark _))) pa_nil)))), ?_⟩
    have hl1 : 1 ≤ h.names.length := W.ok.l0
    have hl4 : h.names.length ≤ 4 := W.ok.l1
    have hml : (h.names.map V.str).length = h.names.length := List.length_map ..
    refine q_when (b := false) (et_or (a := false) (b := false) (et_not (a := true) (et_test (ev_is (ev_chain (a := true) (b := true) ev_c (ev_lenT (ev_var rfl) (FT.sq hn)) (rv_le (by omega)) ev_c (rv_le (by omega))) rfl)))
      (fun _ => et_not (a := true) (et_is (et_B (ev_all (bs := h.names.map fun _ => true) (el_lstM (l := h.names) (by rw [← hml]; exact ei_tup (ev_var rfl) (FT.sq hn)) (by omega) (fun _ => .bl true) ?_) fun us H1 hu => ?_)) ?_))) (fun hb => by cases hb) (fun _ H1 e1 => ?_)
    · rintro i x HA' u HA hx eA ⟨rfl, hu⟩
      rw [List.getElem?_map, hx] at hu
      obtain rfl := Option.some.inj hu
      have xm := List.mem_of_getElem? hx
      have x8 := W.ok.nx x xm
      refine ⟨Ex.refl _, [some (.ref nT), some (.str x), none, none], rfl, fun Kk z => z _ (Ex.refl _), et_yes, fun _ => Evl_g (ev_clV (ea_cons (ev_var rfl) (ea_cons ev_c ea_nil)) (spV_g fun H3 e3 => ⟨x, _, rfl, by omega, ?_⟩))⟩
      rw [decide_eq_true x8, all_true (fun c hc => decide_eq_true (by rw [letters_all]; exact letter_in (W.nl x xm c hc)))]
      rfl
    · rw [hu, List.map_map]
      rfl
    · rw [all_map_bl]
      exact all_true fun _ _ => rfl
    · have hzl : (h.names.zip (h.names.drop 1)).length = h.names.length - 1 := by
        rw [List.length_zip, List.length_drop]
        omega
      refine s_ret (ev_is (ev_all (bs := (h.names.zip (h.names.drop 1)).map fun _ => true) (el_newM (l := h.names.zip (h.names.drop 1)) (by rw [hzl, ← hml]; exact en_zipRow (ev_var rfl) (FT.sq (hn.ex e1)) (by omega)) (by omega) (fun _ => .bl true) ?_) fun us H2 hu => ?_) ?_) fun H2 e2 => kk H2 (e1.trans e2)
      · rintro i ⟨a, b⟩ HA u HB hab eA ⟨T', x, y, rfl, hT, rfl, hx, hy⟩
        obtain ⟨ha, hb⟩ := List.getElem?_zip_eq_some.mp hab
        have hx : (h.names.map V.str)[i]? = some x := hx
        have hy : ((h.names.map V.str).drop 1)[i]? = some y := hy
        rw [List.getElem?_map, ha] at hx
        rw [← List.map_drop, List.getElem?_map, hb] at hy
        obtain rfl := Option.some.inj hx
        obtain rfl := Option.some.inj hy
        have hlt : cs a < cs b := by
          rw [List.getElem?_drop] at hb
          obtain ⟨h1, h1'⟩ := List.getElem?_eq_some_iff.mp ha
          obtain ⟨h2, h2'⟩ := List.getElem?_eq_some_iff.mp hb
          have h1' : h.names[i] = a := h1'
          have h2' : h.names[1 + i] = b := h2'
          rw [← h1', ← h2']
          exact List.pairwise_iff_getElem.mp W.asc i (1 + i) h1 h2 (by omega)
        exact ⟨Ex.new hT, [some (.ref nT), none, some (.str a), some (.str b)], rfl, fun Kk z => g_two (.inl (.inl upd_same)) (z _ (Ex.refl _)), et_yes, fun _ => Evl_g (ev_op (ev_var rfl) (ev_var rfl) fun H3 e3 Q q => ⟨a, b, rfl, rfl, by rw [decide_eq_true (show a.cps.toList < b.cps.toList from hlt)]; exact q H3 (Ex.refl _)⟩)⟩
      · rw [hu, List.map_map]
        rfl
      · rw [all_map_bl, all_true fun _ _ => rfl]

def gPlates : List V → Hp → V → Prop := fun vs H z => ∃ (sT : Addr) (h : Hs), vs = [.ref sT, .int (h.names.length : Nat)] ∧ H sT = some (.tup (h.signs.map V.str)) ∧ h.Fine ∧ z = .bl true
theorem scPlates : FnScope ["row", "count", "plate"] ["row", "count"] (defScope sPlates) := ⟨rfl, rfl, rfl, by decide +kernel, rfl, by decide +kernel, by decide +kernel⟩
theorem ok_plates (D : DefAt K mg "are_plates" sPlates) (T : Tx K mg) (F : Df P w K mg base CX0 1 "is_text" (spV gText)) : Df P w K mg base CX0 2 "are_plates" (spV gPlates) := by
  refine D.ok scPlates (fun _ _ _ _ _ _ us hl => match us, hl with | [_, _], _ => rfl) (fun vs H Q E h => ?_) (fun f cdv A outer s H vs Q E hr h => ?_)
  · obtain ⟨z, ⟨nT, h, rfl, _⟩, _⟩ := h
    rfl
  · obtain ⟨z, ⟨sT, h, rfl, hn, W, rfl⟩, kk⟩ := h
    refine ⟨_, pss_cons (ps_if (pt_not (pt_chain op_le op_le (pv 1) (pe_callB call_len_seq (by rfl) T.len PySem.boot_len (pa_cons (pv 0) pa_nil)) (pe_gi (by rfl) T.maxBoxes))) (pss_one (ps_ret pe_bl)) pss_nil)
      (pss_one (ps_ret (pe_callB (cr_all rfl) (by rfl) T.all boot_all (pa_cons (pe_lc (own := [("plate", 2)]) (g := gName 2) (te := tOrV (tOp rEq (tVar 2) (tC (.str ""))) (tCl (spV gText) E0 (tCons (tVar 2) (tCons (tOp (fun x y H Q => ∃ i j, x = .str i ∧ y = .str j ∧ i.length + j.length ≤ sizeLine ∧ Q (.str (i ++ j)) H) (tC (.str "abcdefghijklmnopqrstuvwxyz")) (tC (.str "."))) tNil)))) (tt := tYes) rfl scPlates.nd (pi_tup (pv 0)) (blkOk_by (N := ["row", "count", "plate"]) (sc := defScope sPlates) (by decide +kernel))
          (fun _ _ _ _ _ => pg_name (i := 2) scPlates.nd rfl (Or.inl rfl)) (fun _ _ _ _ _ => pts_nil) (fun _ _ _ _ _ => pe_or (pe_cmpR op_eq (pv 2) pe_str (nomark _)) (pe_one (pe_df F hr (by rfl) pass0 (pa_cons (pv 2) (pa_cons (pe_op op_add_str (pe_gs (by rfl) T.letters) (pe_gs (by rfl) T.point)) pa_nil)))))) pa_nil)))), ?_⟩
    have hl2 : h.names.length ≤ h.signs.length := W.ok.l2
    have hl3 : h.signs.length ≤ 5 := W.ok.l3
    have hml : (h.signs.map V.str).length = h.signs.length := List.length_map ..
    refine q_when (b := false) (et_not (a := true) (et_test (ev_is (ev_chain (a := true) (b := true) (ev_var rfl) (ev_lenT (ev_var rfl) (.inl (.inl hn))) (rv_le (by omega)) ev_c (rv_le (by omega))) rfl))) (fun hb => by cases hb) (fun _ H1 e1 => ?_)
    refine s_ret (ev_is (ev_all (bs := h.signs.map fun _ => true) (el_lstM (l := h.signs) (by rw [← hml]; exact ei_tup (ev_var rfl) (.inl (.inl (e1 _ _ hn)))) (by omega) (fun _ => .bl true) ?_) fun us H2 hu => ?_) ?_) fun H2 e2 => kk H2 (e1.trans e2)
    · rintro i x HA' u HA hx eA ⟨rfl, hu⟩
      rw [List.getElem?_map, hx] at hu
      obtain rfl := Option.some.inj hu
      have xm := List.mem_of_getElem? hx
      have x8 := W.ok.sx x xm
      have hx0 := W.sl x xm
      refine ⟨Ex.refl _, [some (.ref sT), some (.int (h.names.length : Nat)), some (.str x)], rfl, fun Kk z => z _ (Ex.refl _), et_yes, fun _ => Evl_g ?_⟩
      by_cases hz : V.str x = V.str ""
      · exact ev_orV (a := true) (b := true) (ev_is (ev_op (ev_var rfl) ev_c (rv_eq rfl)) (by rw [decide_eq_true hz])) fun q => by cases q
      · refine ev_orV (a := false) (b := true) (ev_is (ev_op (ev_var rfl) ev_c (rv_eq rfl)) (by rw [decide_eq_false hz])) fun _ => ev_clV (ea_cons (ev_var rfl) (ea_cons (ev_op ev_c ev_c fun H3 e3 Q q => ⟨_, _, rfl, rfl, sz_of (by decide +kernel), q H3 (Ex.refl _)⟩) ea_nil)) (spV_g fun H3 e3 => ⟨x, _, rfl, by omega, ?_⟩)
        have hne : ¬ cs x = [] := fun q => hz (str_nil.mpr q)
        have hall : ∀ c ∈ cs x, c = 46 ∨ (97 ≤ c ∧ c ≤ 122) := hx0.resolve_left hne
        have hpos : 1 ≤ x.length := by
          rw [← cs_len]
          cases hq : cs x with
          | nil => exact absurd hq hne
          | cons _ _ => simp
        rw [decide_eq_true ⟨hpos, x8⟩, all_true (fun c hc => decide_eq_true (by
          rw [letters_pt]
          rcases hall c hc with q | q
          · exact List.mem_append_right _ (by rw [q]; exact List.mem_cons_self ..)
          · exact List.mem_append_left _ (letter_in q)))]
        rfl
    · rw [hu, List.map_map]
      rfl
    · rw [all_map_bl, all_true fun _ _ => rfl]

def gManner : List V → Hp → V → Prop := fun vs H z => ∃ (v : V) (m : Man) (n b : Nat), vs = [v, .int (n : Int), .int (b : Int)] ∧ ManAt H v m ∧ ManOk n b m ∧ n ≤ 4 ∧ z = .bl true
theorem scManner : FnScope ["value", "names", "boxes", "box"] ["value", "names", "boxes"] (defScope sManner) := ⟨rfl, rfl, rfl, by decide +kernel, rfl, by decide +kernel, by decide +kernel⟩
theorem ok_manner (D : DefAt K mg "is_manner" sManner) (T : Tx K mg) (F : Df P w K mg base CX0 1 "is_number" (spV gNumber)) : Df P w K mg base CX0 2 "is_manner" (spV gManner) := by
  refine D.ok scManner (fun _ _ _ _ _ _ us hl => match us, hl with | [_, _, _], _ => rfl) (fun vs H Q E h => ?_) (fun f cdv A outer s H vs Q E hr h => ?_)
  · obtain ⟨z, ⟨v, m, n, b, rfl, _⟩, _⟩ := h
    rfl
  · obtain ⟨z, ⟨v, m, n, b, rfl, hm, hok, hn, rfl⟩, kk⟩ := h
    refine ⟨_, pss_cons (ps_if (pt_not (pt_val (pe_callB call_isi (by rfl) T.isi boot_isinstance (pa_cons (pv 0) (pa_cons (pe_bltn (by rfl) T.tuple boot_tuple (v := .ty "tuple") rfl) pa_nil))))) (pss_one (ps_ret (pe_cmpR op_in_seq (pv 0) (pe_tup (pa_cons (pe_gs (by rfl) T.back) (pa_cons (pe_gs (by rfl) T.keep) pa_nil))) rfl))) pss_nil)
      (pss_cons (ps_if (pt_cmpR op_ne (pe_callB call_len_seq (by rfl) T.len PySem.boot_len (pa_cons (pv 0) pa_nil)) (pv 1) (nomark _)) (pss_one (ps_ret pe_bl)) pss_nil)
      (pss_one (ps_ret (pe_callB (cr_all rfl) (by rfl) T.all boot_all (pa_cons (pe_lc (own := [("box", 3)]) (g := gName 3) (te := tOrV (tOp (fun x y H Q => y = .non ∧ Q (.bl (decide (x = .non))) H) (tVar 3) (tC .non)) (tCl (spV gNumber) E0 (tCons (tVar 3) (tCons (tC (.int 0)) (tCons (tOp (rI0 fun i j => .int (i - j)) (tVar 2) (tC (.int 1))) tNil))))) (tt := tYes) rfl scManner.nd (pi_tup (pv 0)) (blkOk_by (N := ["value", "names", "boxes", "box"]) (sc := defScope sManner) (by decide +kernel))
          (fun _ _ _ _ _ => pg_name (i := 3) scManner.nd rfl (Or.inl rfl)) (fun _ _ _ _ _ => pts_nil) (fun _ _ _ _ _ => pe_or (pe_cmpR op_isN (pv 3) pe_non (nomark _)) (pe_one (pe_df F hr (by rfl) pass0 (pa_cons (pv 3) (pa_cons pe_int (pa_cons (pe_op op_sub (pv 2) pe_int) pa_nil))))))) pa_nil))))), ?_⟩
    cases m with
    | back =>
      obtain rfl : v = .str "back" := hm
      refine q_when (b := true) (et_not (a := false) (et_B (ev_isi (ev_var rfl) ev_c (ClsV.ty _) (fun _ _ => TyX.base (TyOf.str _)) (kit_ty (by decide +kernel))))) (fun _ H1 e1 => ?_) (fun hb => by cases hb)
      exact s_ret (ev_is (ev_inU (ev_var rfl) (eu_tup (ea_cons ev_c (ea_cons ev_c ea_nil)) (by show 2 ≤ 100000; decide)) rfl rfl) (by decide +kernel)) fun H2 e2 => kk H2 (e1.trans e2)
    | keep =>
      obtain rfl : v = .str "keep" := hm
      refine q_when (b := true) (et_not (a := false) (et_B (ev_isi (ev_var rfl) ev_c (ClsV.ty _) (fun _ _ => TyX.base (TyOf.str _)) (kit_ty (by decide +kernel))))) (fun _ H1 e1 => ?_) (fun hb => by cases hb)
      exact s_ret (ev_is (ev_inU (ev_var rfl) (eu_tup (ea_cons ev_c (ea_cons ev_c ea_nil)) (by show 2 ≤ 100000; decide)) rfl rfl) (by decide +kernel)) fun H2 e2 => kk H2 (e1.trans e2)
    | guess g =>
      obtain ⟨a, rfl, ha⟩ := hm
      obtain ⟨hgl, hgo⟩ := hok g rfl
      have hml : (g.map ob).length = g.length := List.length_map ..
      refine q_when (b := false) (et_not (a := true) (et_B (ev_isi (ev_var rfl) ev_c (ClsV.ty _) (fun H1 e1 => TyX.base (TyOf.tup (e1 _ _ ha))) (kit_ty (by decide +kernel))))) (fun hb => by cases hb) (fun _ H1 e1 => ?_)
      refine q_when (b := false) (et_test (ev_is (ev_op (ev_lenT (ev_var rfl) (.inl (.inl (e1 _ _ ha)))) (ev_var rfl) (rv_ne rfl)) (by rw [hml, hgl, decide_eq_true rfl]; rfl))) (fun hb => by cases hb) (fun _ H2 e2 => ?_)
      refine s_ret (ev_is (ev_all (bs := g.map fun _ => true) (el_lstM (l := g) (by rw [← hml]; exact ei_tup (ev_var rfl) (.inl (.inl (e2 _ _ (e1 _ _ ha))))) (by omega) (fun _ => .bl true) ?_) fun us H3 hu => ?_) ?_) fun H3 e3 => kk H3 ((e1.trans e2).trans e3)
      · rintro i o HA' u HA hx eA ⟨rfl, hu⟩
        rw [List.getElem?_map, hx] at hu
        obtain rfl := Option.some.inj hu
        have om := List.mem_of_getElem? hx
        refine ⟨Ex.refl _, [some (.ref a), some (.int (n : Int)), some (.int (b : Int)), some (ob o)], rfl, fun Kk z => z _ (Ex.refl _), et_yes, fun _ => Evl_g ?_⟩
        cases o with
        | none => exact ev_orV (a := true) (b := true) (ev_is (ev_op (ev_var rfl) ev_c rv_isN) rfl) fun q => by cases q
        | some c =>
          have hc := hgo _ om c rfl
          refine ev_orV (a := false) (b := true) (ev_is (ev_op (ev_var rfl) ev_c rv_isN) rfl) fun _ => ev_clV (ea_cons (ev_var rfl) (ea_cons ev_c (ea_cons (ev_op (ev_var rfl) ev_c rv_I0) ea_nil))) (spV_g fun H4 e4 => ⟨(c : Int), 0, _, rfl, ?_⟩)
          rw [decide_eq_true (show (0 : Int) ≤ (c : Int) by omega), decide_eq_true (show (c : Int) ≤ (b : Int) - 1 by omega)]
          rfl
      · rw [hu, List.map_map]
        rfl
      · rw [all_map_bl, all_true fun _ _ => rfl]

def gManners : List V → Hp → V → Prop := fun vs H z => ∃ (d nT : Addr) (h : Hs), vs = [.ref d, .ref nT, .int (h.n : Nat)] ∧ FT H nT (h.names.map V.str) ∧ WaysAt H d h.names h.ways ∧ h.Fine ∧ z = .bl true
theorem scManners : FnScope ["row", "names", "boxes", "name"] ["row", "names", "boxes"] (defScope sManners) := ⟨rfl, rfl, rfl, by decide +kernel, rfl, by decide +kernel, by decide +kernel⟩
theorem ok_manners (D : DefAt K mg "are_manners" sManners) (T : Tx K mg) (F : Df P w K mg base CX0 2 "is_manner" (spV gManner)) : Df P w K mg base CX0 3 "are_manners" (spV gManners) := by
  refine D.ok scManners (fun _ _ _ _ _ _ us hl => match us, hl with | [_, _, _], _ => rfl) (fun vs H Q E h => ?_) (fun f cdv A outer s H vs Q E hr h => ?_)
  · obtain ⟨z, ⟨d, nT, h, rfl, _⟩, _⟩ := h
    rfl
  · obtain ⟨z, ⟨d, nT, h, rfl, hn, hw, W, rfl⟩, kk⟩ := h
    refine ⟨_, pss_cons (ps_if (pt_cmpR (op_neD hr.units) (pe_callTy call_tuple_of (by rfl) T.tuple boot_tuple (pa_cons (pe_callB (call_sortedD rfl) (by rfl) T.sorted boot_sorted (pa_cons (pv 0) pa_nil)) pa_nil)) (pv 1) (nomark _)) (pss_one (ps_ret pe_bl)) pss_nil)
      (pss_one (ps_ret (pe_callB (cr_all rfl) (by rfl) T.all boot_all (pa_cons (pe_lc (own := [("name", 3)]) (g := gName 3) (te := tCl (spV gManner) E0 (tCons (tDGet (tVar 0) (tVar 3)) (tCons (tCB (rLenS K) (tCons (tVar 1) tNil)) (tCons (tVar 2) tNil)))) (tt := tYes) rfl scManners.nd (pi_tup (pv 1)) (blkOk_by (N := ["row", "names", "boxes", "name"]) (sc := defScope sManners) (by decide +kernel))
          (fun _ _ _ _ _ => pg_name (i := 3) scManners.nd rfl (Or.inl rfl)) (fun _ _ _ _ _ => pts_nil) (fun _ _ _ _ _ => pe_df F hr (by rfl) pass0 (pa_cons (pe_dget (hu_of hr) (pv 0) (pv 3) (fun _ _ => rfl)) (pa_cons (pe_callB call_len_seq (by rfl) T.len PySem.boot_len (pa_cons (pv 1) pa_nil)) (pa_cons (pv 2) pa_nil))))) pa_nil)))), ?_⟩
    obtain ⟨vs, hd, hvs⟩ := id hw
    have hvl : vs.length = h.names.length := by rw [paired_len hvs, W.ok.wl]
    have hl4 : h.names.length ≤ 4 := W.ok.l1
    have hml : (h.names.map V.str).length = h.names.length := List.length_map ..
    have hsok : ∀ x ∈ h.names, PyData.strOk x = true := fun x hx => strOk_of (W.nl x hx)
    have hkeys : (kvW h.names vs).map (·.1) = h.names.map Sum.inr := by
      unfold kvW
      exact List.map_fst_zip (by rw [List.length_map, hvl]; exact Nat.le_refl _)
    refine q_when (b := false) (et_test (fun H1 e1 Q q => ⟨_, rfl, d, kvW h.names vs, h.names, rfl, .inl (e1 _ _ hd), hkeys, by omega, fun ys p perm srt hp => ⟨p, _, rfl, .inl ⟨.inl (.inl upd_same), fun l hl => ⟨_, rfl, ?_⟩⟩⟩⟩)) (fun hb => by cases hb) (fun _ H1 e1 => ?_)
    · have hys := sorted_same perm (sorted_pw srt) W.asc
      subst hys
      have e2 : Ex H1 (upd H1 p (.lst (h.names.map V.str))) := Ex.new hp
      have e3 : Ex (upd H1 p (.lst (h.names.map V.str))) (upd (upd H1 p (.lst (h.names.map V.str))) l (.tup (h.names.map V.str))) := Ex.new hl
      refine ⟨pdTStrs h.names, pdTStrs h.names, dp_tstrs (.inl (.inl upd_same)), dp_tstrs (FT.sq (hn.ex ((e1.trans e2).trans e3))), shp_TSs hsok, shp_TSs hsok, ?_⟩
      rw [eqv_TSs, decide_eq_true rfl]
      exact q _ (e2.trans e3)
    · refine s_ret (ev_is (ev_all (bs := h.names.map fun _ => true) (el_lstM (l := h.names) (by rw [← hml]; exact ei_tup (ev_var rfl) (FT.sq (hn.ex e1))) (by omega) (fun _ => .bl true) ?_) fun us H2 hu => ?_) ?_) fun H2 e2 => kk H2 (e1.trans e2)
      · rintro i x HA' u HA hx eA ⟨rfl, hu⟩
        rw [List.getElem?_map, hx] at hu
        obtain rfl := Option.some.inj hu
        have hin := (List.getElem?_eq_some_iff.mp hx).1
        have hiw : i < h.ways.length := by rw [W.ok.wl]; exact hin
        have hmi : h.ways[i]? = some h.ways[i] := List.getElem?_eq_getElem hiw
        obtain ⟨v, hv, hmv⟩ := paired_at2 hvs hmi
        have eH := e1.trans eA
        refine ⟨Ex.refl _, [some (.ref d), some (.ref nT), some (.int (h.n : Nat)), some (.str x)], rfl, fun Kk z => z _ (Ex.refl _), et_yes, fun _ => Evl_g (ev_clV (ea_cons (ev_dget (k := Sum.inr x) (ev_var rfl) (ev_var rfl) (eH _ _ hd) (kvW_val W.ok.nd hx hv)) (ea_cons (ev_is (ev_lenT (ev_var rfl) (FT.sq (hn.ex eH))) (by rw [hml])) (ea_cons (ev_var rfl) ea_nil))) (spV_g fun H3 e3 => ⟨v, h.ways[i], h.names.length, h.n, rfl, hmv.ex (eH.trans e3), fun g hg => ?_, hl4, rfl⟩))⟩
        have hgi : h.ways[i]? = some (.guess g) := by rw [hmi, hg]
        refine ⟨W.ok.gl i g hgi, fun o ho b hb => ?_⟩
        subst hb
        obtain ⟨j, hj⟩ := List.getElem?_of_mem ho
        exact W.ok.gs i g hgi j b hj
      · rw [hu, List.map_map]
        rfl
      · rw [all_map_bl, all_true fun _ _ => rfl]
end
end Lp

set_option Elab.async false
set_option linter.all false
set_option maxRecDepth 100000
set_option maxHeartbeats 4000000
/-! Lostplates: the walks of House.__init__, _law_built. -/
namespace Lp
open PySem PySem.Spec PyProof.Rows L2
open Evl
section
variable {P : Program} {w : World} {K : PySem.W.Frag} {mg : Str → Option Value} {base : Heap} {C CN : Addr}
def spInit (C : Addr) : Sp := fun vs H Q _ => ∃ (x dx nT sT d : Addr) (h : Hs) (H0 : Hp), vs = [.ref x, .ref nT, .ref sT, .ref d] ∧ H0 x = none ∧ H0 dx = none ∧ dx ≠ x ∧ H = upd (upd H0 dx (.own x)) x (.ins C dx []) ∧
  FT H0 nT (h.names.map V.str) ∧ H0 sT = some (.tup (h.signs.map V.str)) ∧ WaysAt H0 d h.names h.ways ∧ h.Fine ∧ ∀ H', Ex H0 H' → HouseAt C H' x h → Q .non H'
theorem scInit : FnScope ["self", "names", "plates", "manners", "name"] ["self", "names", "plates", "manners"] (defScope sInit) := ⟨rfl, rfl, rfl, by decide +kernel, rfl, by decide +kernel, by decide +kernel⟩
theorem ok_init {f : Addr} {fd : FuncData} (D : FunD K "__init__" "House.__init__" (defArgs sInit) (defBody sInit) (defScope sInit) [] [] f fd) (T : Tx K mg) (Hh : Hc K mg C) (F1 : Df P w K mg base CX0 2 "are_names" (spV gNames)) (F2 : Df P w K mg base CX0 2 "are_plates" (spV gPlates)) (F3 : Df P w K mg base CX0 3 "are_manners" (spV gManners)) :
    FnR P w K mg base CX0 4 f (spInit C) := by
  have G : FnOk P w K mg base CX0 4 f fd ["self", "names", "plates", "manners"] (spInit C) := by
    refine D.ok scInit (fun vs H Q E h => ?_) (fun cdv A outer s H vs Q E hr h => ?_)
    · obtain ⟨x, dx, nT, sT, d, h, H0, rfl, _⟩ := h
      rfl
    · obtain ⟨x, dx, nT, sT, d, h, H0, rfl, x0, d0, dne, hH, hn, hs, hw, W, kk⟩ := h
      obtain ⟨p0, S0⟩ := Hh.s0
      obtain ⟨p1, S1⟩ := Hh.s1
      obtain ⟨p2, S2⟩ := Hh.s2
      have hr2 : Room 2 _ := hr.mono (by decide)
      refine ⟨_, PSs.nox (pss_cons (ps_if (pt_not (pt_val (pe_df F1 hr2 (by rfl) pass0 (pa_cons (pv 1) pa_nil)))) pss_never pss_nil)
        (pss_cons (ps_if (pt_not (pt_val (pe_df F2 hr2 (by rfl) pass0 (pa_cons (pv 2) (pa_cons (pe_callB call_len_seq (by rfl) T.len PySem.boot_len (pa_cons (pv 1) pa_nil)) pa_nil))))) pss_never pss_nil)
        (pss_cons (ps_if (pt_not (pt_val (pe_df F3 hr (by rfl) pass0 (pa_cons (pv 3) (pa_cons (pv 1) (pa_cons (pe_callB call_len_seq (by rfl) T.len PySem.boot_len (pa_cons (pv 2) pa_nil)) pa_nil)))))) pss_never pss_nil)
        (pss_cons (ps_slot Hh.cl S0 (pv 0) (pv 1)) (pss_cons (ps_slot Hh.cl S1 (pv 0) (pv 2))
        (pss_one (ps_slot Hh.cl S2 (pv 0) (pe_dc (own := [("name", 4)]) (g := gName 4) (tk := tVar 4) (tv := tDGet (tVar 3) (tVar 4)) (tt := tYes) rfl scInit.nd (pi_tup (pv 1)) (blkOk_by (N := ["self", "names", "plates", "manners", "name"]) (sc := defScope sInit) (by decide +kernel))
          (fun _ _ _ _ _ => pg_name (i := 4) scInit.nd rfl (Or.inl rfl)) (fun _ _ _ _ _ => pts_nil) (fun _ _ _ _ _ => pv 4) (fun _ _ _ _ _ => pe_dget (hu_of hr) (pv 3) (pv 4) (fun _ _ => rfl)))))))))), ?_⟩
      have eH : Ex H0 H := by
        rw [hH]
        exact (Ex.new d0).trans (Ex.new (by rw [upd_ne (Ne.symm dne)]; exact x0))
      have hsl : SlAt H x C dx [] := by
        rw [hH]
        exact SlAt.made dne
      have hml : (h.names.map V.str).length = h.names.length := List.length_map ..
      have hmz : (h.signs.map V.str).length = h.signs.length := List.length_map ..
      refine q_when (b := false) (et_not (a := true) (et_B (ev_clV (ea_cons (ev_var rfl) ea_nil) (spV_g fun H1 e1 => ⟨nT, h, rfl, hn.ex (eH.trans e1), W, rfl⟩)))) (fun hb => by cases hb) (fun _ H1 e1 => ?_)
      have e01 := eH.trans e1
      refine q_when (b := false) (et_not (a := true) (et_B (ev_clV (ea_cons (ev_var rfl) (ea_cons (ev_is (ev_lenT (ev_var rfl) (FT.sq (hn.ex e01))) (by rw [hml])) ea_nil)) (spV_g fun H2 e2 => ⟨sT, h, rfl, e2 _ _ (e01 _ _ hs), W, rfl⟩)))) (fun hb => by cases hb) (fun _ H2 e2 => ?_)
      have e02 := e01.trans e2
      refine q_when (b := false) (et_not (a := true) (et_B (ev_clV (ea_cons (ev_var rfl) (ea_cons (ev_var rfl) (ea_cons (ev_is (ev_lenT (ev_var rfl) (.inl (.inl (e02 _ _ hs)))) (by rw [hmz]; rfl)) ea_nil))) (spV_g fun H3 e3 => ⟨d, nT, h, rfl, hn.ex (e02.trans e3), hw.ex (e02.trans e3), W, rfl⟩)))) (fun hb => by cases hb) (fun _ H3 e3 => ?_)
      have e03 := e02.trans e3
      have hsl3 := slAt_ex ((e1.trans e2).trans e3) hsl
      refine ⟨_, rfl, _, rfl, x, dx, [], rfl, hsl3, ?_⟩
      have hsl4 := hsl3.here (ws := putS 0 (.ref nT) [])
      have e04 := Ex.chg (o := SlO C dx x (putS 0 (.ref nT) [])) e03 x0
      refine ⟨_, rfl, _, rfl, x, dx, _, rfl, hsl4, ?_⟩
      have hsl5 := hsl4.here (ws := putS 1 (.ref sT) (putS 0 (.ref nT) []))
      have e05 := Ex.chg (o := SlO C dx x (putS 1 (.ref sT) (putS 0 (.ref nT) []))) e04 x0
      generalize upd (upd H3 x (SlO C dx x (putS 0 (.ref nT) []))) x (SlO C dx x (putS 1 (.ref sT) (putS 0 (.ref nT) []))) = H5 at hsl5 e05 ⊢
      have hn5 := hn.ex e05
      obtain ⟨vs, hd5, hvs⟩ := hw.ex e05
      have hvl : vs.length = h.names.length := by rw [paired_len hvs, W.ok.wl]
      refine ⟨_, rfl, nT, rfl, ⟨_, FT.sq hn5⟩, fun g hg => dc_tup (xs := h.names.map V.str) (fun i H' => Ex H5 H' ∧ H' g = some (.dK (kvW (h.names.take i) (vs.take i)))) ⟨Ex.new hg, upd_same⟩ (fun i H' _ ⟨e, _⟩ => FT.sq (hn5.ex e)) ?_ ?_⟩
      · rintro i y H' hy ⟨e, hg'⟩
        rw [List.getElem?_map] at hy
        obtain ⟨z, hz, rfl⟩ := Option.map_eq_some_iff.mp hy
        have hiw : i < h.ways.length := by rw [W.ok.wl]; exact (List.getElem?_eq_some_iff.mp hz).1
        obtain ⟨v, hv, hmv⟩ := paired_at2 hvs (List.getElem?_eq_getElem hiw)
        refine ⟨rfl, et_yes (σ := [some (.ref x), some (.ref nT), some (.ref sT), some (.ref d), some (.str z)]) H' (Ex.refl _) _ fun H6 e6 => ?_⟩
        rw [if_pos rfl]
        refine ⟨_, rfl, ev_dget (td := tVar 3) (ty := tVar 4) (σ := [some (.ref x), some (.ref nT), some (.ref sT), some (.ref d), some (.str z)]) (k := Sum.inr z) (ev_var rfl) (ev_var rfl) ((e.trans e6) _ _ hd5) (kvW_val W.ok.nd hz hv) H6 (Ex.refl _) _ fun H7 e7 => ⟨_, Sum.inr z, rfl, (e6.trans e7) _ _ hg', sz_lt ?_, Ex.chg ((e.trans e6).trans e7) hg, ?_⟩⟩
        · rw [kvW_len]
          have h8 := List.length_take_le' i vs
          have h9 := W.ok.l1
          omega
        · have hvi : (vs.take i).length = i := by
            have := (List.getElem?_eq_some_iff.mp hv).1
            rw [List.length_take]
            omega
          rw [upd_same, putK_new _ (kvW_new W.ok.nd hz), take_snoc hv, kvW_snoc hz hvi]
      · rintro H' ⟨e, hg'⟩
        rw [List.length_map, List.take_length, ← hvl, List.take_length] at hg'
        have hsl6 := slAt_ex e hsl5
        refine ⟨_, rfl, x, dx, _, rfl, hsl6, ?_⟩
        refine kk _ (Ex.chg (e05.trans e) x0) ⟨dx, nT, sT, g, hsl6.here, ?_, ?_, vs, ?_, ?_⟩
        · exact hn.ex (Ex.chg (e05.trans e) x0)
        · exact (Ex.chg (e05.trans e) x0) _ _ hs
        · have hne : g ≠ x := fun q => by
            obtain ⟨_, _, h9⟩ := hsl6
            rw [← q] at h9
            rcases h9 with h9 | ⟨_, h9⟩
            · rw [hg'] at h9
              cases h9
            · rw [hg'] at h9
              cases h9
          rw [upd_ne hne]
          exact hg'
        · exact paired_mono (fun a b z => by
            have hne : ∀ {t : Addr} {us : List V}, H5 t = some (.tup us) → t ≠ x := fun ht q => by
              obtain ⟨_, _, h9⟩ := hsl5
              rw [← q] at h9
              rcases h9 with h9 | ⟨_, h9⟩
              · rw [ht] at h9
                cases h9
              · rw [ht] at h9
                cases h9
            cases b with
            | back => exact z
            | keep => exact z
            | guess gg =>
              obtain ⟨t, z1, z2⟩ := z
              refine ⟨t, z1, ?_⟩
              rw [upd_ne (hne z2)]
              exact e _ _ z2) hvs
  refine (G.raw (D.bindsN fun _ _ _ _ _ _ us hl => match us, hl with | [_, _, _, _], _ => rfl) .nil).imp fun vs H Q E h => ?_
  rw [List.append_nil]
  exact h

/-! ### _law_built -/
def gBuilt (C : Addr) : List V → Hp → (V → Hp → Prop) → Prop := fun vs H R => ∃ (p : Addr) (h : Hs) (tr : List Nat), vs = [.ref p] ∧ PlanAt H p h tr ∧ h.Fine ∧ R = fun v H' => ∃ x, v = .ref x ∧ HouseAt C H' x h
theorem scBuilt : FnScope ["_law_plan"] ["_law_plan"] (defScope sBuilt) := ⟨rfl, rfl, rfl, by decide +kernel, rfl, by decide +kernel, by decide +kernel⟩
theorem ok_built {f : Addr} (D : DefAt K mg "_law_built" sBuilt) (T : Tx K mg) (Hh : Hc K mg C) (M : Mk K C f) (F : FnR P w K mg base CX0 4 f (spInit C)) : Df P w K mg base CX0 6 "_law_built" (spG (gBuilt C)) := by
  refine D.ok scBuilt (fun _ _ _ _ _ _ us hl => match us, hl with | [_], _ => rfl) (fun vs H Q E h => ?_) (fun f cdv A outer s H vs Q E hr h => ?_)
  · obtain ⟨z, ⟨p, h, tr, rfl, _⟩, _⟩ := h
    rfl
  · obtain ⟨z, ⟨p, h, tr, rfl, hp, W, rfl⟩, kk⟩ := h
    refine ⟨_, pss_one (ps_ret (StX.pe_makeR M F hr (by rfl) Hh.mgC pass0 (pa_cons (pe_ix ix_tup (pv 0) pe_int (fun _ _ => rfl)) (pa_cons (pe_ix ix_tup (pv 0) pe_int (fun _ _ => rfl)) (pa_cons (pe_callTy call_dictD (by rfl) T.dict boot_dict (pa_cons (pe_ix ix_tup (pv 0) pe_int (fun _ _ => rfl)) pa_nil)) pa_nil))))), ?_⟩
    obtain ⟨nT, sT, wD, tT, h1, h2, h3, ⟨vs, hd, hvs⟩, h5⟩ := id hp
    refine ⟨_, rfl, p, _, 0, .ref nT, rfl, rfl, .inl (.inl h1), atI_nat (j := 0) rfl, _, rfl, p, _, 1, .ref sT, rfl, rfl, .inl (.inl h1), atI_nat (j := 1) rfl, _, rfl, p, _, 2, .ref wD, rfl, rfl, .inl (.inl h1), atI_nat (j := 2) rfl, wD, kvW h.names vs, rfl, .inl hd, fun g hg => fun x dx x0 d0 dne => ?_⟩
    have e1 : Ex H (upd H g (.dK (kvW h.names vs))) := Ex.new hg
    exact ⟨x, dx, nT, sT, g, h, upd H g (.dK (kvW h.names vs)), rfl, x0, d0, dne, rfl, h2.ex e1, e1 _ _ h3, ⟨vs, upd_same, paired_mono (fun _ _ z => z.ex e1) hvs⟩, W, fun H' e' hh => ⟨rfl, kk _ H' (e1.trans e') ⟨x, rfl, hh⟩⟩⟩
end
end Lp

set_option Elab.async false
set_option linter.all false
set_option maxRecDepth 100000
set_option maxHeartbeats 4000000
/-! Lostplates: the walk of the law's _law_notes. -/
namespace Lp
open PySem PySem.Spec PyProof.Rows L2
open Evl
abbrev sNotes : Stmt := top 63
section
variable {K : PySem.W.Frag} {rw S : Addr} {σ : L2.St} {Kn H : Hp} {te ta tb : TE} {E : XK} {G : V → Hp → Prop} {D : Ends} {tz : TS}
/-- one of a list that is no row -/
theorem er_pickL {P : List V → Hp → Prop} (ha : Ev ta σ Kn (.ref rw)) (hb : ∀ H, Run K rw S Kn H → ∀ Q : VK, (∀ l H2 xs, Fr rw H H2 → RowAt rw S H2 → l ≠ rw → H2 l = some (.lst xs) → 0 < xs.length → xs.length < 1000000 → P xs (cut rw H2) → Q (.ref l) H2) → tb σ H Q)
    (hG : ∀ xs v H1 H2, P xs H1 → v ∈ xs → Ex H1 H2 → G v H2) : EvR K rw S (tCl (spPick K) E (tCons ta (tCons tb tNil))) σ Kn G := fun H r Q q =>
  ha H r.ex _ fun H1 e1 => hb H1 (r.ex' e1) _ fun l H2 xs f2 w2 hl h2 l0 l1 hP => ⟨rw, S, l, xs, rfl, r.ne, (r.sc.ex (r.ex.trans e1)).fr f2 r.ne, w2, hl, h2, l0, l1, fun v H' hv f w => q v H' (((Fr.of e1).trans f2).trans f) w (hG xs v _ _ hP hv f.cut)⟩
theorem er_if {te' : TE} (ht : EvR K rw S te' σ Kn (fun u _ => ∃ b : Bool, u = .bl b)) (h1 : EvR K rw S ta σ Kn G) (h2 : EvR K rw S tb σ Kn G) : EvR K rw S (tIf (tTest te') ta tb) σ Kn G := fun H r Q q =>
  ht H r _ fun v H1 f w ⟨b, hb⟩ => ⟨b, hb, by
    have r1 := r.fr f w
    cases b with
    | true => exact h1 H1 r1 Q fun v H2 f2 w2 g => q v H2 (f.trans f2) w2 g
    | false => exact h2 H1 r1 Q fun v H2 f2 w2 g => q v H2 (f.trans f2) w2 g⟩
/-- a loop as often as is drawn -/
theorem s_forDrawn {g : TG} {tu : TS} {m : Nat} (r : Run K rw S Kn H) (h : EvR K rw S te σ Kn (fun u _ => ∃ k, k < m ∧ u = bx k)) (hm : m ≤ 1000) (Pv : Nat → L2.St → Hp → Prop) (h0 : ∀ H1, Fr rw H H1 → RowAt rw S H1 → Pv 0 σ H1)
    (turn : ∀ i x σ' H' H'', i < m → Pv i σ' H' → YFn bx i H' x H'' → g x σ' H'' fun σ2 H2 => tu { D with nx := Pv (i + 1), ct := Pv (i + 1), bk := D.nx } σ2 H2)
    (hd : ∀ n σ' H', n < m → Pv n σ' H' → D.nx σ' H') : tFor (iRng1 (tCons te tNil)) g tu D σ H :=
  h H r _ fun v H1 f w ⟨k, hk, hv⟩ => by
    subst hv
    refine ⟨(k : Int), rfl, by omega, by omega, ?_⟩
    rw [Int.toNat_natCast]
    refine for_it (n := k) (walk_range (lo := 0)) Pv (h0 H1 f w) (fun _ _ _ _ _ => trivial) (fun i x σ' H' H'' hi p y => turn i x σ' H' H'' (by omega) p ?_) (fun σ' H' p => hd k σ' H' hk p)
    obtain ⟨y1, y2⟩ := y
    refine ⟨y1, ?_⟩
    rw [y2]
    show V.int ((0 : Int) + (i : Int)) = bx i
    rw [Int.zero_add]
    rfl
end
theorem LetAt.cut {h : Hs} {rw S a : Addr} {H : Hp} (r : RowAt rw S H) (q : LetAt h H a) : LetAt h (cut rw H) a := by
  obtain ⟨j, x, b, h1, h2, h3⟩ := q
  refine ⟨j, x, b, h1, h2, ?_⟩
  obtain ⟨_, _, _, h4, _⟩ := r
  rw [cut_at (fun e => by
    rw [e, h4] at h3
    cases h3)]
  exact h3
section
variable {P : Program} {w : World} {K : PySem.W.Frag} {mg : Str → Option Value} {base : Heap} {C CN : Addr}
def spNotes (K : PySem.W.Frag) : Sp := fun vs H Q _ => ∃ (rw S p : Addr) (h : Hs) (tr : List Nat), vs = [.ref rw, .ref p, .int 6] ∧ Apart K rw S ∧ ScrAt K S H ∧ RowAt rw S H ∧ PlanAt (cut rw H) p h tr ∧ h.Ok ∧ tr.length = h.names.length ∧
  ∀ (fl : Addr) (log : List Ent) (H' : Hp), H fl = none → Fr rw H H' → RowAt rw S H' → LogL h.names (cut rw H') fl log → LogOk h log → Q (.ref fl) H'
theorem scNotes : FnScope ["_law_row", "_law_plan", "_law_most", "_law_found", "_law_k", "_law_name", "_law_box", "_law_seen_here"] ["_law_row", "_law_plan", "_law_most"] (defScope sNotes) := ⟨rfl, rfl, rfl, by decide +kernel, rfl, by decide +kernel, by decide +kernel⟩
theorem ok_notes (D : DefAt K mg "_law_notes" sNotes) (T : Tx K mg) (F1 : Df P w K mg base CX0 1 "_law_taken" (spTaken K)) (F2 : Df P w K mg base CX0 2 "_law_pick" (spPick K)) (F3 : Df P w K mg base CX0 1 "_law_letters" (spG gLLetters)) (F4 : Df P w K mg base CX0 2 "_law_seen" (spV gLSeen)) :
    Df P w K mg base CX0 3 "_law_notes" (spNotes K) := by
  refine D.ok scNotes (fun _ _ _ _ _ _ us hl => match us, hl with | [_, _, _], _ => rfl) (fun vs H Q E h => ?_) (fun f cdv A outer s H vs Q E hr h => ?_)
  · obtain ⟨rw, S, p, h, tr, rfl, _⟩ := h
    rfl
  · obtain ⟨rw, S, p, h, tr, rfl, hS, hsc, hrow, hp, O, htr, kk⟩ := h
    have hr1 : Room 1 _ := hr.mono (by decide)
    refine ⟨_, pss_cons (ps_set (i := 3) scNotes.nd rfl (Or.inl rfl) (pe_lst pa_nil))
      (pss_cons (ps_for PassesOwn.never rfl (pi_range1 (by rfl) T.range (pa_cons (pe_df F1 hr1 (by rfl) pass0 (pa_cons (pv 0) (pa_cons (pe_op op_add (pv 2) pe_int) pa_nil))) pa_nil)) (pg_name (i := 4) scNotes.nd rfl (Or.inl rfl))
        (pss_cons (ps_asg (pe_df F2 hr (by rfl) pass0 (pa_cons (pv 0) (pa_cons (pe_df F3 hr1 (by rfl) pass0 (pa_cons (pv 1) pa_nil)) pa_nil))) (pg_tup rfl (pgs_cons (pg_name (i := 5) scNotes.nd rfl (Or.inl rfl)) (pgs_cons (pg_name (i := 6) scNotes.nd rfl (Or.inl rfl)) pgs_nil))))
        (pss_cons (ps_set (i := 7) scNotes.nd rfl (Or.inl rfl) (pe_df F4 hr (by rfl) pass0 (pa_cons (pv 1) (pa_cons (pe_ix ix_tup (pv 1) pe_int (fun _ _ => rfl)) (pa_cons (pv 5) (pa_cons (pv 6) pa_nil))))))
        (pss_one (ps_expr (pe_bm PySem.F.plainAttrs_list PySem.F.slot_list_append PySem.F.type_list_append mt_append (pv 3) (pa_cons (pe_tup (pa_cons (pv 5) (pa_cons (pv 6) (pa_cons
          (pe_ifExp (pt_cmpR op_eq (pe_df F1 hr1 (by rfl) pass0 (pa_cons (pv 0) (pa_cons pe_int pa_nil))) pe_int (nomark _)) (pe_df F2 hr (by rfl) pass0 (pa_cons (pv 0) (pa_cons (pe_lst (pa_cons pe_non (pa_cons pe_int (pa_cons pe_int (pa_cons pe_int pa_nil))))) pa_nil))) (pv 7)) pa_nil)))) pa_nil)))))))
      (pss_one (ps_ret (pv 3)))), ?_⟩
    have hn5 : h.n ≤ 5 := O.l3
    refine q_asgL (el_lst ea_nil (Nat.zero_le _)) fun fl H1 hfl e1 h1 => ?_
    have R0 := Run.of hS hsc hrow
    have R1 := R0.ex' e1
    have nfl : fl ≠ rw := hrow.new hfl
    have kfl : cut rw H fl = none := by rw [cut_at nfl]; exact hfl
    refine s_forDrawn (m := 7) R1 (er_taken (m := 7) (ev_var rfl) (ev_op (ev_var rfl) ev_c rv_I0) (by decide) (by decide)) (by decide)
      (fun i σ' H' => ∃ (as : List Addr) (log : List Ent) (v4 v5 v6 v7 : Option V), σ' = [some (.ref rw), some (.ref p), some (.int 6), some (.ref fl), v4, v5, v6, v7] ∧ Run K rw S (cut rw H) H' ∧ Fr rw H H' ∧ H' fl = some (.lst (as.map V.ref)) ∧ Paired (EntAt h.names (cut fl (cut rw H'))) as log ∧ log.length = i ∧ (∀ e ∈ log, e.b < h.n) ∧ ∀ e ∈ log, ∀ k, e.seen = some k → k ≤ 6)
      (fun H2 f2 w2 => ⟨[], [], none, none, none, none, rfl, R1.fr f2 w2, (Fr.of e1).trans f2, f2 _ _ nfl h1, .nil, rfl, (fun e he => by cases he), (fun e he => by cases he)⟩) ?_ ?_
    · rintro i x σ' HA' HA hi ⟨as, log, v4, v5, v6, v7, rfl, RA, fA, hflA, hlog, hll, hlb, hls⟩ ⟨rfl, rfl⟩
      refine er_pickL (Kn := cut rw H) (P := fun xs H1 => ∀ v ∈ xs, ∃ a, v = .ref a ∧ LetAt h H1 a) (G := fun v H1 => ∃ a, v = .ref a ∧ LetAt h H1 a) (ev_var rfl) (fun HF rF Q q => ?_) (fun xs v H1 H2 h1 h2 e => ?_) HA RA _ fun v HB fB wB ⟨a, hv, j, nm, b, hj, hb, ha⟩ => ?_
      · refine ev_cl (G := fun v H' => ∃ (u : Addr) (as : List Addr), v = .ref u ∧ H' u = some (.lst (as.map V.ref)) ∧ 1 ≤ as.length ∧ as.length ≤ 20 ∧ ∀ a ∈ as, LetAt h H' a) (ea_cons (ev_var rfl) ea_nil) (spG_g fun H2 e2 => ⟨p, h, tr, rfl, hp.ex (rF.ex.trans e2), O, rfl⟩) HF (Ex.refl _) _ fun v H2 e2 ⟨u, us, hv, hu, u1, u20, hal⟩ => ?_
        subst hv
        have wF := rF.row.ex e2
        have nu : u ≠ rw := fun e => by
          obtain ⟨_, _, _, h4, _⟩ := id wF
          rw [e, h4] at hu
          have h6 := HO.lst.inj (Option.some.inj hu)
          cases us with
          | nil => cases h6
          | cons a us =>
            cases us with
            | nil => cases h6
            | cons a2 us =>
              rw [List.map_cons, List.map_cons] at h6
              injection h6 with _ h7
              injection h7 with h8 _
              cases h8
        refine q u H2 (us.map V.ref) (Fr.of e2) wF nu hu (by rw [List.length_map]; omega) (by rw [List.length_map]; omega) fun v hv => ?_
        obtain ⟨a, ha, rfl⟩ := List.mem_map.mp hv
        exact ⟨a, rfl, (hal a ha).cut wF⟩
      · obtain ⟨a, h3, h4⟩ := h1 v h2
        exact ⟨a, h3, h4.ex e⟩
      · subst hv
        have ha' := (cut_some ha).2
        refine g_two (.inl (.inl ha')) ?_
        have RB := RA.fr fB wB
        obtain ⟨nT, sT, wD, tT, p1, p2, p3, p4, p5⟩ := id hp
        refine q_asg (ev_clV (z := ob (ans h.ways tr j b)) (ea_cons (ev_var rfl) (ea_cons (ev_op (z := .ref tT) (ev_var rfl) ev_c (rv_ixT (.inl (.inl (RB.ex _ _ p1))) (atI_nat (j := 3) rfl))) (ea_cons (ev_var rfl) (ea_cons (ev_var rfl) ea_nil))))
          (spV_g fun H3 e3 => ⟨p, tT, h, tr, tr, j, b, nm, rfl, hp.ex (RB.ex.trans e3), O, p5.ex (RB.ex.trans e3), htr, hj, hb, rfl⟩)) fun HC eC => ?_
        have RC := RB.ex' eC
        have fBC := fB.trans (Fr.of eC)
        have hflC := fBC _ _ nfl hflA
        have lal := paired_len hlog
        have hans : ∀ k, ans h.ways tr j b = some k → k ≤ 6 := fun k hk => by
          have := ans_le O.gs hb hk
          have h9 : h.signs.length ≤ 5 := O.l3
          omega
        refine ⟨_, rfl, .inl ⟨rfl, _, .inl (.inl hflC)⟩, _, rfl, _, rfl, er_if (Kn := cut rw H) (G := fun v _ => ∃ o : Option Nat, v = ob o ∧ ∀ k, o = some k → k ≤ 6) (er_eq0 (er_taken (m := 12) (ev_var rfl) ev_c (by decide) (by decide))) (er_pickL (P := fun xs _ => ∀ v ∈ xs, ∃ o : Option Nat, v = ob o ∧ ∀ k, o = some k → k ≤ 6) (ev_var rfl) (fun HF rF Q q => ⟨by show 4 ≤ sizeLine; decide, fun l hl => ?_⟩) (fun xs v _ _ h1 h2 _ => h1 v h2)) ((evr_v (ev_var rfl)).imp fun v _ hv => ⟨_, hv, hans⟩) HC RC _ fun v HD fD wD' ⟨o, hv, hok⟩ => ?_⟩
        · subst hv
          refine ⟨by show 3 ≤ sizeLine; decide, fun T' hT => ?_⟩
          have eT : Ex HD (upd HD T' (.tup [.str nm, bx b, ob o])) := Ex.new hT
          have RD := RC.fr fD wD'
          have fAD := (fBC.trans fD).trans (Fr.of eT)
          have hflD := eT _ _ (fD _ _ nfl hflC)
          have nT' : T' ≠ rw := RD.new hT
          have nT2 : T' ≠ fl := fun e => by
            rw [e, fD _ _ nfl hflC] at hT
            cases hT
          refine ⟨fl, as.map V.ref, .ref T', rfl, rfl, hflD, sz_lt (by rw [List.length_map]; omega), as ++ [T'], log ++ [⟨j, b, o⟩], _, _, _, _, rfl, (RD.ex' eT).chg kfl nfl, (fA.trans fAD).chg hfl, ?_, ?_, ?_, ?_, ?_⟩
          · rw [upd_same, List.map_append]
            rfl
          · refine paired_app (paired_mono (fun _ _ z => z.ex ((cut2_fr fAD).trans cut2_upd)) hlog) (.cons ⟨nm, hj, ?_⟩ .nil)
            rw [cut_at nT2, cut_at nT', upd_ne nT2, upd_same]
          · rw [List.length_append, hll]
            rfl
          · intro e he
            rcases List.mem_append.mp he with he | he
            · exact hlb e he
            · rcases List.mem_cons.mp he with e' | he
              · rw [e']
                exact hb
              · cases he
          · intro e he
            rcases List.mem_append.mp he with he | he
            · exact hls e he
            · rcases List.mem_cons.mp he with e' | he
              · rw [e']
                exact hok
              · cases he
        · refine q l _ [.non, .int 0, .int 1, .int 6] (Fr.of (Ex.new hl)) (rF.row.ex (Ex.new hl)) (rF.new hl) upd_same (by show 0 < 4; decide) (by show 4 < 1000000; decide) fun v hv => ?_
          rcases List.mem_cons.mp hv with e | hv
          · exact ⟨none, e, fun k hk => by cases hk⟩
          rcases List.mem_cons.mp hv with e | hv
          · exact ⟨some 0, e, fun k hk => by rw [← Option.some.inj hk]; decide⟩
          rcases List.mem_cons.mp hv with e | hv
          · exact ⟨some 1, e, fun k hk => by rw [← Option.some.inj hk]; decide⟩
          rcases List.mem_cons.mp hv with e | hv
          · exact ⟨some 6, e, fun k hk => by rw [← Option.some.inj hk]; decide⟩
          · cases hv
    · rintro n σ' HA hn ⟨as, log, v4, v5, v6, v7, rfl, RA, fA, hflA, hlog, hll, hlb, hls⟩
      refine s_ret (ev_var rfl) fun H2 e2 => kk fl log H2 hfl (fA.trans (Fr.of e2)) (RA.row.ex e2) ⟨as, by rw [cut_at nfl]; exact e2 _ _ hflA, paired_mono (fun _ _ z => z.ex (fun a o h => (Fr.of (rw := rw) e2).cut a o (cut_some h).2)) hlog⟩ ⟨by omega, hlb, hls⟩
end
end Lp

set_option Elab.async false
set_option linter.all false
set_option maxRecDepth 100000
set_option maxHeartbeats 4000000
/-! Lostplates: what the law's _law_raised makes of a lambda that raises NoOrder. -/
namespace Lp
open PySem PySem.Spec PyProof.Rows L2
open Evl
abbrev sRaised : Stmt := top 60
/-- another class than NoOrder's -/
def NotE (K : PySem.W.Frag) (mg : Str → Option Value) (CN : Addr) (x : Str) : Prop := ∃ A, mg x = some (.ref A) ∧ PySem.W.kitOne K (.ref CN) (.ref A) = some false
structure Rx (K : PySem.W.Frag) (mg : Str → Option Value) (CN : Addr) : Prop where
  pe : ∃ A, mg "PlateError" = some (.ref A) ∧ PySem.W.exmOne K (.ref CN) (.ref A) = some true
  ec : ExcC K CN
  no : mg "NoOrder" = some (.ref CN)
  kn : PySem.W.kitOne K (.ref CN) (.ref CN) = some true
  ve : mg "ValueError" = none
  kv : PySem.W.kitOne K (.ref CN) (.type "ValueError") = some true
  h1 : NotE K mg CN "InvalidHouse"
  h2 : NotE K mg CN "InvalidLog"
  h3 : NotE K mg CN "InvalidHint"
  h4 : NotE K mg CN "InvalidManners"
  h5 : NotE K mg CN "InvalidOrder"
  h6 : NotE K mg CN "UnknownName"
  h7 : NotE K mg CN "InvalidBox"
  h8 : NotE K mg CN "UnknownEntry"
  h9 : NotE K mg CN "TooMany"
  h10 : NotE K mg CN "InvalidNumber"
  h11 : NotE K mg CN "InvalidRow"
theorem takes_len {X : Cx} {W : WX} (t : Takes X W) : Takes X (fun cls d σ H => σ.length = X.N.length → W cls d σ H) := fun u s' x => by
  obtain ⟨a, B, sI, pins, σ, H, cls, d, e, I, nb, up, sky, na, os, ag, w⟩ := x
  exact t u s' ⟨a, B, sI, pins, σ, H, cls, d, e, I, nb, up, sky, na, os, ag, w I.len⟩
section
variable {K : PySem.W.Frag} {σ : L2.St} {H : Hp} {ta tb te : TE}
theorem ev_isE {CN a : Addr} {c : V} {cv : Value} {b : Bool} (ha : Ev ta σ H (.ref a)) (hc : Ev tb σ H c) (hr : ∀ u, RelV c u → u = cv) (hk : PySem.W.kitOne K (.ref CN) cv = some b) : Ev (tCB (rIsE K CN a) (tCons ta (tCons tb tNil))) σ H (.bl b) := fun H1 e Q q =>
  ha H1 e _ fun H2 e2 => hc H2 (e.trans e2) _ fun H3 e3 => ⟨c, cv, b, rfl, hr, hk, q H3 (e2.trans e3)⟩
theorem el_cat {l : Addr} {xs ys : List V} (ha : Ev ta σ H (.ref l)) (hl : H l = some (.lst xs)) (hb : EvL tb σ H ys) (hz : xs.length + ys.length ≤ 1000) : EvL (tOp rCat ta tb) σ H (xs ++ ys) := fun H1 e Q q =>
  ha H1 e _ fun H2 e2 => hb H2 (e.trans e2) _ fun p H3 hp e3 h3 => ⟨l, p, xs, ys, rfl, rfl, ((e.trans e2).trans e3) _ _ hl, h3, sz_of (by omega), fun r hr => q r _ (Ex.back (e2.trans e3) hr) ((e2.trans e3).trans (Ex.new hr)) upd_same⟩
theorem ev_count {l : Addr} {ys : List V} {y : V} {n : Nat} (ha : Ev ta σ H (.ref l)) (hl : H l = some (.lst ys)) (hy : Ev tb σ H y) (fy : flatV y = true) (fs : ys.all flatV = true) (hn : (ys.countP fun z => eqV z y) = n) : Ev (tBM K "list" (rCntF K) ta (tCons tb tNil)) σ H (.int (n : Int)) := fun H1 e Q q =>
  ha H1 e _ fun H2 e2 => ⟨.inl ⟨rfl, ys, .inl (.inl ((e.trans e2) _ _ hl))⟩, hy H2 (e.trans e2) _ fun H3 e3 => ⟨l, ys, y, rfl, rfl, .inl (.inl (((e.trans e2).trans e3) _ _ hl)), fy, fs, by rw [hn]; exact q H3 (e2.trans e3)⟩⟩
theorem ev_lix {l : Addr} {ys : List V} {y z : V} {j : Nat} (ha : Ev ta σ H (.ref l)) (hl : H l = some (.lst ys)) (hy : Ev tb σ H y) (fy : flatV y = true) (fs : ys.all flatV = true) (hz : ys[j]? = some z) (he : eqV z y = true) (hn : ∀ (m : Nat) (z' : V), m < j → ys[m]? = some z' → eqV z' y = false) :
    Ev (tBM K "list" (rIndex K) ta (tCons tb tNil)) σ H (.int (j : Int)) := fun H1 e Q q =>
  ha H1 e _ fun H2 e2 => ⟨.inl ⟨rfl, ys, .inl (.inl ((e.trans e2) _ _ hl))⟩, hy H2 (e.trans e2) _ fun H3 e3 => ⟨l, ys, y, j, z, rfl, rfl, .inl (.inl (((e.trans e2).trans e3) _ _ hl)), fy, fs, hz, he, hn, q H3 (e2.trans e3)⟩⟩
end
def kinds : List V := [.bl false, .bl false, .bl false, .bl false, .bl false, .bl false, .bl false, .bl false, .bl true, .bl false, .bl false, .bl false]
theorem kinds_first : ∀ (m : Nat) (z' : V), m < 8 → kinds[m]? = some z' → eqV z' (.bl true) = false := by
  intro m z hm hz
  have h8 : m = 0 ∨ m = 1 ∨ m = 2 ∨ m = 3 ∨ m = 4 ∨ m = 5 ∨ m = 6 ∨ m = 7 := by omega
  rcases h8 with rfl | rfl | rfl | rfl | rfl | rfl | rfl | rfl <;> (obtain rfl := Option.some.inj hz; rfl)
abbrev nmRaised : List Str := ["_law_work", "e", "_law_kinds_met", "_law_at"]
theorem scRaised : FnScope nmRaised ["_law_work"] (defScope sRaised) := ⟨rfl, rfl, rfl, by decide +kernel, rfl, by decide +kernel, by decide +kernel⟩
/-- the suite -/
def suiteOf : Stmt → List Stmt
  | .Try _ (.ExceptHandler _ _ b _ :: _) _ _ _ => b
  | _ => []
abbrev raisedSuite : List Stmt := suiteOf ((defBody sRaised).getD 0 (.Pass ⟨0, 0, 0, 0⟩))
def tRaisedS (CN a : Addr) (cls : Value) (d : Option Addr) : TS := fun D σ H => cls = .ref CN ∧ d = none ∧ (∃ v0 v2 v3 : Option V, σ = [v0, some (.ref a), v2, v3]) ∧ ∀ t H', Ex H H' → H' t = some (.tup [.str "none"]) → D.rt (.ref t) H'
theorem g_not {X : Cx} {x : Str} {pos : Pos} (A : Addr) (hg : Gl X x) (h : X.mg x = some (.ref A)) (hd : (x == ("__debug__" : Str)) = false := by decide) : PE X (.Name x pos) (tC (.ref A)) := pe_glob hg h rfl hd
section
variable {P : Program} {w : World} {K : PySem.W.Frag} {mg : Str → Option Value} {base : Heap} {CN : Addr}
abbrev rCx (P : Program) (w : World) (K : PySem.W.Frag) (mg : Str → Option Value) (base : Heap) (q : Str) (g : Addr) (cdg : Value) (A : Around) (st : List Env) (s : Shared) (H : Hp) : Cx := (cxOf C8.CX0 P w K mg base nmRaised q (defScope sRaised) g cdg A st s H C8.E0).nox
theorem raised_suite {q : Str} {g : Addr} {cdg : Value} {A : Around} {st : List Env} {s : Shared} {H0 : Hp} (R : Rx K mg CN) (isi : mg "isinstance" = none) (a : Addr) (oe : Obj) (cls : Value) (d : Option Addr) (pn : List (Addr × Obj)) (hz : Zc cls d oe) (hf : ∃ vs, oe.data = .fields vs) :
    PSs ((rCx P w K mg base q g cdg A st s H0).suite a ((a, oe) :: pn)) raisedSuite (tRaisedS CN a cls d) := by
  refine ⟨fun pins s' σ H D I h => ?_⟩
  obtain ⟨rfl, rfl, ⟨v0, v2, v3, rfl⟩, kk⟩ := h
  obtain ⟨A1, g1, k1⟩ := R.h1
  obtain ⟨A2, g2, k2⟩ := R.h2
  obtain ⟨A3, g3, k3⟩ := R.h3
  obtain ⟨A4, g4, k4⟩ := R.h4
  obtain ⟨A5, g5, k5⟩ := R.h5
  obtain ⟨A6, g6, k6⟩ := R.h6
  obtain ⟨A7, g7, k7⟩ := R.h7
  obtain ⟨A8, g8, k8⟩ := R.h8
  obtain ⟨A9, g9, k9⟩ := R.h9
  obtain ⟨A10, g10, k10⟩ := R.h10
  obtain ⟨A11, g11, k11⟩ := R.h11
  have nd := scRaised.nd
  have is_ : ∀ {x : Str} {c : V} {np p1 p2 p3 : Pos}, PE ((rCx P w K mg base q g cdg A st s H0).suite a ((a, oe) :: pn)) (.Name x np) (tC c) →
      PE ((rCx P w K mg base q g cdg A st s H0).suite a ((a, oe) :: pn)) (.Call (.Name "isinstance" p1) [.Name "e" p2, .Name x np] [] p3) (tCB (rIsE K CN a) (tCons (tVar 1) (tCons (tC c) tNil))) := fun h =>
    pe_callB (call_isE R.ec hz hf) (by rfl) isi boot_isinstance (pa_cons (pv 1) (pa_cons h pa_nil))
  have hterm : ∃ t, PSs ((rCx P w K mg base q g cdg A st s H0).suite a ((a, oe) :: pn)) raisedSuite t ∧ t D [v0, some (.ref a), v2, v3] H := by
    refine ⟨_, pss_cons (ps_set (i := 2) nd rfl (Or.inl rfl) (pe_lst (pa_cons (is_ (g_not A1 (by rfl) g1)) (pa_cons (is_ (g_not A2 (by rfl) g2)) (pa_cons (is_ (g_not A3 (by rfl) g3)) pa_nil)))))
      (pss_cons (ps_set (i := 2) nd rfl (Or.inl rfl) (pe_op op_cat (pv 2) (pe_lst (pa_cons (is_ (g_not A4 (by rfl) g4)) (pa_cons (is_ (g_not A5 (by rfl) g5)) pa_nil)))))
      (pss_cons (ps_expr (pe_bm PySem.F.plainAttrs_list PySem.F.slot_list_append PySem.F.type_list_append mt_append (pv 2) (pa_cons (is_ (g_not A6 (by rfl) g6)) pa_nil)))
      (pss_cons (ps_set (i := 2) nd rfl (Or.inl rfl) (pe_op op_cat (pv 2) (pe_lst (pa_cons (is_ (g_not A7 (by rfl) g7)) (pa_cons (is_ (g_not A8 (by rfl) g8)) (pa_cons (is_ (g_not CN (by rfl) R.no)) pa_nil))))))
      (pss_cons (ps_set (i := 2) nd rfl (Or.inl rfl) (pe_op op_cat (pv 2) (pe_lst (pa_cons (is_ (g_not A9 (by rfl) g9)) (pa_cons (is_ (g_not A10 (by rfl) g10)) (pa_cons (is_ (g_not A11 (by rfl) g11)) pa_nil))))))
      (pss_cons (ps_if (PW.pt (pw_or (pt_cmpR op_ne (pe_bm PySem.F.plainAttrs_list PySem.F.slot_list_count PySem.F.type_list_count mt_countF (pv 2) (pa_cons pe_bl pa_nil)) pe_int (nomark _)) (pw_or1 (pt_not (pt_val (is_ (pe_bltn (by rfl) R.ve (u := .type "ValueError") (by decide +kernel) (v := .ty "ValueError") rfl))))))) pss_never pss_nil)
      (pss_cons (ps_set (i := 3) nd rfl (Or.inl rfl) (pe_bm PySem.F.plainAttrs_list PySem.F.slot_list_index PySem.F.type_list_index mt_index (pv 2) (pa_cons pe_bl pa_nil)))
      (pss_cons (ps_if (pt_cmpR op_lt (pv 3) pe_int (nomark _)) pss_never pss_nil)
      (pss_one (ps_ret (pe_tup (pa_cons (pe_ix ix_list (pe_lst (pa_cons pe_str (pa_cons pe_str (pa_cons pe_str (pa_cons pe_str (pa_cons pe_str (pa_cons pe_str (pa_cons pe_str (pa_cons pe_str pa_nil))))))))) (pe_op op_sub (pv 3) pe_int) (fun _ _ => rfl)) pa_nil))))))))))), ?_⟩
    have ev_ : ∀ {σ : L2.St} {H : Hp} {B : Addr}, σ[1]? = some (some (.ref a)) → PySem.W.kitOne K (.ref CN) (.ref B) = some false → Ev (tCB (rIsE K CN a) (tCons (tVar 1) (tCons (tC (.ref B)) tNil))) σ H (.bl false) := fun h1 hk => ev_isE (ev_var h1) ev_c (fun u r => r) hk
    refine q_asgL (el_lst (ea_cons (ev_ rfl k1) (ea_cons (ev_ rfl k2) (ea_cons (ev_ rfl k3) ea_nil))) (by show 3 ≤ 100000; decide)) fun l1 H1 hl1 e1 h1 => ?_
    refine q_asgL (el_cat (ev_var rfl) h1 (el_lst (ea_cons (ev_ rfl k4) (ea_cons (ev_ rfl k5) ea_nil)) (by show 2 ≤ 100000; decide)) (by show 3 + 2 ≤ 1000; decide)) fun l2 H2 hl2 e2 h2 => ?_
    refine q_app h2 (ev_var rfl) (ev_ rfl k6) (by show 5 < 100000; decide) fun H3 e3 => ?_
    have x2 : Ex H (upd H3 l2 (.lst ([.bl false, .bl false, .bl false] ++ [.bl false, .bl false] ++ [.bl false]))) := Ex.chg (e1.trans (e2.trans e3)) (Ex.back e1 hl2)
    have h3 : (upd H3 l2 (.lst ([.bl false, .bl false, .bl false] ++ [.bl false, .bl false] ++ [V.bl false]))) l2 = some (.lst ([.bl false, .bl false, .bl false] ++ [.bl false, .bl false] ++ [.bl false])) := upd_same
    refine q_asgL (el_cat (ev_var rfl) h3 (el_lst (ea_cons (ev_ rfl k7) (ea_cons (ev_ rfl k8) (ea_cons (ev_isE (b := true) (ev_var rfl) ev_c (fun u r => r) R.kn) ea_nil))) (by show 3 ≤ 100000; decide)) (by show 6 + 3 ≤ 1000; decide)) fun l4 H4 hl4 e4 h4 => ?_
    refine q_asgL (el_cat (ev_var rfl) h4 (el_lst (ea_cons (ev_ rfl k9) (ea_cons (ev_ rfl k10) (ea_cons (ev_ rfl k11) ea_nil))) (by show 3 ≤ 100000; decide)) (by show 9 + 3 ≤ 1000; decide)) fun l5 H5 hl5 e5 h5 => ?_
    have h5 : H5 l5 = some (.lst kinds) := h5
    refine q_when (b := false) (et_or (a := false) (b := false) (et_test (ev_is (ev_op (ev_count (n := 1) (ev_var rfl) h5 ev_c rfl rfl (by decide)) ev_c (rv_ne rfl)) (by decide))) (fun _ => et_not (a := true) (et_B (ev_isE (ev_var rfl) ev_c (fun u r => r) R.kv)))) (fun hb => by cases hb) (fun _ H6 e6 => ?_)
    refine q_asg (ev_lix (j := 8) (z := .bl true) (ev_var rfl) (e6 _ _ h5) ev_c rfl rfl rfl rfl kinds_first) fun H7 e7 => ?_
    refine q_when (b := false) (et_test (ev_is (ev_op (ev_var rfl) ev_c rv_I0) (by decide))) (fun hb => by cases hb) (fun _ H8 e8 => ?_)
    refine s_retU (eu_tup (ea_cons (ev_opL1 (y := .int 4) (z := .str "none") (el_lst (ea_cons ev_c (ea_cons ev_c (ea_cons ev_c (ea_cons ev_c (ea_cons ev_c (ea_cons ev_c (ea_cons ev_c (ea_cons ev_c ea_nil)))))))) (by show 8 ≤ 100000; decide)) (fun H9 e9 => ev_is (ev_op (ev_var rfl) ev_c rv_I0) (by decide)) (fun p H9 hp e9 => rv_ixL (.inl (.inl hp)) (atI_nat (j := 4) rfl))) ea_nil) (by show 1 ≤ 100000; decide)) fun p H9 hp e9 h9 => ?_
    exact kk p H9 (x2.trans ((((e4.trans e5).trans e6).trans e7).trans (e8.trans e9))) h9
  obtain ⟨t, ht, hq⟩ := hterm
  exact ht.run pins s' _ H D I hq
/-- NoOrder is raised: ("none",); or nothing: None -/
def TRaised (CN : Addr) : (XK → Hp → VK → Prop) → Hp → VK → Prop := fun tl H Q => tl (fun cls d H' => cls = .ref CN ∧ d = none ∧ ∀ t H'', Ex H' H'' → H'' t = some (.tup [.str "none"]) → Q (.ref t) H'') H (fun _ H1 => Q .non H1)
theorem raised_gives {X : Cx} {q : Str} {g : Addr} {cdg : Value} (R : Rx X.K X.mg CN) (isi : X.mg "isinstance" = none) : LamX.GivesTo X nmRaised "_law_raised" (defScope sRaised) g cdg (defBody sRaised) "_law_work" q (TRaised CN) := by
  intro f c' s H Q tl act hc h
  obtain ⟨PA, gP, eP⟩ := R.pe
  refine ⟨_, pss_cons (ps_try_as (X := rCx X.prog X.w X.K X.mg X.base "_law_raised" g cdg X.A X.stack s H) (i := 1) (c := .ref PA) (ts := fun a cls d => tRaisedS CN a cls d)
      (tb := fun W D σ H => ∃ Ech : XK, (∀ cls d σ' H', Ech cls d H' → σ'.length = 4 → W cls d σ' H') ∧ σ[0]? = some (some (.ref f)) ∧ H c' = some (LamX.CodeO c' q) ∧ tl Ech H (fun _ H1 => D.nx σ H1))
      rfl rfl scRaised.nd rfl rfl ⟨by rfl, by decide, .inl gP⟩ LamX.takes0 (fun W pn xe tk _ => ?_) (fun a oe cls d pn hz hf => raised_suite R isi a oe cls d pn hz hf)) (pss_one (ps_ret pe_non)), ?_⟩
  · refine ⟨fun pins s' σ H' D I h' => ?_⟩
    obtain ⟨Ech, hW, h1, h2, h3⟩ := h'
    have hp := fun p1 p2 => act (fun cls d σ' H' => σ'.length = 4 → W cls d σ' H') pn xe Ech p1 p2 (takes_len tk) hW
    exact (pss_one (ps_expr (hp _ _))).run pins s' σ H' D I ⟨h1, h2, h3⟩
  · refine ⟨_, fun cls d σ' H' hE hl => ?_, rfl, hc, h⟩
    obtain ⟨rfl, rfl, hk⟩ := hE
    refine ⟨true, eP, fun _ a ha => ⟨rfl, rfl, ?_, fun t H'' e ht => hk t H'' e ht⟩, fun hb => by cases hb⟩
    match σ', hl with
    | [v0, v1, v2, v3], _ => exact ⟨v0, v2, v3, rfl⟩
end
end Lp

set_option Elab.async false
set_option linter.all false
set_option maxRecDepth 100000
set_option maxHeartbeats 4000000
/-! Lostplates: a lambda with one parameter that has a default, 0, handed to a def that calls it without arguments. -/
namespace Lp
open PySem PySem.Spec PyProof.Rows L2
open Evl
open LamX (Tabs TabS TabB CodeO ExtN inv_table codeO_ne among_app lamEnv lamCx run_ofS)
abbrev lamdObj (q : Str) (params : Arguments) (body : Expr) (scope : Scope) (cl : List (Str × Addr)) (T0 : Addr) (doc pm : Value) (c' : Addr) (ctv : Value) : Obj := PySem.W.kdv_obj "<lambda>" q params (.expr body) scope cl (.ref T0) doc pm c' ctv
section
variable {X : Cx} {pins : List (Addr × Obj)} {σ : L2.St} {H : Hp} {s : Shared}
theorem not_frame (I : Inv X pins σ H s) {f : Addr} (hf : s.heap.objs.size ≤ f) : f ∉ frs X.stack := fun z => (List.mem_cons.mp (I.stkSub _ z)).elim (fun e => by
  have h1 := Nat.lt_of_lt_of_le I.lt hf
  rw [← e] at h1
  exact Nat.lt_irrefl _ h1) fun e => I.nofs hf e
/-- what is known where such a lambda is made -/
def MadeD (X : Cx) (pins : List (Addr × Obj)) (σ : L2.St) (H : Hp) (T : List (Addr × Str)) (params : Arguments) (body : Expr) (scope : Scope) (f c' T0 : Addr) (t0 : Nat) (doc pm ctv : Value) (H1 : Hp) (s' : Shared) : Prop :=
  Inv X pins σ H1 s' ∧ ExtN H H1 ∧ Tabs T H1 ∧ s'.heap.get? f = some (lamdObj (X.env.qual ++ "<lambda>") params body scope (cloFrom X.env.cells scope.names []) T0 doc pm c' ctv) ∧ s'.heap.get? T0 = some (PySem.W.kdv_tup [.int 0 t0]) ∧
    H1 f = none ∧ H1 T0 = none ∧ f ∉ frs X.stack ∧ T0 ∉ frs X.stack ∧ H1 c' = some (CodeO c' (X.env.qual ++ "<lambda>"))
theorem lamd_make {T : List (Addr × Str)} {c P : Addr} {params : Arguments} {body : Expr} {scope : Scope} {pos p0 : Pos} {j : Nat} {E : Value → Shared → Prop} {Q : Value → Shared → Prop} (I : Inv X pins σ H s) (TB : TabB X.base X.mg c P) (hcode : X.env.code = .ref c)
    (hm : (P, X.env.qual ++ "<lambda>") ∈ T) (hu : ∀ p ∈ T, p.1 = P → p.2 = X.env.qual ++ "<lambda>") (hT : Tabs T H) (hd : params.defaults = [.Constant (.int 0) j p0]) (hk0 : params.kw_defaults = []) (hfree : ∀ y ∈ scope.names, y.2 = .free → ∃ c, X.env.cells.lookup y.1 = some c)
    (h : ∀ f c' T0 t0 doc pm ctv H1 s', MadeD X pins σ H T params body scope f c' T0 t0 doc pm ctv H1 s' → Q (.ref f) s') : wpAny (model X.prog X.w) X.A (eval (.Lambda params body scope pos) X.env) Q E s := by
  obtain ⟨ps, hP, ht, ha⟩ := hT _ hm
  refine PySem.W.kdv_lam (by rw [hd]; rfl) hk0 ?_
  rw [hd]
  refine PySem.W.kdv_all1 (thn ((pe_int (X := X) (i := 0) (j := j) (pos := p0)).run pins s σ H (fun v H1 => v = .int 0 ∧ H1 = H) I ⟨rfl, rfl⟩) fun u s1 hu1 => PySem.W.kdv_all0 ?_)
  obtain ⟨v, H1, I1, r1, ev, eH⟩ := hu1
  subst ev
  rw [eH] at I1
  obtain ⟨t0, rfl⟩ := r1
  rw [makeFunction_eq]
  simp only [pure_bind, if_true, if_false, List.isEmpty_nil, List.isEmpty_cons, List.zip_nil_right, List.filterMap_nil, Bool.false_eq_true]
  refine wpAny_bind (wpAny_newTextTuple ?_)
  have hTup : (s1.heap.push (PySem.W.kdv_tup [.int 0 t0])).get? s1.heap.objs.size = some (PySem.W.kdv_tup [.int 0 t0]) := Heap.get?_push_size _ rfl
  have HT0 : H s1.heap.objs.size = none := I1.hok.fresh (Nat.le_refl _)
  have fT0 : s1.heap.objs.size ∉ frs X.stack := not_frame I1 (Nat.le_refl _)
  have I2 : Inv X pins σ H { s1 with heap := s1.heap.push (PySem.W.kdv_tup [.int 0 t0]) } := I1.kept (t' := s1.toks) fun b o e => Heap.get?_push_of_some _ e
  generalize hT0 : s1.heap.objs.size = T0 at *
  generalize hs2 : s1.heap.push (PySem.W.kdv_tup [.int 0 t0]) = hp2 at *
  have bP : hp2.BuiltinsAt X.mg P := TB.bm.keeps I2.bk
  have hP' : hp2.get? P = some { cls := .none, data := .fields ps } := I2.hok P _ hP
  have nT0P : T0 ≠ P := fun e => by
    rw [e, hP] at HT0
    cases HT0
  cases hc : codeAmong pos ps.toList with
  | none =>
    refine PySem.W.kdv_makeTail (mg := X.mg) (c := c) (P := P) (ps := ps) (closure_ok hfree) I2.ok.glob (I2.mod.glob.keeps I2.bk) hcode (TB.code.keeps I2.bk) hP' ht hc TB.gP bP fun c' ctv doc h' tk hx hge hlt hrec htb => ?_
    obtain ⟨c2, oc, vs, t, e2, hoc, hdat, hv⟩ := hrec
    cases e2
    have hsz : hp2.objs.size ≤ h'.objs.size := Nat.le_trans hge (Nat.le_of_lt hlt)
    have nC : H c' = none := I2.hok.fresh hge
    have kp : ∀ (o' : Obj) b o, b ≠ P → hp2.get? b = some o → (h'.push o').get? b = some o := fun o' b o hb e => Heap.get?_push_of_some _ (hx b o hb e)
    have I3 := fun o' : Obj => inv_table (t' := tk) (more := #[rawInt pos.line, rawInt pos.col, .ref c']) (h' := h'.push o') I2 hP (kp o') (Heap.get?_push_of_some _ htb) hge ⟨oc, vs, t, Heap.get?_push_of_some _ hoc, hdat, hv⟩
    have hE : ExtN H (upd (upd H P (.tbl (ps ++ #[rawInt pos.line, rawInt pos.col, .ref c']))) c' (CodeO c' (X.env.qual ++ "<lambda>"))) := fun b o e n => by
      rw [upd_ne (ne_of_none e nC), upd_ne (fun z => n ps (by rw [z, hP] at e; exact (Option.some.inj e).symm))]
      exact e
    have eL : (ps ++ #[rawInt pos.line, rawInt pos.col, .ref c']).toList = ps.toList ++ [rawInt pos.line, rawInt pos.col, .ref c'] := Array.toList_append
    have old : ∀ x, H x = none → x ≠ c' → x ≠ P → (upd (upd H P (.tbl (ps ++ #[rawInt pos.line, rawInt pos.col, .ref c']))) c' (CodeO c' (X.env.qual ++ "<lambda>"))) x = none := fun x h0 h1 h2 => by
      rw [upd_ne h1, upd_ne h2]
      exact h0
    have nf1 : h'.objs.size ≠ c' := Nat.ne_of_gt hlt
    have nf2 : h'.objs.size ≠ P := Nat.ne_of_gt (Nat.lt_of_lt_of_le (Heap.lt_size hP') hsz)
    have nT0c : T0 ≠ c' := Nat.ne_of_lt (Nat.lt_of_lt_of_le (Heap.lt_size hTup) hge)
    refine h h'.objs.size c' T0 t0 doc _ ctv _ _ ⟨I3 _, hE, fun p hp => ?_, Heap.get?_push_size _ rfl, kp _ _ _ nT0P hTup, old _ (I2.hok.fresh hsz) nf1 nf2, old _ HT0 nT0c nT0P, not_frame I2 hsz, fT0, upd_same⟩
    by_cases hb : p.1 = P
    · rw [hu p hp hb, hb]
      refine ⟨_, by rw [upd_ne (ne_of_none hP nC), upd_same], by rw [eL]; exact PySem.TriplesOk_snoc _ _ _ _ ht, fun p' cv hcv => ?_⟩
      rw [eL] at hcv
      rcases among_app _ ht hcv with z | z
      · obtain ⟨c0, e1, e2⟩ := ha p' cv z
        exact ⟨c0, e1, hE _ _ e2 codeO_ne⟩
      · exact ⟨c', z, upd_same⟩
    · obtain ⟨ps', a1, a2, a3⟩ := hT p hp
      refine ⟨ps', by rw [upd_ne (ne_of_none a1 nC), upd_ne hb]; exact a1, a2, fun p' cv hcv => ?_⟩
      obtain ⟨c0, e1, e2⟩ := a3 p' cv hcv
      exact ⟨c0, e1, hE _ _ e2 codeO_ne⟩
  | some cv =>
    obtain ⟨c', e, hco⟩ := ha pos cv hc
    subst e
    refine PySem.W.kdv_makeTailHit (mg := X.mg) (c := c) (P := P) (ps := ps) (closure_ok hfree) I2.ok.glob (I2.mod.glob.keeps I2.bk) hcode (TB.code.keeps I2.bk) hP' ht hc bP fun ctv doc h' tk hx hsz => ?_
    exact h h'.objs.size c' T0 t0 doc _ ctv H _ ⟨I2.kept (t' := tk) fun b o e => Heap.get?_push_of_some _ (hx b o e), ExtN.refl H, hT, Heap.get?_push_size _ rfl, Heap.get?_push_of_some _ (hx _ _ hTup), I2.hok.fresh hsz, HT0, not_frame I2 hsz, fT0, hco⟩
end
/-! ### its names: the parameter, which nobody asks for; captured ones and globals -/
structure LamD (N : List Str) (sc scope : Scope) (x : Str) : Prop where
  kind : scope.kind = .function
  co : scope.isCoroutine = false
  gen : scope.isGenerator = false
  own : ∀ y ∈ scope.names, y.2 ≠ .cell ∧ (y.2 = .local → y.1 ∉ N)
  par : scope.names.lookup x = some .local
  free : ∀ y ∈ scope.names, y.2 = .free → sc.names.lookup y.1 = some .cell ∨ sc.names.lookup y.1 = some .free
def lamDB (N : List Str) (sc scope : Scope) (x : Str) : Bool :=
  decide (scope.kind = .function) && !scope.isCoroutine && !scope.isGenerator && decide (scope.names.lookup x = some .local) && scope.names.all fun y => !decide (y.2 = .cell) && (!decide (y.2 = .local) || !decide (y.1 ∈ N)) && (!decide (y.2 = .free) || decide (sc.names.lookup y.1 = some .cell) || decide (sc.names.lookup y.1 = some .free))
theorem lamD_by {N : List Str} {sc scope : Scope} {x : Str} (h : lamDB N sc scope x = true) : LamD N sc scope x := by
  unfold lamDB at h
  simp only [Bool.and_eq_true, Bool.or_eq_true, Bool.not_eq_true', decide_eq_true_eq, decide_eq_false_iff_not, List.all_eq_true] at h
  obtain ⟨⟨⟨⟨h1, h2⟩, h3⟩, h4⟩, h5⟩ := h
  refine ⟨h1, h2, h3, fun y hy => ⟨(h5 y hy).1.1, fun e => ?_⟩, h4, fun y hy e => ?_⟩
  · rcases (h5 y hy).1.2 with z | z
    · exact absurd e z
    · exact z
  · rcases (h5 y hy).2 with (z | z) | z
    · exact absurd e z
    · exact .inl z
    · exact .inr z
theorem LamD.has {X : Cx} {scope : Scope} {x : Str} (L : LamD X.N X.env.scope scope x) (ok : X.Ok) : ∀ y ∈ scope.names, y.2 = .free → ∃ c, X.env.cells.lookup y.1 = some c := fun y hy e => (L.free y hy e).elim (fun k => ok.has _ (.inl k)) fun k => ok.has _ (.inr k)
section
variable {X : Cx} {pins : List (Addr × Obj)} {σ : L2.St} {H HZ : Hp} {s s1 : Shared}
theorem lamd_start {A : Around} {outer : List Env} {E : XK} {scope : Scope} {x : Str} {f c' : Addr} {h₁ : Heap} {tk : Nat} {m : Str → Option Value} (I : Inv X pins σ H s) (L : LamD X.N X.env.scope scope x) (e0 : Env0 X.prog X.w X.K X.mg X.base A outer s1 HZ) (hd : A.handled = none)
    (un : Un (frs X.stack) [] H HZ s.heap s1.heap) (hns : h₁.Ns s1.heap.objs.size m) (kp : ∀ b o, s1.heap.get? b = some o → h₁.get? b = some o) : Inv (lamCx X A outer s1 HZ E scope f c') [] σ HZ { s1 with heap := h₁, toks := tk } := by
  have hfree := L.has I.ok
  have cm : ∀ {y c}, (cloFrom X.env.cells scope.names []).lookup y = some c → X.env.cells.lookup y = some c := fun {y c} e => by
    rcases cloFrom_mem (PySem.mem_of_lookup e) with hm | ⟨h1, h2⟩
    · cases hm
    · obtain ⟨c1, hc⟩ := hfree _ h1 rfl
      have hc' : X.env.cells.lookup y = some c1 := hc
      rw [hc']
      rw [hc'] at h2
      exact congrArg some h2.symm
  have look : ∀ {y}, scope.names.lookup y = some .free → ∃ c, (cloFrom X.env.cells scope.names []).lookup y = some c := fun {y} hl => mem_lookup (cloFrom_has (cells := X.env.cells) (acc := []) (show (y, NameKind.free) ∈ scope.names from PySem.mem_of_lookup hl))
  have cellK : ∀ {c : Addr} {v : Option Value}, H c = none → s.heap.IsCell c v → h₁.IsCell c v := fun {c v} n ⟨o, ho, hda⟩ => by
    obtain ⟨sl, q⟩ := un.any ho n (by simp)
    exact ⟨_, kp _ _ q, hda⟩
  have noEx : ∀ b : Addr, b ∉ (lamCx X A outer s1 HZ E scope f c').ex := fun b z => nomatch (show b ∈ ([] : List Addr) from z)
  have locNo : ∀ {i : Nat} {y : Str}, X.N[i]? = some y → scope.names.lookup y = some .local → False := fun e1 e3 => (L.own _ (PySem.mem_of_lookup e3)).2 rfl (List.mem_of_getElem? e1)
  have celNo : ∀ {y : Str}, scope.names.lookup y = some .cell → False := fun e3 => (L.own _ (PySem.mem_of_lookup e3)).1 rfl
  have hOk : (lamCx X A outer s1 HZ E scope f c').Ok := by
    refine ⟨e0.mod, L.kind, rfl, rfl, Nat.le_refl _, fun y z c e1 e2 => I.ok.inj y z c (cm e1) (cm e2), fun y hy => ?_, fun y c z _ => ?_, fun _ => hd, Around.frames_deeper e0.frames, .inr ⟨rfl, rfl⟩, fun b z => absurd z (noEx b), e0.bs, e0.bsz, fun b _ _ => noEx b, fun b z => absurd z (noEx b), e0.funs, e0.frf⟩
    · rcases (show scope.names.lookup y = some .cell ∨ scope.names.lookup y = some .free from hy) with hy | hy
      · exact (celNo hy).elim
      · exact look hy
    · cases (show false = true from z)
  refine ⟨hOk, rfl, e0.bare, Un.kept kp, ⟨m, hns, fun i y v e1 e2 e3 => ?_⟩, fun y c e => ?_, e0.hok.fresh (Nat.le_refl _), fun y c e => ?_, (fun q hq => nomatch (show q ∈ ([] : List (Addr × Obj)) ++ [] from hq)), e0.hok.kept kp, I.len⟩
  · rcases (show Vis scope y from e3) with k | k | k
    · exact (locNo e1 k).elim
    · exact (celNo k).elim
    · obtain ⟨m2, hn, hl⟩ := I.loc
      have kf := L.free _ (PySem.mem_of_lookup k) rfl
      obtain ⟨w', r, q⟩ := hl i y v e1 e2 (kf.elim (fun k => .inr (.inl k)) fun k => .inr (.inr k))
      obtain ⟨c2, h2⟩ := look k
      refine ⟨w', r, .inr ⟨.inr k, c2, h2, ?_⟩⟩
      have c1 := cm h2
      rcases q with ⟨k', _⟩ | ⟨_, c3, e', z⟩
      · have k2 : X.env.scope.names.lookup y = some .local := k'
        rcases kf with k3 | k3 <;> (rw [show X.env.scope.names.lookup y = _ from k3] at k2; cases k2)
      · rw [c1] at e'
        cases e'
        exact cellK (I.freeC y _ c1) z
  · obtain ⟨w', z⟩ := I.cell y c (cm e)
    exact ⟨w', cellK (I.freeC y c (cm e)) z⟩
  · obtain ⟨v, o, ho, hda⟩ := I.cell y c (cm e)
    exact un.free c o ho (I.freeC y c (cm e)) (by simp)
/-- the parameter's default is bound -/
def BindD (params : Arguments) (body : Expr) (scope : Scope) (x : Str) : Prop := ∀ (q : Str) (cl : List (Str × Addr)) (T0 : Addr) (doc pm cv ctv : Value) (t0 : Nat),
  ∃ k, bindArgs (PySem.W.kdv_fn "<lambda>" q params (.expr body) scope cl (.ref T0) doc pm cv ctv) ⟨[], []⟩ = seqItems? (.ref T0) >>= k ∧ k (some #[.int 0 t0]) = pure [(x, .int 0 t0)]
/-- a(), in the def that got such a lambda -/
theorem lamd_act {CXg : CXT} {Eg : XK} {Ng : List Str} {qg : Str} {sg : Scope} {g f c' T0 : Addr} {cdg doc pm ctv : Value} {params : Arguments} {body : Expr} {scope : Scope} {x : Str} {k i t0 : Nat} {a : Str} {T : List (Addr × Str)} {H00 : Hp} {pn : List (Addr × Obj)} {xe : Value → Shared → Prop} {W : WX} {E : XK} {tb : TE} {p1 p2 : Pos}
    (M : MadeD X pins σ H00 T params body scope f c' T0 t0 doc pm ctv H s) (L : LamD X.N X.env.scope scope x) (hbind : BindD params body scope x)
    (tk : Takes ((cxOf CXg X.prog X.w X.K X.mg X.base Ng qg sg g cdg X.A X.stack s H Eg).tr pn xe) W) (hW : ∀ cls d σ' H', E cls d H' → W cls d σ' H') (hr : Room (k + 1) (X.A.deeper (envOfC qg sg s.heap.objs.size g cdg)))
    (hbody : ∀ (A : Around) (outer : List Env) (s : Shared) (H : Hp), Room k (A.deeper (lamEnv X scope s.heap.objs.size f c')) → PE (lamCx X A outer s H E scope f c') body tb)
    (hN : Ng[i]? = some a) (hv : Vis sg a) (hd : (a == ("__debug__" : Str)) = false := by decide) (hcd : (a == ("__classdict__" : Str)) = false := by decide) :
    PE ((cxOf CXg X.prog X.w X.K X.mg X.base Ng qg sg g cdg X.A X.stack s H Eg).tr pn xe) (.Call (.Name a p1) [] [] p2) (fun σZ HZ Q => σZ[i]? = some (some (.ref f)) ∧ HZ c' = some (CodeO c' (X.env.qual ++ "<lambda>")) ∧ tb σ HZ Q) := by
  obtain ⟨I, _, _, hf, hT0, hfn, hTn, hfr, hTfr, _⟩ := M
  refine ⟨fun pinsZ sZ σZ HZ Q IZ hz => ?_⟩
  obtain ⟨hs, hc, ht⟩ := hz
  refine wpAny_Call_Name_kw (thn ((pe_var (pos := p1) (i := i) hN hv hd hcd).run pinsZ sZ σZ HZ (fun v H1 => v = .ref f ∧ H1 = HZ) IZ ⟨.ref f, hs, rfl, rfl⟩) fun u s1 ⟨v, H1, I1, r1, q1⟩ => ?_)
  obtain ⟨ev, eH⟩ := q1
  subst ev
  rw [eH] at I1
  obtain rfl : u = Value.ref f := r1
  have noE : ∀ y : Addr, y ∉ ([] : List Addr) := fun y z => nomatch z
  have of1 := I1.base.keep f _ hf hfn hfr (noE f)
  have of2 := I1.base.keep T0 _ hT0 hTn hTfr (noE T0)
  refine PySem.W.callWith_F0 ⟨_, _, _, _, of1⟩ ?_
  have un : Un (frs X.stack) [] H HZ s.heap s1.heap := I1.base
  obtain ⟨⟨oc, vs, t, hoc, hdc, hvc⟩, _, _⟩ := I1.hok c' _ hc
  obtain ⟨kb, hb1, hb2⟩ := hbind (X.env.qual ++ "<lambda>") (cloFrom X.env.cells scope.names []) T0 doc pm (.ref c') ctv t0
  have hB : BindsTo s1 (PySem.W.kdv_fn "<lambda>" (X.env.qual ++ "<lambda>") params (.expr body) scope (cloFrom X.env.cells scope.names []) (.ref T0) doc pm (.ref c') ctv) ⟨[], []⟩ [(x, .int 0 t0)] := BindsTo.of_defaults rfl of2 rfl hb1 hb2
  have rc : codeAny (model X.prog X.w) (X.A.deeper (envOfC qg sg s.heap.objs.size g cdg)) (.call (.ref f) ⟨[], []⟩) (CR (L2.CX X.prog X.w) (envOfC qg sg s.heap.objs.size g cdg :: X.stack) X.prog X.w HZ s1 Q E) s1 := by
    refine PySem.W.kla_callFunE hr.depth of1 rfl L.co L.gen rfl ⟨c', oc, vs, t, rfl, hoc, hdc, hvc⟩ (hB _ _ _ _ ?_)
    refine wpAny_newFunctionEnv (fun y hy => (L.own y hy).1) (fun y hy => ?_) (fun h₁ hns hsb => ⟨I1.nolimit.fresh _ hsb, ?_⟩) L.kind
    · rcases List.mem_cons.mp hy with e | hy
      · rw [e]
        exact L.par
      · cases hy
    · show codeAny _ _ (.expr body (lamEnv X scope s1.heap.objs.size f c')) _ _
      have kp : ∀ b o, s1.heap.get? b = some o → h₁.get? b = some o := fun b o e => hsb.extBut b o (Nat.ne_of_lt (Heap.lt_size e)) (Heap.get?_push_of_some _ e)
      have J := lamd_start (E := E) (f := f) (c' := c') (tk := s1.toks + ([(x, Value.int 0 t0)] : List (Str × Value)).length) I L I1.env0 hr.hd un hns kp
      refine PySem.W.kla_codeExpr (wpAny_mono ((hbody _ _ s1 HZ (hr.deeper _)).run [] _ _ HZ Q J ht) (fun v s' hq => ?_) fun e s' hq => hq)
      obtain ⟨w', H', J', rv, q⟩ := hq
      exact ⟨w', H', J'.os, J'.bare, J'.base, J'.hok, rv, q⟩
  have hx : Passes (L2.CX X.prog X.w) ((cxOf CXg X.prog X.w X.K X.mg X.base Ng qg sg g cdg X.A X.stack s H Eg).tr pn xe) E := passes_call tk hW
  refine wpAny_call (codeAny_mono rc fun r s' hq => ?_)
  cases r with
  | error e => exact hx pinsZ σZ HZ s1 e s' I1 hq
  | ok fl =>
    cases fl with
    | ret u => exact I1.after hq
    | next => cases hq
    | brk => cases hq
    | cont => cases hq
end
section
variable {X : Cx}
/-- g(lambda x=0: body) -/
theorem pe_lamcallD {T : List (Addr × Str)} {TT : (XK → Hp → VK → Prop) → Hp → VK → Prop} {y a x : Str} {g c P : Addr} {k j : Nat} {pg : Arguments} {bg : List Stmt} {sg : Scope} {dV kV doc pm cdv ct oc : Value} {an od : Option Addr} {osl : Array (Option Value)} {Ng : List Str}
    {params : Arguments} {body : Expr} {scope : Scope} {t : XK → TE} {p p0 lpos pos : Pos} (hg : Gl X y) (hm : X.mg y = some (.ref g)) (hk : PySem.W.keepIn X.K (.ref g) = true)
    (lk : X.K.lookup g = some ⟨oc, od, .func (PySem.W.fnOf y y pg bg sg dV kV doc pm an cdv ct), osl⟩) (hcg : PySem.W.codeIn X.K cdv y = true) (hb : L2.Binds X.K (PySem.W.fnOf y y pg bg sg dV kV doc pm an cdv ct) [a] []) (Sg : FnScope Ng [a] sg) (hNg : Ng[0]? = some a) (hva : Vis sg a)
    (hG : LamX.GivesTo X Ng y sg g cdv bg a (X.env.qual ++ "<lambda>") TT) (TB : TabB X.base X.mg c P) (hcode : X.env.code = .ref c) (hmT : (P, X.env.qual ++ "<lambda>") ∈ T) (hu : ∀ p ∈ T, p.1 = P → p.2 = X.env.qual ++ "<lambda>") (hr : Room (k + 2) X.A)
    (L : LamD X.N X.env.scope scope x) (hdef : params.defaults = [.Constant (.int 0) j p0]) (hk0 : params.kw_defaults = []) (hbind : BindD params body scope x)
    (hbody : ∀ (A : Around) (outer : List Env) (s : Shared) (H : Hp) (E : XK) (f c' : Addr), Room k (A.deeper (lamEnv X scope s.heap.objs.size f c')) → PE (lamCx X A outer s H E scope f c') body (t E))
    (hdb : (y == ("__debug__" : Str)) = false := by decide) (hd : (a == ("__debug__" : Str)) = false := by decide) (hcd : (a == ("__classdict__" : Str)) = false := by decide) :
    PE X (.Call (.Name y p) [.Lambda params body scope lpos] [] pos) (LamX.tLam T TT t) := by
  refine ⟨fun pins s σ H Q I hh => ?_⟩
  obtain ⟨hT, hh⟩ := hh
  refine wpAny_Call_Name_kw (ld_glob I hg hm ?_ hdb)
  refine PySem.W.callWith_K (h₀ := X.base) I.ok.mod.kin hk ?_ (by rfl) (by rfl)
  show wpAny _ _ (spliced ((false, eval (.Lambda params body scope lpos) X.env) :: backTo pos (starEach [] X.env))) _ _ s
  refine Calls.spliced_cons (lamd_make I TB hcode hmT hu hT hdef hk0 (L.has I.ok) fun f c' T0 t0 doc' pm' ctv H1 s' M => ?_)
  have I1 := M.1
  refine Calls.spliced_nil ⟨I1.kIn, ?_⟩
  have rc : codeAny (model X.prog X.w) X.A (.call (.ref g) ⟨[.ref f], []⟩) (CR C8.CX0 X.stack X.prog X.w H1 s' Q C8.E0) s' :=
    run_ofS (N := Ng) (ps := [a]) (us := [.ref f]) (vs := [.ref f]) lk hcg Sg hr I1.env0 (hb s' [.ref f] I1.kIn rfl) (.cons rfl .nil) rfl fun hr' => by
      obtain ⟨t', ht', hq'⟩ := hG f c' s' H1 Q (fun E H' Q' => t E σ H' Q') (fun W pn xe E p1 p2 tk hW => lamd_act (i := 0) M L hbind tk hW hr' (fun A outer s H hr2 => hbody A outer s H E f c' hr2) hNg hva hd hcd) M.2.2.2.2.2.2.2.2.2 (hh H1 M.2.1 M.2.2.1)
      exact ⟨t', ht'.nox, hq'⟩
  refine wpAny_call (codeAny_mono rc fun r s2 hq => ?_)
  cases r with
  | error e => cases hq
  | ok fl =>
    cases fl with
    | ret u => exact I1.after hq
    | next => cases hq
    | brk => cases hq
    | cont => cases hq
end
end Lp

set_option Elab.async false
set_option linter.all false
set_option maxRecDepth 100000
set_option maxHeartbeats 4000000
/-! Lostplates: words for the law's own walk. -/
namespace Lp
open PySem PySem.Spec PyProof.Rows L2
open Evl
/-- all that is neither a list nor a table stays -/
def Keep (H H' : Hp) : Prop := ∀ b o, H b = some o → (∀ xs, o ≠ .lst xs) → (∀ ps, o ≠ .tbl ps) → H' b = some o
theorem Keep.fr {rw S : Addr} {H H' : Hp} (f : Fr rw H H') (r : RowAt rw S H) : Keep H H' := fun b o h n _ => f b o (fun e => by
  obtain ⟨_, _, _, h3, _⟩ := r
  rw [e, h3] at h
  exact n _ (Option.some.inj h).symm) h
theorem Keep.en {H H' : Hp} (e : LamX.ExtN H H') : Keep H H' := fun b o h _ n => e b o h n
theorem Keep.tup {H H' : Hp} {a : Addr} {xs : List V} (k : Keep H H') (h : H a = some (.tup xs)) : H' a = some (.tup xs) := k a _ h (fun _ z => by cases z) fun _ z => by cases z
theorem FT.kp {H H' : Hp} {a : Addr} {xs : List V} (k : Keep H H') (h : FT H a xs) : FT H' a xs := by
  obtain ⟨o, h1, h2⟩ := h
  exact ⟨o, h1, k a _ h2 (fun _ z => by cases z) fun _ z => by cases z⟩
theorem ManAt.kp {H H' : Hp} {v : V} {m : Man} (k : Keep H H') (h : ManAt H v m) : ManAt H' v m := by
  cases m with
  | back => exact h
  | keep => exact h
  | guess g =>
    obtain ⟨a, h1, h2⟩ := h
    exact ⟨a, h1, k.tup h2⟩
theorem WaysAt.kp {H H' : Hp} {d : Addr} {names : List Str} {ways : List Man} (k : Keep H H') (h : WaysAt H d names ways) : WaysAt H' d names ways := by
  obtain ⟨vs, h1, h2⟩ := h
  exact ⟨vs, k d _ h1 (fun _ z => by cases z) (fun _ z => by cases z), paired_mono (fun _ _ q => q.kp k) h2⟩
theorem slO_ne {C dx a : Addr} {vs : List (Option V)} : (∀ xs, SlO C dx a vs ≠ .lst xs) ∧ ∀ ps, SlO C dx a vs ≠ .tbl ps := ⟨(fun xs z => by unfold SlO at z; cases z), fun ps z => by unfold SlO at z; cases z⟩
theorem HouseAt.kp {H H' : Hp} {C p : Addr} {h : Hs} (k : Keep H H') (q : HouseAt C H p h) : HouseAt C H' p h := by
  obtain ⟨dx, nT, sT, wD, ⟨s1, s2, s3⟩, h2, h3, h4⟩ := q
  refine ⟨dx, nT, sT, wD, ⟨k _ _ s1 (fun _ z => by cases z) (fun _ z => by cases z), s2, ?_⟩, h2.kp k, k.tup h3, h4.kp k⟩
  rcases s3 with s3 | ⟨s3, s4⟩
  · exact .inl (k _ _ s3 slO_ne.1 slO_ne.2)
  · exact .inr ⟨s3, k _ _ s4 (fun _ z => by cases z) fun _ z => by cases z⟩
theorem EntAt.kp {names : List Str} {H H' : Hp} {a : Addr} {t : Ent} (k : Keep H H') (h : EntAt names H a t) : EntAt names H' a t := by
  obtain ⟨x, h1, h2⟩ := h
  exact ⟨x, h1, k.tup h2⟩
theorem LogL.en {names : List Str} {H H' : Hp} {p : Addr} {log : List Ent} (e : LamX.ExtN H H') (h : LogL names H p log) : LogL names H' p log := by
  obtain ⟨as, h1, h2⟩ := h
  exact ⟨as, e _ _ h1 (fun _ z => by cases z), paired_mono (fun _ _ q => q.kp (Keep.en e)) h2⟩
section
variable {K : PySem.W.Frag} {σ : L2.St} {H : Hp} {ta tb te : TE} {r : Addr} {os : List (List Nat)}
/-- rows of a call, compared with rows -/
theorem ev_neRows (hg : EvG ta σ H (fun v H' => ∃ u, v = .ref u ∧ OrdL H' u os)) (hb : Ev tb σ H (.ref r)) (hr : OrdL H r os) : Ev (tOp (rNeD K) ta tb) σ H (.bl false) := fun H1 e Q q =>
  hg H1 e _ fun v H2 e2 ⟨u, hv, hu⟩ => by
    subst hv
    refine hb H2 (e.trans e2) _ fun H3 e3 => ⟨pdRows os, pdRows os, dp_rows (hu.ex e3), dp_rows (hr.ex ((e.trans e2).trans e3)), shp_rows _, shp_rows _, ?_⟩
    rw [eqv_rows, decide_eq_true rfl]
    exact q H3 (e2.trans e3)
theorem ev_eqRows (hg : EvG ta σ H (fun v H' => ∃ u, v = .ref u ∧ OrdL H' u os)) (hb : Ev tb σ H (.ref r)) (hr : OrdL H r os) : Ev (tOp (rEqD K) ta tb) σ H (.bl true) := fun H1 e Q q =>
  hg H1 e _ fun v H2 e2 ⟨u, hv, hu⟩ => by
    subst hv
    refine hb H2 (e.trans e2) _ fun H3 e3 => ⟨pdRows os, pdRows os, dp_rows (hu.ex e3), dp_rows (hr.ex ((e.trans e2).trans e3)), shp_rows _, shp_rows _, ?_⟩
    rw [eqv_rows, decide_eq_true rfl]
    exact q H3 (e2.trans e3)
theorem ev_eqNs {ns : List Nat} (hg : EvG ta σ H (fun v H' => ∃ u, v = .ref u ∧ H' u = some (.lst (ns.map bx)))) (hb : Ev tb σ H (.ref r)) (hr : H r = some (.lst (ns.map bx))) : Ev (tOp (rEqD K) ta tb) σ H (.bl true) := fun H1 e Q q =>
  hg H1 e _ fun v H2 e2 ⟨u, hv, hu⟩ => by
    subst hv
    refine hb H2 (e.trans e2) _ fun H3 e3 => ⟨pdNs ns, pdNs ns, dp_ns (e3 _ _ hu), dp_ns (((e.trans e2).trans e3) _ _ hr), shp_Ns _, shp_Ns _, ?_⟩
    rw [eqv_Ns, decide_eq_true rfl]
    exact q H3 (e2.trans e3)
theorem empty_rows (os : List (List Nat)) : PyData.eqv (pdRows os) (pdRows []) = os.isEmpty := by
  rw [eqv_rows]
  cases os <;> rfl
theorem ev_noRowsG (hg : EvG ta σ H (fun v H' => ∃ u, v = .ref u ∧ OrdL H' u os)) : Ev (tOp (rEqD K) ta (tLst tNil)) σ H (.bl os.isEmpty) := fun H1 e Q q =>
  hg H1 e _ fun v H2 e2 ⟨u, hv, hu⟩ => by
    subst hv
    refine ⟨Nat.zero_le _, fun p hp => ?_⟩
    have e3 : Ex H2 (upd H2 p (.lst [])) := Ex.new hp
    refine ⟨pdRows os, pdRows [], dp_rows (hu.ex e3), .lst (.inl (.inl upd_same)) .nil, shp_rows _, shp_rows _, ?_⟩
    rw [empty_rows]
    exact q _ (e2.trans e3)
theorem ev_noRowsL (h : EvLG te σ H (fun us H' => Paired (fun v o => ∃ c, v = .ref c ∧ TupAt H' c o) us os)) : Ev (tOp (rEqD K) te (tLst tNil)) σ H (.bl os.isEmpty) := fun H1 e Q q =>
  h H1 e _ fun l H2 us hl e2 h2 hP => by
    obtain ⟨as, rfl, has⟩ := paired_refs hP
    refine ⟨Nat.zero_le _, fun p hp => ?_⟩
    have e3 : Ex H2 (upd H2 p (.lst [])) := Ex.new hp
    refine ⟨pdRows os, pdRows [], dp_rows ⟨as, e3 _ _ h2, paired_mono (fun _ _ z => z.ex e3) has⟩, .lst (.inl (.inl upd_same)) .nil, shp_rows _, shp_rows _, ?_⟩
    rw [empty_rows]
    exact q _ (e2.trans e3)
theorem ev_someNs {p : Addr} {ns : List Nat} (h : Ev te σ H (.ref p)) (ho : H p = some (.lst (ns.map bx))) : Ev (tOp (rNeD K) te (tLst tNil)) σ H (.bl (!ns.isEmpty)) :=
  ev_opL h (el_lst ea_nil (Nat.zero_le _)) fun q H1 hq e1 => rv_neD (d := pdNs ns) (e := pdNs []) (fun H2 e2 => dp_ns (e2 _ _ (e1 _ _ ho))) (fun H2 e2 => dp_nil (e2 _ _ hq)) (shp_Ns _) (shp_Ns _) (by
    rw [eqv_Ns]
    cases ns <;> rfl)
/-- len(set(..)) == 1: all are alike -/
theorem once_sure {ns : List Nat} {n0 : Nat} (h0 : n0 ∈ ns) : decide ((once (ns.map fun (n : Nat) => (n : Int))).length = 1) = ns.all fun n => n == n0 := by
  have hm : ((n0 : Nat) : Int) ∈ ns.map fun (n : Nat) => (n : Int) := List.mem_map.mpr ⟨n0, h0, rfl⟩
  rw [Bool.eq_iff_iff, decide_eq_true_iff, List.all_eq_true]
  constructor
  · intro h n hn
    rw [beq_iff_eq]
    refine Decidable.byContradiction fun hne => once_two (a := (n : Int)) (b := (n0 : Int)) (List.mem_map.mpr ⟨n, hn, rfl⟩) hm (fun e => hne (by omega)) h
  · intro h
    refine once_one (n := (n0 : Int)) (fun e => by rw [e] at hm; cases hm) fun k hk => ?_
    obtain ⟨n, hn, rfl⟩ := List.mem_map.mp hk
    have := beq_iff_eq.mp (h n hn)
    rw [this]
end
theorem ev_lenOnce {K : PySem.W.Frag} {σ : L2.St} {H : Hp} {te : TE} {ns : List Int} {P : List V → Hp → Prop} (h : EvLG te σ H P) (hP : ∀ us H', P us H' → us = ns.map V.int) (hl : ns.length ≤ 4000) : Ev (tLenOnce K te) σ H (.int ((once ns).length : Nat)) := fun H1 e Q q =>
  h H1 e _ fun p H2 us hp e2 h2 hu => ⟨p, ns, rfl, .inl (.inl (by rw [h2, hP _ _ hu])), hl, q H2 e2⟩
theorem tabs_ex {T : List (Addr × Str)} {H H' : Hp} (e : Ex H H') (h : LamX.Tabs T H) : LamX.Tabs T H' := fun p hp => by
  obtain ⟨ps, a1, a2, a3⟩ := h p hp
  refine ⟨ps, e _ _ a1, a2, fun pos cv hc => ?_⟩
  obtain ⟨c0, b1, b2⟩ := a3 pos cv hc
  exact ⟨c0, b1, e _ _ b2⟩
theorem sure_eq {r0 : List Nat} {R : List (List Nat)} (h0 : r0 ∈ R) (i : Nat) : decide (V.int ((once ((R.map fun o => o.getD i 0).map fun (n : Nat) => (n : Int))).length : Nat) = V.int 1) = sure r0 R i := by
  have h1 : decide (V.int ((once ((R.map fun o => o.getD i 0).map fun (n : Nat) => (n : Int))).length : Nat) = V.int 1) = decide ((once ((R.map fun o => o.getD i 0).map fun (n : Nat) => (n : Int))).length = 1) := by
    rw [Bool.eq_iff_iff, decide_eq_true_iff, decide_eq_true_iff]
    exact ⟨fun h => by have := V.int.inj h; omega, fun h => by rw [h]; rfl⟩
  rw [h1, once_sure (n0 := r0.getD i 0) (List.mem_map.mpr ⟨r0, h0, rfl⟩), List.all_map]
  rfl
theorem valV_mem : ∀ {kvs : List (Key × V)}, (kvs.map (·.1)).Nodup → ∀ p ∈ kvs, valV kvs p.1 = some p.2
  | [], _, p, hp => by cases hp
  | q :: kvs, nd, p, hp => by
    rw [List.map_cons] at nd
    obtain ⟨n1, n2⟩ := List.nodup_cons.mp nd
    rcases List.mem_cons.mp hp with e | hp
    · rw [e]
      exact valV_pos rfl
    · rw [valV_neg fun e => n1 (by rw [e]; exact List.mem_map.mpr ⟨p, hp, rfl⟩)]
      exact valV_mem n2 p hp
/-- the names of the sure ones -/
def surN (names : List Str) (r0 : List Nat) (rows : List (List Nat)) : List Str := ((List.range names.length).filter (sure r0 rows)).map fun k => names.getD k Str.empty
theorem surK_keys (names : List Str) (r0 : List Nat) (rows : List (List Nat)) : (surK names r0 rows names.length).map (·.1) = (surN names r0 rows).map Sum.inr := by
  unfold surK surN
  rw [List.map_map, List.map_map]
  rfl
theorem range_get (names : List Str) : (List.range names.length).map (fun k => names.getD k Str.empty) = names := by
  refine List.ext_getElem (by rw [List.length_map, List.length_range]) fun i h1 h2 => ?_
  rw [List.getElem_map, List.getElem_range, List.getD_eq_getElem?_getD, List.getElem?_eq_getElem h2]
  rfl
theorem surN_sub (names : List Str) (r0 : List Nat) (rows : List (List Nat)) : (surN names r0 rows).Sublist names := by
  have h := (List.filter_sublist (p := sure r0 rows) (l := List.range names.length)).map fun k => names.getD k Str.empty
  rw [range_get] at h
  exact h
theorem surK_nd {names : List Str} (nd : names.Nodup) (r0 : List Nat) (rows : List (List Nat)) : ((surK names r0 rows names.length).map (·.1)).Nodup := by
  rw [surK_keys]
  exact List.Pairwise.map _ (fun a b h e => h (Sum.inr.inj e)) ((surN_sub names r0 rows).nodup nd)
theorem first_head (f : Nat → Bool) (n : Nat) : (List.range n).find? f = ((List.range n).filter f).head? := (List.head?_filter ..).symm
theorem free_eq (n : Nat) (rows : List (List Nat)) : ((List.range n).filter fun b => (rows.filter fun o => o.contains b).isEmpty) = freeB n rows := by
  unfold freeB
  refine List.filter_congr fun b _ => ?_
  rw [Bool.eq_iff_iff, List.isEmpty_iff, List.filter_eq_nil_iff, Bool.not_eq_true', List.any_eq_false]
end Lp

set_option Elab.async false
set_option linter.all false
set_option maxRecDepth 100000
set_option maxHeartbeats 8000000
/-! Lostplates: the walk of the law. -/
namespace Lp
open PySem PySem.Spec PyProof.Rows L2
open Evl
abbrev sLaw : Stmt := top 64
abbrev nmLaw : List Str := ["_law_script", "_law_row", "_law_plan", "_law_rows", "_law_due", "_law_k", "_law_wrong", "_law_some", "_law_sure", "_law_found", "_law_free", "_law_house", "_law_log", "_law_box"]
theorem scLaw : FnScope nmLaw ["_law_script"] (defScope sLaw) := ⟨rfl, rfl, rfl, by decide +kernel, rfl, by decide +kernel, by decide +kernel⟩
def scpFreeL : Scope := { kind := .function, names := [(".0", .local), ("_law_box", .cell), ("_law_due", .free)], isGenerator := false, isCoroutine := false, more := [] }
section
variable {P : Program} {w : World} {K : PySem.W.Frag} {mg : Str → Option Value} {base : Heap} {C CN : Addr}
def spLaw (K : PySem.W.Frag) (Pt : Addr) : Sp := fun vs H Q _ => ∃ (a : Addr) (ns : List Int), vs = [.ref a] ∧ SqL K H a (ns.map V.int) ∧ H Pt = some (.tbl #[]) ∧ ∀ H', Q (.bl true) H'
structure LawDefs (P : Program) (w : World) (K : PySem.W.Frag) (mg : Str → Option Value) (base : Heap) (C CN : Addr) : Prop where
  scheme : Df P w K mg base CX0 3 "_law_scheme" (spScheme K)
  built : Df P w K mg base CX0 6 "_law_built" (spG (gBuilt C))
  notes : Df P w K mg base CX0 3 "_law_notes" (spNotes K)
  orders : Df P w K mg base CX0 2 "_law_orders" (spG gLOrders)
  left : Df P w K mg base CX0 3 "_law_left" (spG gLLeft)
  possible : Df P w K mg base CX0 5 "possible" (spG (gPossible C))
  first : Df P w K mg base CX0 5 "first_wrong" (spV (gFirst C))
  behind : Df P w K mg base (L2.CX P w) 6 "surely_behind" (spBehind C CN)
  free : Df P w K mg base (L2.CX P w) 6 "surely_free" (spFree C CN)
theorem ok_law {f c Pt : Addr} {od an : Option Addr} {osl : Array (Option Value)} {oc kV doc pm ct dV : Value} (lk : K.lookup f = some ⟨oc, od, .func (PySem.W.fnOf "law" "law" (defArgs sLaw) (defBody sLaw) (defScope sLaw) dV kV doc pm an (.ref c) ct), osl⟩)
    (hcd : PySem.W.codeIn K (.ref c) "law" = true) (T : Tx K mg) (R : Rx K mg CN) (DR : DefAt K mg "_law_raised" sRaised) (F : LawDefs P w K mg base C CN) (TB : LamX.TabB base mg c Pt) :
    FnOk P w K mg base CX0 9 f (PySem.W.fnOf "law" "law" (defArgs sLaw) (defBody sLaw) (defScope sLaw) dV kV doc pm an (.ref c) ct) ["_law_script"] (spLaw K Pt) := by
  obtain ⟨g, fdR, hmR, FR⟩ := DR
  have hbR : Binds K fdR ["_law_work"] [] := FR.bindsN fun _ _ _ _ _ _ us hl => match us, hl with | [_], _ => rfl
  have hkR := FR.kp
  obtain ⟨ocR, odR, dVR, kVR, docR, pmR, anR, cdR, ctR, oslR, rfl, lkR, hcR, _, _⟩ := FR.ex
  refine fn_of lk hcd scLaw (fun vs H Q E h => ?_) (fun A outer s H vs Q E hr h => ?_)
  · obtain ⟨a, ns, rfl, _⟩ := h
    rfl
  · obtain ⟨a, ns, rfl, hsq, htb, kk⟩ := h
    have hr6 : Room 6 _ := hr.mono (by decide)
    have hr5 : Room 5 _ := hr.mono (by decide)
    have hr3 : Room 3 _ := hr.mono (by decide)
    have hr2 : Room 2 _ := hr.mono (by decide)
    have nd := scLaw.nd
    obtain ⟨q, hq⟩ : ∃ q, (cxOf CX0 P w K mg base nmLaw "law" (defScope sLaw) f (.ref c) A outer s H E).nox.env.qual ++ "<lambda>" = q := ⟨_, rfl⟩
    have memT : ∀ p ∈ [(Pt, q)], p.2 = q := fun p hp => by
      rcases List.mem_cons.mp hp with e | hp
      · rw [e]
      · cases hp
    have hterm : ∃ t, PSs (cxOf CX0 P w K mg base nmLaw "law" (defScope sLaw) f (.ref c) A outer s H E).nox (defBody sLaw) t ∧ t { nx := fun _ H' => Q .non H', rt := Q } (start nmLaw [V.ref a]) H := by
      refine ⟨_, pss_cons (ps_set (i := 1) nd rfl (Or.inl rfl) (pe_lst (pa_cons (pv 0) (pa_cons pe_int (pa_cons pe_int (pa_cons pe_int pa_nil))))))
        (pss_cut (ps_set (i := 2) nd rfl (Or.inr rfl) (pe_df F.scheme hr3 (by rfl) pass0 (pa_cons (pv 1) (pa_cons pe_int pa_nil))))
        (pss_cut (ps_asg (pe_tup (pa_cons (pe_df F.built hr6 (by rfl) pass0 (pa_cons (pv 2) pa_nil)) (pa_cons (pe_df F.notes hr3 (by rfl) pass0 (pa_cons (pv 1) (pa_cons (pv 2) (pa_cons pe_int pa_nil)))) (pa_cons (pe_df F.orders hr2 (by rfl) pass0 (pa_cons (pv 2) pa_nil)) pa_nil))))
          (pg_tup rfl (pgs_cons (pg_name (i := 11) nd rfl (Or.inr rfl)) (pgs_cons (pg_name (i := 12) nd rfl (Or.inr rfl)) (pgs_cons (pg_name (i := 3) nd rfl (Or.inr rfl)) pgs_nil)))))
        (pss_cons (ps_set (i := 4) nd rfl (Or.inr rfl) (pe_df F.left hr3 (by rfl) pass0 (pa_cons (pv 2) (pa_cons (pv 3) (pa_cons (pv 12) pa_nil)))))
        (pss_cons (ps_if (pt_cmpR (op_neD hr.units) (pe_df F.possible hr5 (by rfl) pass0 (pa_cons (pv 11) (pa_cons (pv 12) pa_nil))) (pv 4) (nomark _)) (pss_one (ps_ret pe_bl)) pss_nil)
        (pss_cons (ps_setLc (i := 6) (own := [("_law_k", 5)]) (g := gName 5) (te := tVar 5) (tt := tTest (tOp (rEqD K) (tCl (spG gLLeft) E0 (tCons (tVar 2) (tCons (tVar 3) (tCons (tSl (rSlL K) (tVar 12) tNoPart (tPart (tVar 5))) tNil)))) (tLst tNil))) rfl nd rfl rfl (sw_true rfl rfl rfl (by decide +kernel))
            (pi_range1 (by rfl) T.range (pa_cons (pe_op op_add (pe_callB call_len_seq (by rfl) T.len PySem.boot_len (pa_cons (pv 12) pa_nil)) pe_int) pa_nil)) (blkOk_by (N := nmLaw) (sc := defScope sLaw) (by decide +kernel))
            (fun _ _ _ _ _ => pg_name (i := 5) nd rfl (Or.inl rfl))
            (fun _ _ _ _ _ => pts_one (pt_cmpR (op_eqD hr.units) (pe_df F.left hr3 (by rfl) pass0 (pa_cons (pv 2) (pa_cons (pv 3) (pa_cons (pe_slice sl_list (pv 12) po_none (po_some (pv 5))) pa_nil)))) (pe_lst pa_nil) (nomark _)))
            (fun _ _ _ _ _ => pv 5))
        (pss_cons (ps_if (pt_cmpR op_ne (pe_df F.first hr5 (by rfl) pass0 (pa_cons (pv 11) (pa_cons (pv 12) pa_nil))) (pe_ifExp (pt_cmpR (op_neD hr.units) (pv 6) (pe_lst pa_nil) (nomark _)) (pe_ix ix_list (pv 6) pe_int (fun _ _ => rfl)) pe_non) (nomark _)) (pss_one (ps_ret pe_bl)) pss_nil)
        (pss_cons (ps_if (pt_cmpR (op_eqD hr.units) (pv 4) (pe_lst pa_nil) (nomark _))
          (pss_cons (ps_set (i := 7) nd rfl (Or.inl rfl) (pe_lst (pa_cons
            (LamX.pe_lamcall (T := [(Pt, q)]) (TT := TRaised CN) (Ng := nmRaised) (t := fun E => tCl (spBehind C CN) E (tCons (tVar 11) (tCons (tVar 12) tNil))) (k := 6) (by rfl) hmR hkR lkR hcR hbR scRaised rfl (Or.inl rfl) (by rw [hq]; exact raised_gives R T.isi) TB rfl (by rw [hq]; exact List.mem_cons_self ..) (fun p hp _ => by rw [hq]; exact memT p hp) hr
              (LamX.lamS_by (sc := defScope sLaw) (by decide +kernel)) rfl (fun _ _ _ _ _ => rfl)
              (fun A outer s H E f c' hr2 => pe_df F.behind hr2 (by rfl) (passes_call (takes_of rfl rfl rfl rfl) fun _ _ _ _ z => z) (pa_cons (pv 11) (pa_cons (pv 12) pa_nil))))
            (pa_cons
            (pe_lamcallD (T := [(Pt, q)]) (TT := TRaised CN) (Ng := nmRaised) (x := "_law_x") (t := fun E => tCl (spFree C CN) E (tCons (tVar 11) (tCons (tVar 12) tNil))) (k := 6) (by rfl) hmR hkR lkR hcR hbR scRaised rfl (Or.inl rfl) (by rw [hq]; exact raised_gives R T.isi) TB rfl (by rw [hq]; exact List.mem_cons_self ..) (fun p hp _ => by rw [hq]; exact memT p hp) hr
              (lamD_by (N := nmLaw) (sc := defScope sLaw) (by decide +kernel)) rfl rfl (fun _ _ _ _ _ _ _ _ => ⟨_, rfl, rfl⟩)
              (fun A outer s H E f c' hr2 => pe_df F.free hr2 (by rfl) (passes_call (takes_of rfl rfl rfl rfl) fun _ _ _ _ z => z) (pa_cons (pv 11) (pa_cons (pv 12) pa_nil))))
            pa_nil))))
          (pss_one (ps_ret (pe_cmpR (op_eqD hr.units) (pv 7) (pe_lst (pa_cons (pe_tup (pa_cons pe_str pa_nil)) (pa_cons (pe_tup (pa_cons pe_str pa_nil)) pa_nil))) (nomark _))))) pss_nil)
        (pss_cons (ps_set (i := 8) nd rfl (Or.inl rfl) pe_dnewK)
        (pss_cut (ps_for PassesOwn.never rfl (pi_range1 (by rfl) T.range (pa_cons (pe_callB call_len_seq (by rfl) T.len PySem.boot_len (pa_cons (pe_ix ix_tup (pv 2) pe_int (fun _ _ => rfl)) pa_nil)) pa_nil)) (pg_name (i := 5) nd rfl (Or.inr rfl))
          (pss_one (ps_if (pt_cmpR op_eq (pe_lenOnce (by rfl) T.len (by rfl) T.set (pe_lc (own := [("_law_some", 7)]) (g := gName 7) (te := tOp (rIxT K) (tVar 7) (tVar 5)) (tt := tYes) rfl nd (pi_list (pv 4)) (blkOk_by (N := nmLaw) (sc := defScope sLaw) (by decide +kernel))
              (fun _ _ _ _ _ => pg_name (i := 7) nd rfl (Or.inl rfl)) (fun _ _ _ _ _ => pts_nil) (fun _ _ _ _ _ => pe_ix ix_tup (pv 7) (pv 5) (fun _ _ => rfl)))) pe_int (nomark _))
            (pss_one (ps_dput (hu_of hr) (pv 8) (pe_ix ix_tup (pe_ix ix_tup (pv 2) pe_int (fun _ _ => rfl)) (pv 5) (fun _ _ => rfl)) (pe_ix ix_tup (pe_ix ix_list (pv 4) pe_int (fun _ _ => rfl)) (pv 5) (fun _ _ => rfl)) rfl)) pss_nil)))
        (pss_cons (ps_set (i := 9) nd rfl (Or.inl rfl) (pe_df F.behind hr6 (by rfl) passL (pa_cons (pv 11) (pa_cons (pv 12) pa_nil))))
        (pss_cons (ps_if (PW.pt (pw_or (pt_cmpR (op_ne_dictA hr.units0) (pv 9) (pv 8) (nomark _)) (pw_or1 (pt_cmpR (op_neD hr.units) (pe_callTy (call_listD rfl) (by rfl) T.list boot_list (pa_cons (pv 9) pa_nil)) (pe_callB (call_sortedD rfl) (by rfl) T.sorted boot_sorted (pa_cons (pv 8) pa_nil)) (nomark _))))) (pss_one (ps_ret pe_bl)) pss_nil)
        (pss_cons (ps_setLc (i := 10) (own := [("_law_box", 13)]) (g := gName 13) (te := tVar 13) (tt := tTest (tOp (rEqD K) (tLc (iList K (tVar 4)) (gName 7) (tTest (tOp (rIn K false) (tVar 13) (tVar 7))) (tVar 7) [7]) (tLst tNil))) rfl nd rfl rfl (sw_true rfl rfl rfl (by decide +kernel))
            (pi_range1 (by rfl) T.range (pa_cons (pe_callB call_len_seq (by rfl) T.len PySem.boot_len (pa_cons (pe_ix ix_tup (pv 2) pe_int (fun _ _ => rfl)) pa_nil)) pa_nil)) (blkOk_by (N := nmLaw) (sc := defScope sLaw) (by decide +kernel))
            (fun _ _ _ _ _ => pg_name (i := 13) nd rfl (Or.inr rfl))
            (fun _ _ _ _ _ => pts_one (pt_cmpR (op_eqD hr.units) (pe_lc (own := [("_law_some", 7)]) (g := gName 7) (te := tVar 7) (tt := tTest (tOp (rIn K false) (tVar 13) (tVar 7))) rfl nd (pi_list (pv 4)) (blkOk_by (N := nmLaw) (sc := relS scpFreeL (defScope sLaw)) (by decide +kernel))
              (fun _ _ _ _ _ => pg_name (i := 7) nd rfl (Or.inl rfl)) (fun _ _ _ _ _ => pts_one (pt_cmpR op_in_seq (pv 13) (pv 7) rfl)) (fun _ _ _ _ _ => pv 7)) (pe_lst pa_nil) (nomark _)))
            (fun _ _ _ _ _ => pv 13))
        (pss_one (ps_ret (pe_and (pe_cmpR (op_eqD hr.units) (pe_df F.free hr6 (by rfl) passL (pa_cons (pv 11) (pa_cons (pv 12) pa_nil))) (pv 10) (nomark _))
          (pe_one (pe_cmpR (op_eqD hr.units) (pe_df F.possible hr5 (by rfl) pass0 (pa_cons (pv 11) (pa_cons (pe_lst pa_nil) pa_nil))) (pv 3) (nomark _)))))))))))))))))), ?_⟩
      have h0a : ScrAt K a H := ⟨ns, hsq⟩
      refine q_asgL (el_lst (ea_cons (ev_var rfl) (ea_cons ev_c (ea_cons ev_c (ea_cons ev_c ea_nil)))) (by show 4 ≤ 100000; decide)) fun rw H1 hrw e1 h1 => ?_
      have w1 : RowAt rw a H1 := ⟨0, 0, 0, h1, by decide, by decide, by decide⟩
      have ap : Apart K rw a := by
        rcases hsq with hsq | hsq
        · refine .inl fun e => ?_
          rw [e] at hsq
          rcases hsq with h | ⟨o, h⟩ <;> (rw [hrw] at h; cases h)
        · exact .inr fun H2 => ⟨ns, .inr hsq⟩
      have nPt : Pt ≠ rw := fun e => by
        rw [e, hrw] at htb
        cases htb
      have tb1 := e1 _ _ htb
      -- plan
      refine q_cut (M := fun σ' H' => ∃ (p : Addr) (h : Hs) (tr : List Nat), σ' = [some (.ref a), some (.ref rw), some (.ref p), none, none, none, none, none, none, none, none, none, none, none] ∧ h.Fine ∧ tr.length = h.names.length ∧ Fr rw H1 H' ∧ RowAt rw a H' ∧ PlanAt (cut rw H') p h tr) ?_ ?_
      · exact ⟨_, rfl, rw, a, rfl, ap, h0a.ex e1, w1, fun p h tr H' hF hl hb f w' hp => ⟨p, h, tr, rfl, hF, hl, f, w', hp⟩⟩
      rintro σ2 H2 ⟨p, h, tr, rfl, hF, htr, f2, w2, hp2⟩
      have O := hF.ok
      have sc2 := (h0a.ex e1).fr f2 ap
      have tb2 := f2 _ _ nPt tb1
      -- house, log, rows
      refine q_cut (M := fun σ' H' => ∃ (x fl u : Addr) (log : List Ent), σ' = [some (.ref a), some (.ref rw), some (.ref p), some (.ref u), none, none, none, none, none, none, none, some (.ref x), some (.ref fl), none] ∧ HouseAt C H' x h ∧ PlanAt H' p h tr ∧ LogL h.names H' fl log ∧ LogOk h log ∧ OrdL H' u h.ords ∧ H' Pt = some (.tbl #[])) ?_ ?_
      · refine ⟨_, rfl, _, ⟨p, h, tr, rfl, hp2.ex cut_ex, hF, rfl⟩, fun v H3 e3 ⟨x, hv, hx⟩ => ?_⟩
        subst hv
        have r3 := (Run.of ap sc2 w2).ex' e3
        refine ⟨_, rfl, _, rfl, rw, a, p, h, tr, rfl, ap, sc2.ex e3, w2.ex e3, hp2.ex r3.sub, O, htr, fun fl log H4 hfl f4 w4 hlog L => ?_⟩
        have hp4 : PlanAt H4 p h tr := hp2.ex ((r3.fr f4 w4).ex)
        refine ⟨_, rfl, _, ⟨p, h, tr, rfl, hp4, O, rfl⟩, fun v H5 e5 ⟨u, hv, _, hu⟩ => ?_⟩
        subst hv
        refine ⟨by show 3 ≤ sizeLine; decide, fun T' hT => ?_⟩
        have e6 : Ex H5 (upd H5 T' (.tup [.ref x, .ref fl, .ref u])) := Ex.new hT
        refine g_three (.inl (.inl upd_same)) ?_
        exact ⟨x, fl, u, log, rfl, (hx.kp (Keep.fr f4 (w2.ex e3))).ex (e5.trans e6), hp4.ex (e5.trans e6), (hlog.ex cut_ex).ex (e5.trans e6), L, hu.ex e6, e6 _ _ (e5 _ _ (f4 _ _ nPt (e3 _ _ tb2)))⟩
      rintro σ3 H3 ⟨x, fl, u, log, rfl, hx, hp3, hlog, L, hu, tb3⟩
      have hl6 : log.length ≤ 6 := L.len
      have hlens : ∀ o ∈ h.ords, o.length = h.names.length := ords_lens
      have hmany : h.ords.length ≤ 625 := ords_le O
      -- due
      have gLft : ∀ {σ : L2.St} {H5 : Hp} {ta tb tc : TE} {E : XK}, Ex H3 H5 → Ev ta σ H5 (.ref p) → Ev tb σ H5 (.ref u) → Ev tc σ H5 (.ref fl) → EvG (tCl (spG gLLeft) E (tCons ta (tCons tb (tCons tc tNil)))) σ H5 (fun v H' => ∃ r, v = .ref r ∧ OrdL H' r (left h.ways h.ords log)) := fun e5 z1 z2 z3 =>
        ev_cl (ea_cons z1 (ea_cons z2 (ea_cons z3 ea_nil))) fun H6 e6 Q q' E => ⟨_, ⟨p, u, fl, h, tr, h.ords, log, rfl, hp3.ex (e5.trans e6), O, hu.ex (e5.trans e6), hlens, hmany, hlog.ex (e5.trans e6), L, rfl⟩, fun v H7 e7 ⟨r, r1, _, r3⟩ => q' v H7 e7 ⟨r, r1, r3⟩⟩
      have gPos : ∀ {σ : L2.St} {H5 : Hp} {ta tb : TE} {E : XK}, Ex H3 H5 → Ev ta σ H5 (.ref x) → Ev tb σ H5 (.ref fl) → EvG (tCl (spG (gPossible C)) E (tCons ta (tCons tb tNil))) σ H5 (fun v H' => ∃ r, v = .ref r ∧ OrdL H' r (left h.ways h.ords log)) := fun e5 z1 z2 =>
        ev_cl (ea_cons z1 (ea_cons z2 ea_nil)) fun H6 e6 Q q' E => ⟨_, ⟨x, fl, h, log, rfl, hx.ex (e5.trans e6), O, hlog.ex (e5.trans e6), L, rfl⟩, fun v H7 e7 ⟨r, r1, _, r3⟩ => q' v H7 e7 ⟨r, r1, r3.tup⟩⟩
      refine q_asgG (gLft (Ex.refl _) (ev_var rfl) (ev_var rfl) (ev_var rfl)) fun v H4 e4 ⟨due, hv, hdue⟩ => ?_
      subst hv
      -- possible
      refine q_when (b := false) (et_test (ev_neRows (gPos e4 (ev_var rfl) (ev_var rfl)) (ev_var rfl) hdue)) (fun hb => by cases hb) (fun _ H5 e5 => ?_)
      -- wrong
      obtain ⟨las, hla, hlas⟩ := id hlog
      have hll := paired_len hlas
      have e35 := e4.trans e5
      have hn : ((las.map V.ref).length : Int) + 1 = ((log.length + 1 : Nat) : Int) := by
        rw [List.length_map, hll]
        omega
      refine q_asgLG (el_lstV (l := List.range (log.length + 1)) (ei_rngL (ea_cons (ev_is (ev_op (ev_len (ev_var rfl) (.inl (.inl (e35 _ _ hla)))) ev_c rv_I0) (by rw [hn])) ea_nil) (by omega)) (by rw [List.length_range]; omega) (fun k => (left h.ways h.ords (log.take k)).isEmpty) bx ?_) fun wr H6 us hwr e6 h6 hus => ?_
      · rintro k b HA x' HB hb eA ⟨rfl, rfl⟩
        obtain ⟨rfl, hbn⟩ := range_at hb
        have e0A := e35.trans eA
        refine ⟨Ex.refl _, [some (.ref a), some (.ref rw), some (.ref p), some (.ref u), some (.ref due), some (bx b), none, none, none, none, none, some (.ref x), some (.ref fl), none], rfl, fun Kk z => z _ (Ex.refl _), et_test (ev_noRowsG (ev_clL (xs := (las.take b).map V.ref) (ev_var rfl) (ev_var rfl) ?_ fun c H7 e7 hc Q' qq E => ?_)), fun _ => Evl_g (ev_var rfl)⟩
        · have := el_sl (K := K) (te := tVar 12) (σ := [some (.ref a), some (.ref rw), some (.ref p), some (.ref u), some (.ref due), some (bx b), none, none, none, none, none, some (.ref x), some (.ref fl), none]) (H := HB) (ev_var rfl) eo_none (eo_some (te := tVar 5) (i := (b : Int)) (ev_var rfl)) (.inl (.inl (e0A _ _ hla)))
          rw [cutV_take (by rw [List.length_map, hll]; omega), ← List.map_take] at this
          exact this
        · have e07 := e0A.trans e7
          exact ⟨_, ⟨p, u, c, h, tr, h.ords, log.take b, rfl, hp3.ex e07, O, hu.ex e07, hlens, hmany, ⟨las.take b, hc, paired_take b (paired_mono (fun _ _ z => z.ex e07) hlas)⟩, L.take b, rfl⟩, fun v H8 e8 ⟨r, r1, _, r3⟩ => qq v H8 e8 ⟨r, r1, r3⟩⟩
      -- first wrong
      have e36 := e35.trans e6
      obtain ⟨fw, hfw⟩ : ∃ fw, (List.range (log.length + 1)).filter (fun k => (left h.ways h.ords (log.take k)).isEmpty) = fw := ⟨_, rfl⟩
      have hfirst : firstWrong h.ways h.ords log = fw.head? := by
        rw [← hfw]
        exact first_head _ _
      have h6' : H6 wr = some (.lst (fw.map bx)) := by rw [h6, hus, hfw]
      refine q_when (b := false) (et_test (ev_is (ev_op (y := ob fw.head?) (ev_clV (z := ob (firstWrong h.ways h.ords log)) (ea_cons (ev_var rfl) (ea_cons (ev_var rfl) ea_nil)) (spV_g fun H7 e7 => ⟨x, fl, h, log, rfl, hx.ex (e36.trans e7), O, hlog.ex (e36.trans e7), L, rfl⟩))
        (ev_if (et_test (ev_someNs (ev_var rfl) h6')) (fun hb => ?_) (fun hb => ?_)) (rv_ne (scal_ob _ _))) (by rw [hfirst, decide_eq_true rfl]; rfl))) (fun hb => by cases hb) (fun _ H7 e7 => ?_)
      · cases fw with
        | nil => cases hb
        | cons n0 fw => exact ev_op (ev_var rfl) ev_c (rv_ixL (.inl (.inl h6')) (atI_nat (j := 0) rfl))
      · cases fw with
        | nil => exact ev_c
        | cons n0 fw => cases hb
      have e37 := e36.trans e7
      -- nothing is left
      refine q_when (et_test (ev_noRows (ev_var rfl) (hdue.ex ((e5.trans e6).trans e7)))) (fun hb H8 e8 => ?_) (fun hb H8 e8 => ?_)
      · have heq := List.isEmpty_iff.mp hb
        have e38 := e37.trans e8
        refine ⟨fun p' hp' => ?_, fun H9 x9 t9 => ?_⟩
        · rcases List.mem_cons.mp hp' with e | hp'
          · rw [e]
            exact LamX.TabS.nil (e38 _ _ tb3)
          · cases hp'
        have k9 := Keep.en x9
        refine ⟨_, rfl, _, rfl, x, fl, h, log, rfl, (hx.ex e38).kp k9, O, (hlog.ex e38).en x9, L, fun _ H10 e10 => ⟨rfl, rfl, fun t1 H11 e11 ht1 => ?_⟩, fun hne => absurd heq hne⟩
        have e911 := e10.trans e11
        refine ⟨tabs_ex e911 t9, fun H12 x12 t12 => ?_⟩
        have k12 := Keep.en x12
        refine ⟨_, rfl, _, rfl, x, fl, h, log, rfl, (((hx.ex e38).kp k9).ex e911).kp k12, O, (((hlog.ex e38).en x9).ex e911).en x12, L, fun _ H13 e13 => ⟨rfl, rfl, fun t2 H14 e14 ht2 => ?_⟩, fun hne => absurd heq hne⟩
        refine ⟨by show 2 ≤ sizeLine; decide, fun pl hpl => ?_⟩
        have e15 : Ex H14 (upd H14 pl (.lst [.ref t1, .ref t2])) := Ex.new hpl
        have ht1' := e15 _ _ ((e13.trans e14) _ _ (k12.tup ht1))
        have ht2' := e15 _ _ ht2
        generalize hH15 : upd H14 pl (.lst [.ref t1, .ref t2]) = H15 at *
        have hpl' : H15 pl = some (.lst [.ref t1, .ref t2]) := by rw [← hH15]; exact upd_same
        refine ⟨_, rfl, by show 1 ≤ sizeLine; decide, fun q1 hq1 => ⟨by show 1 ≤ sizeLine; decide, fun q2 hq2 => ⟨by show 2 ≤ sizeLine; decide, fun q3 hq3 => ?_⟩⟩⟩
        have f1 : Ex H15 (upd H15 q1 (.tup [.str "none"])) := Ex.new hq1
        have f2 := f1.trans (Ex.new (o := .tup [.str "none"]) hq2)
        have f3 := f2.trans (Ex.new (o := .lst [.ref q1, .ref q2]) hq3)
        have g1 := (Ex.new (o := .lst [.ref q1, .ref q2]) hq3) _ _ ((Ex.new (o := .tup [.str "none"]) hq2) _ _ (upd_same (H := H15) (a := q1) (o := .tup [.str "none"])))
        have g2 := (Ex.new (o := .lst [.ref q1, .ref q2]) hq3) _ _ (upd_same (a := q2) (o := .tup [.str "none"]))
        have one : ∀ {H16 : Hp} {b : Addr}, H16 b = some (.tup [.str "none"]) → Dp K H16 (.ref b) (.tuple [.str "none"]) := fun z => .tup (.inl (.inl z)) (.cons (.str _) .nil)
        refine ⟨.list [.tuple [.str "none"], .tuple [.str "none"]], .list [.tuple [.str "none"], .tuple [.str "none"]], .lst (.inl (.inl (f3 _ _ hpl'))) (.cons (one (f3 _ _ ht1')) (.cons (one (f3 _ _ ht2')) .nil)), .lst (.inl (.inl upd_same)) (.cons (one g1) (.cons (one g2) .nil)), by decide +kernel, by decide +kernel, ?_⟩
        have he : PyData.eqv (.list [.tuple [.str "none"], .tuple [.str "none"]]) (.list [.tuple [.str "none"], .tuple [.str "none"]]) = true := by decide +kernel
        rw [he]
        exact kk _
      have hne : left h.ways h.ords log ≠ [] := fun e => by
        rw [e] at hb
        cases hb
      have e38 := e37.trans e8
      have hdue8 := hdue.ex (((e5.trans e6).trans e7).trans e8)
      have hRl : ∀ o ∈ left h.ways h.ords log, o.length = h.names.length := fun o ho => hlens o (left_mem ho)
      have hRm : (left h.ways h.ords log).length ≤ 625 := Nat.le_trans (left_len _ _ _) hmany
      generalize hRR : left h.ways h.ords log = R' at *
      obtain ⟨r0, hr0⟩ : ∃ r0, R'.headD [] = r0 := ⟨_, rfl⟩
      have hR0 : R'[0]? = some r0 := by
        cases R' with
        | nil => exact absurd rfl hne
        | cons z zs => rw [← hr0]; rfl
      have mR0 : r0 ∈ R' := List.mem_of_getElem? hR0
      have hl0 := hRl r0 mR0
      obtain ⟨das, hda, hdas⟩ := id hdue8
      obtain ⟨d0, hd0, hd0t⟩ := paired_at2 hdas hR0
      obtain ⟨nT, sT, wD, tT, p1, p2, p3, p4, p5⟩ := hp3.ex e38
      have hn4 : h.names.length ≤ 4 := O.l1
      -- sure
      refine fun d hd => ?_
      refine q_cut (M := fun σ' H' => ∃ v5 : Option V, σ' = [some (.ref a), some (.ref rw), some (.ref p), some (.ref u), some (.ref due), v5, some (.ref wr), none, some (.ref d), none, none, some (.ref x), some (.ref fl), none] ∧ Ex H8 H' ∧ H' d = some (.dK (surK h.names r0 R' h.names.length))) ?_ ?_
      · refine s_forB (HB := H8) (ei_rng (n := h.names.length) (ea_cons (ev_is (ev_lenT (xs := h.names.map V.str) (ev_op (z := .ref nT) (ev_var rfl) ev_c (rv_ixT (.inl (.inl p1)) (atI_nat (j := 0) rfl))) (FT.sq p2)) (by rw [List.length_map])) ea_nil) (by omega)) (Ex.new hd) (fun i σ' H' => ∃ v5 : Option V, σ' = [some (.ref a), some (.ref rw), some (.ref p), some (.ref u), some (.ref due), v5, some (.ref wr), none, some (.ref d), none, none, some (.ref x), some (.ref fl), none] ∧ Ex H8 H' ∧ H' d = some (.dK (surK h.names r0 R' i)))
          (fun H9 e9 => ⟨none, rfl, (Ex.new hd).trans e9, e9 _ _ upd_same⟩) (fun i σ' H' ⟨_, _, e, _⟩ => e) ?_ ?_
        · rintro i y σ' HA HB hi ⟨v5, rfl, eA, hdA⟩ ⟨rfl, rfl⟩
          have hx' : h.names[i]? = some h.names[i] := List.getElem?_eq_getElem hi
          refine s_when (b := sure r0 R' i) (et_test (ev_is (ev_op (ev_lenOnce (ns := (R'.map fun o => o.getD i 0).map fun (n : Nat) => (n : Int)) (el_lstM (l := R') (ei_refs (ev_var rfl) (eA _ _ hda) hdas) (by omega) (fun o => bx (o.getD i 0)) ?_) (fun us H9 hus => ?_) (by rw [List.length_map, List.length_map]; omega)) ev_c (rv_eq rfl)) (by rw [sure_eq mR0]))) (fun hb2 H9 e9 => ?_) (fun hb2 H9 e9 => ?_)
          · rintro k o HC' y HC hk eC ⟨rfl, hy⟩
            obtain ⟨b, o', rfl, ho', hob⟩ := ref_at hdas hy
            have eo : o' = o := Option.some.inj (ho'.symm.trans hk)
            subst eo
            have hol := hRl o' (List.mem_of_getElem? hk)
            refine ⟨Ex.refl _, [some (.ref a), some (.ref rw), some (.ref p), some (.ref u), some (.ref due), some (bx i), some (.ref wr), some (.ref b), some (.ref d), none, none, some (.ref x), some (.ref fl), none], rfl, fun Kk z => z _ (Ex.refl _), et_yes, fun _ => Evl_g (ev_op (ev_var rfl) (ev_var rfl) (rv_ixT (TupAt.sq (TupAt.ex (eA.trans eC) hob)) (atI_nat (bx_at (by omega)))))⟩
          · rw [hus, List.map_map, List.map_map]
            rfl
          · refine ev_op (z := bx (r0.getD i 0)) (ev_op (z := .ref d0) (ev_var rfl) ev_c (rv_ixL (.inl (.inl ((eA.trans e9) _ _ hda))) (atI_nat (j := 0) (by rw [List.getElem?_map, hd0]; rfl)))) (ev_var rfl) (rv_ixT (TupAt.sq (TupAt.ex (eA.trans e9) hd0t)) (atI_nat (bx_at (by omega)))) H9 (Ex.refl _) _ fun H10 e10 => ?_
            have eA10 := eA.trans (e9.trans e10)
            refine ⟨_, rfl, ?_⟩
            refine ev_op (z := .str h.names[i]) (ev_op (z := .ref nT) (ev_var rfl) ev_c (rv_ixT (.inl (.inl (eA10 _ _ p1))) (atI_nat (j := 0) rfl))) (ev_var rfl) (rv_ixT (FT.sq (p2.ex eA10)) (atI_nat (j := i) (by rw [List.getElem?_map, hx']; rfl))) H10 (Ex.refl _) _ fun H11 e11 => ?_
            have eA11 := eA10.trans e11
            have hd11 := ((e9.trans e10).trans e11) _ _ hdA
            refine ⟨d, _, rfl, DPut.k (k := Sum.inr h.names[i]) hd11 (sz_lt (by have := surK_len h.names r0 R' i; omega)), _, rfl, Ex.chg eA11 hd, ?_⟩
            rw [upd_same, putK_new _ (surK_new O.nd hx'), surK_succ, if_pos hb2]
            rw [kvS_at hx']
          · refine ⟨_, rfl, eA.trans e9, ?_⟩
            rw [surK_succ, if_neg (by rw [hb2]; exact Bool.false_ne_true), List.append_nil]
            exact e9 _ _ hdA
        · rintro σ' HA ⟨v5, rfl, eA, hdA⟩
          exact ⟨v5, rfl, eA, hdA⟩
      rintro σ9 H9 ⟨v5, rfl, e9, hd9⟩
      have e39 := e38.trans e9
      have ndn : h.names.Nodup := O.nd
      have ascS : (surN h.names r0 R').Pairwise fun a b => cs a < cs b := hF.asc.sublist (surN_sub _ _ _)
      have lenS : (surN h.names r0 R').length ≤ 4 := Nat.le_trans (surN_sub _ _ _).length_le hn4
      have okS : ∀ z ∈ surN h.names r0 R', PyData.strOk z = true := fun z hz => strOk_of (hF.nl z ((surN_sub _ _ _).subset hz))
      -- found
      refine q_asgG (G := fun v H' => ∃ d2, v = .ref d2 ∧ H' d2 = some (.dK (surK h.names r0 R' h.names.length))) (fun H10 e10 Q' qq => ⟨_, rfl, _, rfl, x, fl, h, log, rfl, hx.ex (e39.trans e10), O, hlog.ex (e39.trans e10), L, fun heq => absurd (hRR.symm.trans heq) hne, fun _ d2 H11 e11 hd2 h2 => qq (.ref d2) H11 e11 ⟨d2, rfl, ?_⟩⟩) fun v H10 e10 ⟨d2, hv, hd2⟩ => ?_
      · rw [hRR] at h2
        rw [h2]
        unfold surB
        rw [hr0]
      subst hv
      have hd10 := e10 _ _ hd9
      refine q_when (b := false) (et_or (a := false) (b := false) (et_test (ev_op (ev_var rfl) (ev_var rfl) (fun H11 e11 Q' qq => ⟨d2, d, _, _, rfl, rfl, e11 _ _ hd2, e11 _ _ hd10, rfl, fun pr hpr => ⟨valV_mem (surK_nd ndn r0 R') pr hpr, ?_⟩, qq H11 (Ex.refl _)⟩)))
        (fun _ => et_test (ev_opLL (xs := (surN h.names r0 R').map V.str) (ys := (surN h.names r0 R').map V.str)
          (fun H11 e11 Q' qq => ⟨_, rfl, d2, _, rfl, .inl (e11 _ _ hd2), fun l hl => qq l _ hl (Ex.new hl) ?_⟩)
          (fun H11 e11 Q' qq => ⟨_, rfl, d, _, surN h.names r0 R', rfl, .inl (e11 _ _ hd10), surK_keys _ _ _, by omega, fun ys l perm hs hl => qq l _ hl (Ex.new hl) ?_⟩)
          (fun l1 l2 H11 h1' h2' e11 => rv_neD (d := pdStrs (surN h.names r0 R')) (e := pdStrs (surN h.names r0 R')) (b := true) (fun H12 e12 => dp_strs (e12 _ _ h1')) (fun H12 e12 => dp_strs (e12 _ _ h2')) (shp_Ss okS) (shp_Ss okS) (by rw [eqv_Ss, decide_eq_true rfl]))))) (fun hb => by cases hb) (fun _ H11 e11 => ?_)
      · unfold surK at hpr
        obtain ⟨k, _, rfl⟩ := List.mem_map.mp hpr
        rfl
      · rw [upd_same]
        have := congrArg (List.map L2.kV) (surK_keys h.names r0 R')
        rw [List.map_map, List.map_map] at this
        exact congrArg (fun z => some (HO.lst z)) this
      · rw [upd_same, sorted_same perm (sorted_pw hs) ascS]
      -- free
      have e81 := (e9.trans e10).trans e11
      refine q_asgLG (el_lstV (l := List.range h.n) (ei_rngL (ea_cons (ev_is (ev_lenT (xs := h.signs.map V.str) (ev_op (z := .ref sT) (ev_var rfl) ev_c (rv_ixT (.inl (.inl (e81 _ _ p1))) (atI_nat (j := 1) rfl))) (.inl (.inl (e81 _ _ p3)))) (by rw [List.length_map]; rfl)) ea_nil) (by have := O.l3; show h.signs.length ≤ 100000; omega)) (by rw [List.length_range]; have := O.l3; show h.signs.length ≤ 40000; omega) (fun b => (R'.filter fun o => o.contains b).isEmpty) bx ?_) fun fr H12 us hfr e12 h12 hus => ?_
      · rintro k b HA x' HB hb' eA ⟨rfl, rfl⟩
        obtain ⟨rfl, hbn⟩ := range_at hb'
        refine ⟨Ex.refl _, [some (.ref a), some (.ref rw), some (.ref p), some (.ref u), some (.ref due), v5, some (.ref wr), none, some (.ref d), some (.ref d2), none, some (.ref x), some (.ref fl), some (bx b)], rfl, fun Kk z => z _ (Ex.refl _), et_test (ev_noRowsL (el_lst_ (l := R') (ei_refs (ev_var rfl) ((e81.trans eA) _ _ hda) hdas) (by omega) (fun o => o.contains b) (fun o v H' => ∃ c, v = .ref c ∧ TupAt H' c o) (fun o v H1 H2 kt ⟨c, h1, h2⟩ => ⟨c, h1, h2.kt kt⟩) ?_)), fun _ => Evl_g (ev_var rfl)⟩
        rintro k o HC' y HC hk eC ⟨rfl, hy⟩
        obtain ⟨b', o', rfl, ho', hob⟩ := ref_at hdas hy
        have eo : o' = o := Option.some.inj (ho'.symm.trans hk)
        subst eo
        have hob' : TupAt _ b' o' := TupAt.ex ((e81.trans eA).trans eC) hob
        refine ⟨Ex.refl _, [some (.ref a), some (.ref rw), some (.ref p), some (.ref u), some (.ref due), v5, some (.ref wr), some (.ref b'), some (.ref d), some (.ref d2), none, some (.ref x), some (.ref fl), some (bx b)], rfl, fun Kk z => z _ (Ex.refl _), et_test (ev_is (ev_op (ev_var rfl) (ev_var rfl) (rv_isT (TupAt.sq hob') rfl (flat_bx _))) (by rw [in_bx])), fun _ => (Evl_g (ev_var rfl)).imp fun v H' e hv => ⟨b', hv, hob'.ex e⟩⟩
      have h12' : H12 fr = some (.lst ((freeB h.n R').map bx)) := by rw [h12, hus, free_eq]
      have e3F := ((e39.trans e10).trans e11).trans e12
      -- the end
      refine s_ret (ev_andV (ev_eqNs (fun H13 e13 Q' qq => ⟨_, rfl, _, rfl, x, fl, h, log, rfl, hx.ex (e3F.trans e13), O, hlog.ex (e3F.trans e13), L, fun heq => absurd (hRR.symm.trans heq) hne, fun _ d3 H14 e14 hd3 h3' => qq (.ref d3) H14 e14 ⟨d3, rfl, by rw [h3', hRR]⟩⟩) (ev_var rfl) h12')
        (fun _ => ev_eqRows (os := h.ords) (fun H13 e13 Q' qq => ⟨_, rfl, Nat.zero_le _, fun c hc => ⟨_, ⟨x, c, h, [], rfl, hx.ex ((e3F.trans e13).trans (Ex.new hc)), O, ⟨[], upd_same, .nil⟩, ⟨Nat.zero_le _, (fun e he => by cases he), (fun e he => by cases he)⟩, rfl⟩, fun v H14 e14 ⟨r, hv, _, hr⟩ => qq v H14 ((Ex.new hc).trans e14) ⟨r, hv, by rw [left_nil] at hr; exact hr.tup⟩⟩⟩) (ev_var rfl) (hu.ex e3F))) fun H13 e13 => kk _
    obtain ⟨t, h1, h2⟩ := hterm
    exact ⟨t, h1.nox, h2⟩
end
end Lp

set_option Elab.async false
set_option linter.all false
set_option maxRecDepth 100000
set_option maxHeartbeats 4000000
/-! Lostplates: what the head tells of the module, and what the law makes of it. -/
namespace Lp
open PySem PySem.Spec PyProof.Rows L2
def dd (x : Str) (i : Nat) : He.DefD := ⟨(x, none), x, x, defArgs (top i), defBody (top i), defScope (top i), [], []⟩
def dInit : He.DefD := ⟨("House", some "__init__"), "__init__", "House.__init__", defArgs sInit, defBody sInit, defScope sInit, [], []⟩
def fn0 : List He.DefD := [dd "is_number" 22, dd "is_text" 23, dd "are_names" 24, dd "are_plates" 25, dd "is_manner" 26, dd "are_manners" 27, dd "does_match" 30, dd "does_fit" 31, dd "all_orders" 32, dd "owner_of" 33, dd "handed_on" 38, dd "way_of" 39]
def fn1 : List He.DefD := [dd "answer_of" 40, dd "check_log" 43, dd "left_by" 44, dd "possible" 45, dd "need_some" 46, dd "surely_behind" 47, dd "surely_free" 48, dd "first_wrong" 49, dd "_law_taken" 51, dd "_law_pick" 52, dd "_law_mixed" 53, dd "_law_goes" 54]
def fn2 : List He.DefD := [dd "_law_orders" 55, dd "_law_way" 56, dd "_law_seen" 57, dd "_law_letters" 58, dd "_law_left" 59, dd "_law_raised" 60, dd "_law_scheme" 61, dd "_law_built" 62, dd "_law_notes" 63, dd "law" 64]
def fnL : List He.DefD := dInit :: (fn0 ++ fn1 ++ fn2)
def fg0 : List He.Fa := [.glo "is_number", .glo "is_text", .glo "are_names", .glo "are_plates", .glo "is_manner", .glo "are_manners", .glo "does_match", .glo "does_fit", .glo "all_orders", .glo "owner_of", .glo "handed_on", .glo "way_of"]
def fg1 : List He.Fa := [.glo "answer_of", .glo "check_log", .glo "left_by", .glo "possible", .glo "need_some", .glo "surely_behind", .glo "surely_free", .glo "first_wrong", .glo "_law_taken", .glo "_law_pick", .glo "_law_mixed", .glo "_law_goes"]
def fg2 : List He.Fa := [.glo "_law_orders", .glo "_law_way", .glo "_law_seen", .glo "_law_letters", .glo "_law_left", .glo "_law_raised", .glo "_law_scheme", .glo "_law_built", .glo "_law_notes", .glo "law", .glo "House", .glo "PlateError"]
def fg3 : List He.Fa := [.glo "NoOrder", .glo "InvalidHouse", .glo "InvalidLog", .glo "InvalidHint", .glo "InvalidManners", .glo "InvalidOrder", .glo "UnknownName", .glo "InvalidBox", .glo "UnknownEntry", .glo "TooMany", .glo "InvalidNumber", .glo "InvalidRow"]
def fgF : List He.Fa := [.free "isinstance", .free "int", .free "bool", .free "str", .free "tuple", .free "list", .free "dict", .free "set", .free "len", .free "all", .free "any", .free "zip", .free "enumerate", .free "range", .free "sorted", .free "min", .free "ValueError"]
def fgS : List He.Fa := [.str "LETTERS" "abcdefghijklmnopqrstuvwxyz", .str "POINT" ".", .str "BACK" "back", .str "KEEP" "keep", .str "KEPT" "kept", .str "LIES" "lies", .str "ROUND" "round", .int "MAX_LETTERS" 8, .int "MAX_NAMES" 6, .int "MAX_BOXES" 6, .int "MAX_ANSWER" 6]
def fgC : List He.Fa := [.mkr "House", .exc "NoOrder", .exm "NoOrder" "PlateError" true]
def faL : List He.Fa := fg0 ++ fg1 ++ fg2 ++ fg3 ++ (fgF ++ (fgS ++ fgC))
/-! ### the rest, as a Bool -/
def sclsB (K : PySem.W.Frag) (C : Addr) : Bool := PySem.W.plainGet K C Str.empty && (PySem.W.isClsIn K C && (PySem.W.plainOver K C && He.eqO (PySem.W.findIn K (.ref C) "__setattr__") (some (some (.builtin "object.__setattr__")))))
theorem sclsB_ok {K : PySem.W.Frag} {C : Addr} (h : sclsB K C = true) : SCls K C := by
  obtain ⟨h1, h2⟩ := He.ba h
  obtain ⟨h3, h4⟩ := He.ba h2
  obtain ⟨h5, h6⟩ := He.ba h4
  exact ⟨h1, h3, h5, He.eqO_ok h6⟩
def sltB (K : PySem.W.Frag) (C : Addr) (f : Str) (i : Nat) : Bool := match PySem.W.findIn K (.ref C) f with
  | some (some (.ref p)) => He.eqO (PySem.W.specialIn K (.ref p) "__get__") (some (some (.builtin "member_descriptor.__get__"))) && (decide (PySem.W.takesIn K (.ref p) = some true) && (decide (PySem.W.slotIn K p C = some i) && decide (PySem.W.typeIn K (.ref p) = some (.type "member_descriptor"))))
  | _ => false
theorem sltB_ok {K : PySem.W.Frag} {C : Addr} {f : Str} {i : Nat} (hi : i < 1000) (h : sltB K C f i = true) : ∃ p, Slt K C f i p := by
  unfold sltB at h
  split at h
  · rename_i p e
    obtain ⟨h1, h2⟩ := He.ba h
    obtain ⟨h3, h4⟩ := He.ba h2
    obtain ⟨h5, h6⟩ := He.ba h4
    exact ⟨p, e, He.eqO_ok h1, of_decide_eq_true h3, of_decide_eq_true h5, of_decide_eq_true h6, hi⟩
  · cases h
def excCB (K : PySem.W.Frag) (D : Addr) : Bool := He.eqO (PySem.W.findIn K (.ref D) "__getattribute__") (some (some (.builtin "BaseException.__getattribute__"))) && (He.eqO (PySem.W.findIn K (.ref D) "__getattr__") (some none) &&
  (decide (PySem.W.subIn K (.ref D) (.type "BaseException") = some true) && (PySem.W.hasDictIn K D && (He.eqO (PySem.W.findIn K (.ref D) "__class__") (some (some (.builtin "object.__class__"))) &&
  (He.eqO (PySem.W.specialIn K (.builtin "object.__class__") "__get__") (some (some (.builtin "getset_descriptor.__get__"))) && (decide (PySem.W.takesIn K (.builtin "object.__class__") = some true) && decide (PySem.W.mroIn K D (.type "object") = some true)))))))
theorem excCB_ok {K : PySem.W.Frag} {D : Addr} (h : excCB K D = true) : ExcC K D := by
  obtain ⟨h1, r1⟩ := He.ba h
  obtain ⟨h2, r2⟩ := He.ba r1
  obtain ⟨h3, r3⟩ := He.ba r2
  obtain ⟨h4, r4⟩ := He.ba r3
  obtain ⟨h5, r5⟩ := He.ba r4
  obtain ⟨h6, r6⟩ := He.ba r5
  obtain ⟨h7, h8⟩ := He.ba r6
  exact ⟨He.eqO_ok h1, He.eqO_ok h2, of_decide_eq_true h3, h4, He.eqO_ok h5, He.eqO_ok h6, of_decide_eq_true h7, of_decide_eq_true h8⟩
def kitB (K : PySem.W.Frag) (D : Addr) (v : Value) (b : Bool) : Bool := decide (PySem.W.kitOne K (.ref D) v = some b)
def otherN : List Str := ["InvalidHouse", "InvalidLog", "InvalidHint", "InvalidManners", "InvalidOrder", "UnknownName", "InvalidBox", "UnknownEntry", "TooMany", "InvalidNumber", "InvalidRow"]
def exB (K : PySem.W.Frag) : Bool := (sclsB K (He.ga K "House") && (sltB K (He.ga K "House") "folk" 0 && (sltB K (He.ga K "House") "signs" 1 && sltB K (He.ga K "House") "ways" 2))) &&
  (excCB K (He.ga K "NoOrder") && (kitB K (He.ga K "NoOrder") (.ref (He.ga K "NoOrder")) true && (kitB K (He.ga K "NoOrder") (.type "ValueError") true && otherN.all fun x => kitB K (He.ga K "NoOrder") (.ref (He.ga K x)) false)))
section
variable {K : PySem.W.Frag} {h : Heap} {mg : Str → Option Value}
theorem glo_at (X : K.In h) (G : h.Ns mainGlobals mg) (c : He.SaysD faL fnL K) {x : Str} (m : He.Fa.glo x ∈ faL) : mg x = some (.ref (He.ga K x)) := He.glo_ok X G (c.facts m)
theorem free_at (X : K.In h) (G : h.Ns mainGlobals mg) (c : He.SaysD faL fnL K) {x : Str} (m : He.Fa.free x ∈ faL) : mg x = none := He.free_ok X G (c.facts m)
theorem str_at (X : K.In h) (G : h.Ns mainGlobals mg) (c : He.SaysD faL fnL K) {x z : Str} (m : He.Fa.str x z ∈ faL) : ∃ t, mg x = some (.str z t) := He.str_ok X G (c.facts m)
theorem int_at (X : K.In h) (G : h.Ns mainGlobals mg) (c : He.SaysD faL fnL K) {x : Str} {i : Int} (m : He.Fa.int x i ∈ faL) : ∃ t, mg x = some (.int i t) := He.int_ok X G (c.facts m)
theorem def_at (X : K.In h) (G : h.Ns mainGlobals mg) (c : He.SaysD faL fnL K) {x : Str} {i : Nat} (m : dd x i ∈ fnL) (mg' : He.Fa.glo x ∈ faL) : DefAt K mg x (top i) := by
  obtain ⟨fd, F⟩ := c.defs m
  exact ⟨_, fd, glo_at X G c mg', F⟩

theorem mem_at {α : Type} {l : List α} (i : Nat) {a : α} (h : l[i]? = some a) : a ∈ l := List.mem_of_getElem? h
theorem tx_at (X : K.In h) (G : h.Ns mainGlobals mg) (c : He.SaysD faL fnL K) : Tx K mg := ⟨(free_at X G c (mem_at 48 rfl)), (free_at X G c (mem_at 49 rfl)), (free_at X G c (mem_at 50 rfl)), (free_at X G c (mem_at 51 rfl)), (free_at X G c (mem_at 52 rfl)), (free_at X G c (mem_at 53 rfl)), (free_at X G c (mem_at 54 rfl)), (free_at X G c (mem_at 55 rfl)), (free_at X G c (mem_at 56 rfl)), (free_at X G c (mem_at 57 rfl)), (free_at X G c (mem_at 58 rfl)), (free_at X G c (mem_at 59 rfl)), (free_at X G c (mem_at 60 rfl)), (free_at X G c (mem_at 61 rfl)), (free_at X G c (mem_at 62 rfl)), (free_at X G c (mem_at 63 rfl)), (str_at X G c (mem_at 65 rfl)), (str_at X G c (mem_at 66 rfl)), (int_at X G c (mem_at 72 rfl)), (int_at X G c (mem_at 73 rfl)), (int_at X G c (mem_at 74 rfl)), (str_at X G c (mem_at 67 rfl)), (str_at X G c (mem_at 68 rfl)), (str_at X G c (mem_at 69 rfl)), (str_at X G c (mem_at 70 rfl)), (str_at X G c (mem_at 71 rfl)), (int_at X G c (mem_at 75 rfl))⟩
theorem nx_at (X : K.In h) (G : h.Ns mainGlobals mg) (c : He.SaysD faL fnL K) : Nx K mg (He.ga K "NoOrder") := by
  obtain ⟨x1, x2, x3, x4⟩ := He.exc_ok (c.facts (f := .exc "NoOrder") (mem_at 77 rfl))
  exact ⟨(glo_at X G c (mem_at 36 rfl)), x1, x2, x3, x4⟩
theorem hc_at (X : K.In h) (G : h.Ns mainGlobals mg) (c : He.SaysD faL fnL K) (e : exB K = true) : Hc K mg (He.ga K "House") := by
  obtain ⟨h1, _⟩ := He.ba e
  obtain ⟨h2, h3⟩ := He.ba h1
  obtain ⟨h4, h5⟩ := He.ba h3
  obtain ⟨h6, h7⟩ := He.ba h5
  exact ⟨(glo_at X G c (mem_at 34 rfl)), sclsB_ok h2, sltB_ok (by decide) h4, sltB_ok (by decide) h6, sltB_ok (by decide) h7⟩
theorem not_at (X : K.In h) (G : h.Ns mainGlobals mg) (c : He.SaysD faL fnL K) (e : exB K = true) {x : Str} (m : He.Fa.glo x ∈ faL) (mo : x ∈ otherN) : NotE K mg (He.ga K "NoOrder") x := by
  obtain ⟨_, h1⟩ := He.ba e
  obtain ⟨_, h2⟩ := He.ba h1
  obtain ⟨_, h3⟩ := He.ba h2
  obtain ⟨_, h4⟩ := He.ba h3
  exact ⟨_, glo_at X G c m, of_decide_eq_true (List.all_eq_true.mp h4 x mo)⟩
theorem rx_at (X : K.In h) (G : h.Ns mainGlobals mg) (c : He.SaysD faL fnL K) (e : exB K = true) : Rx K mg (He.ga K "NoOrder") := by
  obtain ⟨_, h1⟩ := He.ba e
  obtain ⟨h2, h3⟩ := He.ba h1
  obtain ⟨h4, h5⟩ := He.ba h3
  obtain ⟨h6, _⟩ := He.ba h5
  exact ⟨⟨_, (glo_at X G c (mem_at 35 rfl)), He.exm_ok (c.facts (f := .exm "NoOrder" "PlateError" true) (mem_at 78 rfl))⟩, excCB_ok h2, (glo_at X G c (mem_at 36 rfl)), of_decide_eq_true h4, (free_at X G c (mem_at 64 rfl)), of_decide_eq_true h6, not_at X G c e (mem_at 37 rfl) (mem_at 0 rfl), not_at X G c e (mem_at 38 rfl) (mem_at 1 rfl), not_at X G c e (mem_at 39 rfl) (mem_at 2 rfl), not_at X G c e (mem_at 40 rfl) (mem_at 3 rfl), not_at X G c e (mem_at 41 rfl) (mem_at 4 rfl), not_at X G c e (mem_at 42 rfl) (mem_at 5 rfl), not_at X G c e (mem_at 43 rfl) (mem_at 6 rfl), not_at X G c e (mem_at 44 rfl) (mem_at 7 rfl), not_at X G c e (mem_at 45 rfl) (mem_at 8 rfl), not_at X G c e (mem_at 46 rfl) (mem_at 9 rfl), not_at X G c e (mem_at 47 rfl) (mem_at 10 rfl)⟩
end
section
variable {P : Program} {w : World} {K : PySem.W.Frag} {h base : Heap} {mg : Str → Option Value}
abbrev HC (K : PySem.W.Frag) : Addr := He.ga K "House"
abbrev NC (K : PySem.W.Frag) : Addr := He.ga K "NoOrder"

theorem k_number (X : K.In h) (G : h.Ns mainGlobals mg) (c : He.SaysD faL fnL K) (e : exB K = true) : Df P w K mg base CX0 1 "is_number" (spV gNumber) := ok_number (def_at X G c (mem_at 1 rfl) (mem_at 0 rfl)) (tx_at X G c)
theorem k_text (X : K.In h) (G : h.Ns mainGlobals mg) (c : He.SaysD faL fnL K) (e : exB K = true) : Df P w K mg base CX0 1 "is_text" (spV gText) := ok_text (def_at X G c (mem_at 2 rfl) (mem_at 1 rfl)) (tx_at X G c)
theorem k_match (X : K.In h) (G : h.Ns mainGlobals mg) (c : He.SaysD faL fnL K) (e : exB K = true) : Df P w K mg base CX0 1 "does_match" (spV gMatch) := ok_match (def_at X G c (mem_at 7 rfl) (mem_at 6 rfl)) (tx_at X G c)
theorem k_owner (X : K.In h) (G : h.Ns mainGlobals mg) (c : He.SaysD faL fnL K) (e : exB K = true) : Df P w K mg base CX0 1 "owner_of" (spV (gOwner (HC K))) := ok_owner (def_at X G c (mem_at 10 rfl) (mem_at 9 rfl)) (tx_at X G c) (hc_at X G c e)
theorem k_handed (X : K.In h) (G : h.Ns mainGlobals mg) (c : He.SaysD faL fnL K) (e : exB K = true) : Df P w K mg base CX0 1 "handed_on" (spV (gHanded (HC K))) := ok_handed (def_at X G c (mem_at 11 rfl) (mem_at 10 rfl)) (tx_at X G c) (hc_at X G c e)
theorem k_way (X : K.In h) (G : h.Ns mainGlobals mg) (c : He.SaysD faL fnL K) (e : exB K = true) : Df P w K mg base CX0 2 "way_of" (spG (gWay (HC K))) := ok_way (def_at X G c (mem_at 12 rfl) (mem_at 11 rfl)) (tx_at X G c) (hc_at X G c e) (k_owner X G c e) (k_handed X G c e)
theorem k_answer (X : K.In h) (G : h.Ns mainGlobals mg) (c : He.SaysD faL fnL K) (e : exB K = true) : Df P w K mg base CX0 3 "answer_of" (spV (gAnswer (HC K))) := ok_answer (def_at X G c (mem_at 13 rfl) (mem_at 12 rfl)) (tx_at X G c) (k_way X G c e)
theorem k_fit (X : K.In h) (G : h.Ns mainGlobals mg) (c : He.SaysD faL fnL K) (e : exB K = true) : Df P w K mg base CX0 2 "does_fit" (spV (gFit (HC K))) := ok_fit (def_at X G c (mem_at 8 rfl) (mem_at 7 rfl)) (tx_at X G c) (hc_at X G c e) (k_match X G c e)
theorem k_orders (X : K.In h) (G : h.Ns mainGlobals mg) (c : He.SaysD faL fnL K) (e : exB K = true) : Df P w K mg base CX0 3 "all_orders" (spG (gOrders (HC K))) := ok_orders (def_at X G c (mem_at 9 rfl) (mem_at 8 rfl)) (tx_at X G c) (hc_at X G c e) (k_match X G c e) (k_fit X G c e)
theorem k_check (X : K.In h) (G : h.Ns mainGlobals mg) (c : He.SaysD faL fnL K) (e : exB K = true) : Df P w K mg base CX0 2 "check_log" (spV (gCheck (HC K))) := ok_check (def_at X G c (mem_at 14 rfl) (mem_at 13 rfl)) (tx_at X G c) (hc_at X G c e) (k_number X G c e)
theorem k_left (X : K.In h) (G : h.Ns mainGlobals mg) (c : He.SaysD faL fnL K) (e : exB K = true) : Df P w K mg base CX0 4 "left_by" (spG (gLeft (HC K))) := ok_left (def_at X G c (mem_at 15 rfl) (mem_at 14 rfl)) (tx_at X G c) (hc_at X G c e) (k_answer X G c e)
theorem k_possible (X : K.In h) (G : h.Ns mainGlobals mg) (c : He.SaysD faL fnL K) (e : exB K = true) : Df P w K mg base CX0 5 "possible" (spG (gPossible (HC K))) := ok_possible (def_at X G c (mem_at 16 rfl) (mem_at 15 rfl)) (tx_at X G c) (k_check X G c e) (k_orders X G c e) (k_left X G c e)
theorem k_need (X : K.In h) (G : h.Ns mainGlobals mg) (c : He.SaysD faL fnL K) (e : exB K = true) : Df P w K mg base (L2.CX P w) 1 "need_some" (spNeed (NC K)) := ok_need (def_at X G c (mem_at 17 rfl) (mem_at 16 rfl)) (nx_at X G c)
theorem k_first (X : K.In h) (G : h.Ns mainGlobals mg) (c : He.SaysD faL fnL K) (e : exB K = true) : Df P w K mg base CX0 5 "first_wrong" (spV (gFirst (HC K))) := ok_first (def_at X G c (mem_at 20 rfl) (mem_at 19 rfl)) (tx_at X G c) (k_check X G c e) (k_orders X G c e) (k_left X G c e)
theorem k_behind (X : K.In h) (G : h.Ns mainGlobals mg) (c : He.SaysD faL fnL K) (e : exB K = true) : Df P w K mg base (L2.CX P w) 6 "surely_behind" (spBehind (HC K) (NC K)) := ok_behind (def_at X G c (mem_at 18 rfl) (mem_at 17 rfl)) (tx_at X G c) (hc_at X G c e) (k_possible X G c e) (k_need X G c e)
theorem k_free (X : K.In h) (G : h.Ns mainGlobals mg) (c : He.SaysD faL fnL K) (e : exB K = true) : Df P w K mg base (L2.CX P w) 6 "surely_free" (spFree (HC K) (NC K)) := ok_free (def_at X G c (mem_at 19 rfl) (mem_at 18 rfl)) (tx_at X G c) (hc_at X G c e) (k_possible X G c e) (k_need X G c e)
theorem k_lgoes (X : K.In h) (G : h.Ns mainGlobals mg) (c : He.SaysD faL fnL K) (e : exB K = true) : Df P w K mg base CX0 1 "_law_goes" (spV gLGoes) := ok_lgoes (def_at X G c (mem_at 24 rfl) (mem_at 23 rfl)) (tx_at X G c)
theorem k_lorders (X : K.In h) (G : h.Ns mainGlobals mg) (c : He.SaysD faL fnL K) (e : exB K = true) : Df P w K mg base CX0 2 "_law_orders" (spG gLOrders) := ok_lorders (def_at X G c (mem_at 25 rfl) (mem_at 24 rfl)) (tx_at X G c) (k_lgoes X G c e)
theorem k_lway (X : K.In h) (G : h.Ns mainGlobals mg) (c : He.SaysD faL fnL K) (e : exB K = true) : Df P w K mg base CX0 1 "_law_way" (spG gLWay) := ok_lway (def_at X G c (mem_at 26 rfl) (mem_at 25 rfl)) (tx_at X G c)
theorem k_lseen (X : K.In h) (G : h.Ns mainGlobals mg) (c : He.SaysD faL fnL K) (e : exB K = true) : Df P w K mg base CX0 2 "_law_seen" (spV gLSeen) := ok_lseen (def_at X G c (mem_at 27 rfl) (mem_at 26 rfl)) (tx_at X G c) (k_lway X G c e)
theorem k_lletters (X : K.In h) (G : h.Ns mainGlobals mg) (c : He.SaysD faL fnL K) (e : exB K = true) : Df P w K mg base CX0 1 "_law_letters" (spG gLLetters) := ok_lletters (def_at X G c (mem_at 28 rfl) (mem_at 27 rfl)) (tx_at X G c)
theorem k_lleft (X : K.In h) (G : h.Ns mainGlobals mg) (c : He.SaysD faL fnL K) (e : exB K = true) : Df P w K mg base CX0 3 "_law_left" (spG gLLeft) := ok_lleft (def_at X G c (mem_at 29 rfl) (mem_at 28 rfl)) (tx_at X G c) (k_lseen X G c e)
theorem k_taken (X : K.In h) (G : h.Ns mainGlobals mg) (c : He.SaysD faL fnL K) (e : exB K = true) : Df P w K mg base CX0 1 "_law_taken" (spTaken K) := ok_taken (def_at X G c (mem_at 21 rfl) (mem_at 20 rfl)) (tx_at X G c)
theorem k_pick (X : K.In h) (G : h.Ns mainGlobals mg) (c : He.SaysD faL fnL K) (e : exB K = true) : Df P w K mg base CX0 2 "_law_pick" (spPick K) := ok_pick (def_at X G c (mem_at 22 rfl) (mem_at 21 rfl)) (tx_at X G c) (k_taken X G c e)
theorem k_mixed (X : K.In h) (G : h.Ns mainGlobals mg) (c : He.SaysD faL fnL K) (e : exB K = true) : Df P w K mg base CX0 2 "_law_mixed" (spMixed K) := ok_mixed (def_at X G c (mem_at 23 rfl) (mem_at 22 rfl)) (tx_at X G c) (k_taken X G c e)
theorem k_scheme (X : K.In h) (G : h.Ns mainGlobals mg) (c : He.SaysD faL fnL K) (e : exB K = true) : Df P w K mg base CX0 3 "_law_scheme" (spScheme K) := ok_scheme (def_at X G c (mem_at 31 rfl) (mem_at 30 rfl)) (tx_at X G c) (k_taken X G c e) (k_pick X G c e) (k_mixed X G c e)
theorem k_names (X : K.In h) (G : h.Ns mainGlobals mg) (c : He.SaysD faL fnL K) (e : exB K = true) : Df P w K mg base CX0 2 "are_names" (spV gNames) := ok_names (def_at X G c (mem_at 3 rfl) (mem_at 2 rfl)) (tx_at X G c) (k_text X G c e)
theorem k_plates (X : K.In h) (G : h.Ns mainGlobals mg) (c : He.SaysD faL fnL K) (e : exB K = true) : Df P w K mg base CX0 2 "are_plates" (spV gPlates) := ok_plates (def_at X G c (mem_at 4 rfl) (mem_at 3 rfl)) (tx_at X G c) (k_text X G c e)
theorem k_manner (X : K.In h) (G : h.Ns mainGlobals mg) (c : He.SaysD faL fnL K) (e : exB K = true) : Df P w K mg base CX0 2 "is_manner" (spV gManner) := ok_manner (def_at X G c (mem_at 5 rfl) (mem_at 4 rfl)) (tx_at X G c) (k_number X G c e)
theorem k_manners (X : K.In h) (G : h.Ns mainGlobals mg) (c : He.SaysD faL fnL K) (e : exB K = true) : Df P w K mg base CX0 3 "are_manners" (spV gManners) := ok_manners (def_at X G c (mem_at 6 rfl) (mem_at 5 rfl)) (tx_at X G c) (k_manner X G c e)
theorem k_notes (X : K.In h) (G : h.Ns mainGlobals mg) (c : He.SaysD faL fnL K) (e : exB K = true) : Df P w K mg base CX0 3 "_law_notes" (spNotes K) := ok_notes (def_at X G c (mem_at 33 rfl) (mem_at 32 rfl)) (tx_at X G c) (k_taken X G c e) (k_pick X G c e) (k_lletters X G c e) (k_lseen X G c e)
theorem k_init (X : K.In h) (G : h.Ns mainGlobals mg) (c : He.SaysD faL fnL K) (e : exB K = true) : FnR P w K mg base CX0 4 (He.ma K (HC K) "__init__") (spInit (HC K)) := by
  obtain ⟨fd, F⟩ := c.defs (d := dInit) (mem_at 0 rfl)
  exact ok_init (f := He.ma K (HC K) "__init__") (fd := fd) F (tx_at X G c) (hc_at X G c e) (k_names X G c e) (k_plates X G c e) (k_manners X G c e)
theorem k_built (X : K.In h) (G : h.Ns mainGlobals mg) (c : He.SaysD faL fnL K) (e : exB K = true) : Df P w K mg base CX0 6 "_law_built" (spG (gBuilt (HC K))) := ok_built (def_at X G c (mem_at 32 rfl) (mem_at 31 rfl)) (tx_at X G c) (hc_at X G c e) (He.mkr_ok (c.facts (f := .mkr "House") (mem_at 76 rfl))) (k_init X G c e)
theorem k_law (X : K.In h) (G : h.Ns mainGlobals mg) (c : He.SaysX faL fnL [] [("law", none)] exB w h K) {fa : Addr} (hmg : mg ("law" : Str) = some (.ref fa)) : LamX.LawAtS PySem.Challenge.rw_lostplates_k06_whole_logs_leave_what_is w K CX0 9 63 "_law_script" mg fa h := by
  have d := c.t.d
  have e := c.more
  obtain ⟨fd, FD⟩ := d.defs (d := dd "law" 64) (mem_at 34 rfl)
  have efa := hmg.symm.trans (glo_at X G d (x := "law") (mem_at 33 rfl))
  cases efa
  have bn := FunD.bindsA (ps := ["_law_script"]) FD fun _ _ _ _ _ _ us hl => match us, hl with | [_], _ => rfl
  obtain ⟨oc, od, dV, kV, doc, pm, an, cdv, ct, osl, rfl, lk, hcd, _, _⟩ := FD.ex
  obtain ⟨cd, rfl⟩ := He.codeIn_ref hcd
  have ec : He.codeOf K ("law", none) = cd := He.codeOf_eq (p := ("law", none)) lk rfl
  have hd : PySem.W.codeHdIn K cd (He.tabOf K cd) = true := by
    have := c.hd ("law", none) (List.mem_cons_self ..)
    unfold He.cT at this
    rw [ec] at this
    exact this
  have out : K.lookup (He.tabOf K cd) = none := by
    have := c.out ("law", none) (List.mem_cons_self ..)
    unfold He.cT at this
    rw [ec] at this
    exact this
  have emp : h.get? (He.tabOf K cd) = some { cls := .none, data := .fields #[] } := by
    have := c.empty ("law", none) (List.mem_cons_self ..)
    unfold He.cT at this
    rw [ec] at this
    exact this
  have one : ∀ {Q : Addr × Addr → Prop}, Q (cd, He.tabOf K cd) → ∀ p ∈ [(cd, He.tabOf K cd)], Q p := fun q p hp => by
    rcases List.mem_cons.mp hp with z | hp
    · rw [z]
      exact q
    · cases hp
  refine ⟨_, [(cd, He.tabOf K cd)], spLaw K (He.tabOf K cd), one emp, one out, one (PySem.W.codeHd_of_K X hd), fun s u => bn s [u] rfl, fun H a ns _ _ hT hS => ⟨a, ns, rfl, hS, hT _ (List.mem_cons_self ..), fun _ => rfl⟩, fun base X2 G2 TB => ?_⟩
  exact ok_law (C := HC K) (CN := NC K) lk hcd (tx_at X G d) (rx_at X G d e) (def_at X G d (mem_at 30 rfl) (mem_at 29 rfl)) ⟨k_scheme X G d e, k_built X G d e, k_notes X G d e, k_lorders X G d e, k_lleft X G d e, k_possible X G d e, k_first X G d e, k_behind X G d e, k_free X G d e⟩ (TB _ (List.mem_cons_self ..))
end
end Lp

set_option Elab.async false
set_option linter.all false
set_option maxRecDepth 100000
set_option maxHeartbeats 0
/-! Lostplates: the run of the top by the kernel. -/
namespace Lp
open PySem PySem.W PySem.Calls PyProof.Rows
abbrev Rw : PySem.W.OpenRow := PySem.W.OpenLaw.row PySem.Challenge.rw_lostplates_k06_whole_logs_leave_what_is
abbrev qv : Program := PySem.W.view Rw.prog [64]
def loose0 : List PySem.Str := ["PlateError", "InvalidHouse", "InvalidOrder", "UnknownName", "InvalidBox", "InvalidLog", "UnknownEntry", "NoOrder", "TooMany", "InvalidNumber", "InvalidHint", "InvalidRow", "InvalidManners"]
def loose1 : List PySem.Str := ["LETTERS", "POINT", "MAX_LETTERS", "MAX_NAMES", "MAX_BOXES", "BACK", "KEEP", "is_number", "is_text", "are_names", "are_plates", "is_manner", "are_manners", "House"]
def loose2 : List PySem.Str := ["does_match", "does_fit", "all_orders", "owner_of", "KEPT", "LIES", "ROUND", "handed_on", "way_of", "answer_of", "MAX_ANSWER", "check_log", "left_by", "possible", "need_some", "surely_behind", "surely_free", "first_wrong"]
def loose3 : List PySem.Str := ["_law_taken", "_law_pick", "_law_mixed", "_law_goes", "_law_orders", "_law_way", "_law_seen", "_law_letters", "_law_left", "_law_raised", "_law_scheme", "_law_built", "_law_notes"]
def looseN : List PySem.Str := loose0 ++ (loose1 ++ (loose2 ++ loose3))
abbrev hkL : PySem.W.Hook := He.hookX 4 faL fnL [] [("law", none)] exB
def obL (s : PySem.W.SharedT) : He.AlX := He.obsX 4 faL fnL [] [("law", none)] exB (HandSHeadRun.getT s)
theorem obL_eq (s : PySem.W.SharedT) : obL s = hkL.obs s.abs := He.obsX_eq (HandSHeadRun.getT_eq s)
theorem runL (w : World) : HandSHeadRun.RunEq Rw qv hkL obL 12000 looseN w := by
  intro os
  kernel_rfl
end Lp

set_option Elab.async false
set_option linter.all false
set_option maxRecDepth 100000
set_option maxHeartbeats 0
/-! Lostplates: the law, to the end. -/
open PySem PySem.W PySem.Calls PyProof.Rows
theorem PySem.Challenge.cw_lostplates_k06_whole_logs_leave_what_is_holds : PySem.Challenge.rw_lostplates_k06_whole_logs_leave_what_is.Holds := by
  w_on; o_law
  refine HandSHeadRun.head_any (r := OpenLaw.row PySem.Challenge.rw_lostplates_k06_whole_logs_leave_what_is) (q := Lp.qv) (H := Lp.hkL) (ob := Lp.obL) (M := 12000) (loose := Lp.looseN) (d := HandSHeadRun.topDef (OpenLaw.row PySem.Challenge.rw_lostplates_k06_whole_logs_leave_what_is).prog 64) (kwd := []) Lp.obL_eq
    (by kernel_rfl) (fun s => by kernel_rfl) Lp.runL (by kernel_rfl) (by kernel_rfl) (by kernel_rfl) (by rfl) (by first | assumption | decide +kernel) (by decide +kernel) ⟨rfl, rfl, rfl, rfl, rfl, by decide +kernel⟩ ?hw ?hc
  case hw => w_witness2
  case hc =>
    refine LamX.walk_ofTsE (l := PySem.Challenge.rw_lostplates_k06_whole_logs_leave_what_is) (n := 63) (k := 9) (x := "_law_script") (CX := fun _ => L2.CX0) rfl (by decide) (by kernel_rfl) ⟨rfl, by decide, by decide⟩ ?F (fun _ _ _ _ _ z => z)
    intro w mg fa h Y G hmg0
    obtain ⟨K, KX, c⟩ := Y
    have hmg : mg ("law" : PySem.Str) = some (.ref fa) := by
      have e : (HandSHeadRun.topDef (OpenLaw.row PySem.Challenge.rw_lostplates_k06_whole_logs_leave_what_is).prog 64).name = ("law" : PySem.Str) := by kernel_rfl
      rw [← e]
      exact hmg0
    exact ⟨K, KX, Lp.k_law KX G c hmg⟩
