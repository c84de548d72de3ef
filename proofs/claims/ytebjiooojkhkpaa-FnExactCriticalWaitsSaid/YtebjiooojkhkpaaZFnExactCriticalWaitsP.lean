-- Shaken by wip/gen/shake.py out of this claim's own printed texts. Lean checks it.
import Derived.Deep.Matrix
import Derived.Test.YtebjiooojkhkpaaExtG
import Derived.Test.YtebjiooojkhkpaaProg
import Derived.Test.YtebjiooojkhkpaaWMore
import Derived.Test.YtebjiooojkhkpaaWSized
import Derived.Test.YtebjiooojkhkpaaWWords
import Derived.Test.YtebjiooojkhkpaaX0
import Derived.Test.YtebjiooojkhkpaaZFnExactCriticalWaitsX0
import Derived.Test.YtebjiooojkhkpaaZFnExactCriticalWaitsX1
import Derived.Test.YtebjiooojkhkpaaZFnExactCriticalWaitsX2
import Derived.Test.YtebjiooojkhkpaaZFnExactCriticalWaitsX3
import Derived.Test.YtebjiooojkhkpaaZFnExactCriticalWaitsX4
import Derived.Test.YtebjiooojkhkpaaZFnExactCriticalWaitsX5
import Derived.Test.YtebjiooojkhkpaaZFnExactCriticalWaitsX6
/- Small rules for 'from some number of rounds on' (Ev), lists and wraps: what the pure proofs of this seat lean on. No condition. -/
namespace Go.Proofs.Ytebjiooojkhkpaa.Pure
open Go.RowKit Go.Proofs.YtebjiooojkhkpaaW.PrintWords Go.Proofs.YtebjiooojkhkpaaW.PrintMore
set_option linter.unusedVariables false
set_option linter.unusedSimpArgs false

theorem ev_pos {α : Type} {c : Prop} [Decidable c] {f g : Nat → Option α} {r : α} (h : c) (k : Ev f r) : Ev (fun n => if c then f n else g n) r := by
  obtain ⟨K, k⟩ := k
  exact ⟨K, fun n hn => (if_pos h).trans (k n hn)⟩
theorem ev_neg {α : Type} {c : Prop} [Decidable c] {f g : Nat → Option α} {r : α} (h : ¬ c) (k : Ev g r) : Ev (fun n => if c then f n else g n) r := by
  obtain ⟨K, k⟩ := k
  exact ⟨K, fun n hn => (if_neg h).trans (k n hn)⟩
theorem ev_true {α : Type} {f g : Nat → Option α} {r : α} (k : Ev f r) : Ev (fun n => if true = true then f n else g n) r := ev_pos rfl k
theorem ev_false {α : Type} {f g : Nat → Option α} {r : α} (k : Ev g r) : Ev (fun n => if false = true then f n else g n) r := ev_neg (by simp) k
theorem ev_eq {α : Type} {f : Nat → Option α} {r q : α} (h : r = q) (k : Ev f q) : Ev f r := h ▸ k
theorem ev_const {α : Type} {a : Option α} {r : α} (h : a = some r) : Ev (fun _ => a) r := ⟨0, fun _ _ => h⟩
theorem agree1 {α : Type} {g f : Nat → Option α} {r : α} (h : Ev g r) (h' : Ev f r) : ∃ k, g k = some r ∧ f k = some r := by
  obtain ⟨K, h⟩ := h
  obtain ⟨K', h'⟩ := h'
  exact ⟨max K K', h _ (by omega), h' _ (by omega)⟩
theorem agree2 {α β : Type} {g f : Nat → Option (α × β)} {r : α × β} (h : Ev g r) (h' : Ev f r) : ∃ k r1 r2, g k = some (r1, r2) ∧ f k = some (r1, r2) ∧ r = (r1, r2) := by
  obtain ⟨k, h1, h2⟩ := agree1 h h'
  obtain ⟨r1, r2⟩ := r
  exact ⟨k, r1, r2, h1, h2, rfl⟩
theorem ev_bind0 {α β : Type} {g : Nat → Option α} {f : α → Option β} {a : α} {r : β} (h : Ev g a) (k : f a = some r) : Ev (fun n => (g n).bind f) r := Ev.bind (f := fun _ => f) h (ev_const k)

theorem ev_j {α : Type} {g : Nat → Bool → Option α} {f h : Nat → Option α} {r : α} {b : Bool} (hj : ∀ k x, g (k + 1) x = if x = true then f k else h k) (k1 : b = true → Ev f r) (k2 : b = false → Ev h r) : Ev (fun k => g k b) r := by
  cases b with
  | true => exact Ev.step (fun k => (hj k true).trans (if_pos rfl)) (k1 rfl)
  | false => exact Ev.step (fun k => (hj k false).trans (if_neg (by simp))) (k2 rfl)

theorem wr {x : Int} (h : -9223372036854775808 ≤ x) (h' : x ≤ 9223372036854775807) : wrap64 x = x := by unfold wrap64; omega
theorem wr1 {i : Nat} (h : (i : Int) < 9223372036854775807) : wrap64 ((i : Int) + 1) = ((i + 1 : Nat) : Int) := by unfold wrap64; omega
theorem rd_get {xs : List Int} {i : Nat} (h : i < xs.length) : rd xs (i : Int) = xs[i] := by simp [rd, h]
theorem rd_mem {xs : List Int} {i : Nat} (h : i < xs.length) : rd xs (i : Int) ∈ xs := by rw [rd_get h]; exact List.getElem_mem h
theorem drop_rd {xs : List Int} {i : Nat} (h : i < xs.length) : xs.drop i = rd xs (i : Int) :: xs.drop (i + 1) := by
  rw [List.drop_eq_getElem_cons h, rd_get h]
theorem take_rd {xs : List Int} {i : Nat} (h : i < xs.length) : xs.take (i + 1) = xs.take i ++ [rd xs (i : Int)] := by
  rw [List.take_succ_eq_append_getElem h, rd_get h]
theorem drop_all {α : Type} {xs : List α} {i : Nat} (h : xs.length ≤ i) : xs.drop i = [] := List.drop_of_length_le h
theorem take_all {α : Type} {xs : List α} {i : Nat} (h : xs.length ≤ i) : xs.take i = xs := List.take_of_length_le h
/-- A walk up to n: what holds at each place, from the last one down. -/
theorem up_to {P : Nat → Prop} (n : Nat) (hend : P n) (hround : ∀ i, i < n → P (i + 1) → P i) : ∀ i, i ≤ n → P i := by
  have key : ∀ d i, i + d = n → P i := by
    intro d
    induction d with
    | zero => intro i h; have : i = n := by omega
              subst this; exact hend
    | succ d ih => intro i h; exact hround i (by omega) (ih (i + 1) (by omega))
  intro i hi
  exact key (n - i) i (by omega)

/-- A loop over the places of a list that ends at the first element without p. -/
theorem ev_all {L : Nat → Int → Option Bool} {xs : List Int} {T : Nat → Int → Option Bool} {p : Int → Bool} (hn : (xs.length : Int) ≤ 140737488355328)
    (hL : ∀ k i, L (k + 1) i = if i < (xs.length : Int) then (if 0 ≤ i then (if i < (xs.length : Int) then ((T k (rd xs i)).bind fun t => (if t = true then L k (wrap64 (i + 1)) else some false)) else none) else none) else some true)
    (hT : ∀ x, x ∈ xs → Ev (fun k => T k x) (p x)) : Ev (fun k => L k 0) (xs.all p) := by
  have key : ∀ i, i ≤ xs.length → Ev (fun k => L k (i : Int)) ((xs.drop i).all p) := by
    refine up_to _ ?_ ?_
    · rw [drop_all (Nat.le_refl _)]
      exact Ev.step (fun k => hL k _) (ev_neg (by omega) (Ev.now true))
    · intro i hi ih
      rw [drop_rd hi, List.all_cons]
      refine Ev.step (fun k => hL k _) (ev_pos (by omega) (ev_pos (by omega) (ev_pos (by omega) (Ev.bind (hT _ (rd_mem hi)) ?_))))
      rw [wr1 (by omega)]
      cases hp : p (rd xs (i : Int)) with
      | true => exact ev_true (by simpa using ih)
      | false => exact ev_false (by simpa using Ev.now false)
  have := key 0 (Nat.zero_le _)
  simpa using this

/-- What is copied place by place is the list itself. -/
theorem ev_copy {L : Nat → List Int → Int → Option (List Int)} {xs : List Int} (hn : (xs.length : Int) ≤ 140737488355328)
    (hL : ∀ k ys i, L (k + 1) ys i = if i < (xs.length : Int) then (if 0 ≤ i then (if i < (ys.length : Int) then L k (ys.set i.toNat (rd xs i)) (wrap64 (i + 1)) else none) else none) else some ys)
    : Ev (fun k => L k (List.replicate xs.length 0) 0) xs := by
  have key : ∀ i, i ≤ xs.length → Ev (fun k => L k (xs.take i ++ List.replicate (xs.length - i) 0) (i : Int)) xs := by
    refine up_to _ ?_ ?_
    · rw [take_all (Nat.le_refl _), Nat.sub_self, List.replicate_zero, List.append_nil]
      exact Ev.step (fun k => hL k _ _) (ev_neg (by omega) (Ev.now xs))
    · intro i hi ih
      refine Ev.step (fun k => hL k _ _) (ev_pos (by omega) (ev_pos (by omega) (ev_pos (by simp; omega) ?_)))
      rw [wr1 (by omega)]
      have e : (xs.take i ++ List.replicate (xs.length - i) 0).set ((i : Int).toNat) (rd xs i) = xs.take (i + 1) ++ List.replicate (xs.length - (i + 1)) 0 := by
        rw [take_rd hi]
        have e2 : xs.length - i = (xs.length - (i + 1)) + 1 := by omega
        rw [e2, List.replicate_succ, Int.toNat_natCast, List.set_append_right _ _ (by simp; omega)]
        have e3 : i - (xs.take i).length = 0 := by simp; omega
        rw [e3]
        simp
      rw [e]
      exact ih
  have := key 0 (Nat.zero_le _)
  simpa using this

/-- Two lists of one length, compared place by place. -/
theorem ev_same {L : Nat → Int → Option Bool} {xs ys : List Int} (hn : (xs.length : Int) ≤ 140737488355328) (he : xs.length = ys.length)
    (hL : ∀ k i, L (k + 1) i = if i < (xs.length : Int) then (if 0 ≤ i then (if i < (ys.length : Int) then (if rd xs i = rd ys i then L k (wrap64 (i + 1)) else some false) else none) else none) else some true)
    : Ev (fun k => L k 0) (decide (xs = ys)) := by
  have key : ∀ i, i ≤ xs.length → Ev (fun k => L k (i : Int)) (decide (xs.drop i = ys.drop i)) := by
    refine up_to _ ?_ ?_
    · rw [drop_all (Nat.le_refl _), drop_all (by omega)]
      exact Ev.step (fun k => hL k _) (ev_neg (by omega) (ev_eq (by simp) (Ev.now true)))
    · intro i hi ih
      rw [drop_rd hi, drop_rd (by omega : i < ys.length)]
      refine Ev.step (fun k => hL k _) (ev_pos (by omega) (ev_pos (by omega) (ev_pos (by omega) ?_)))
      rw [wr1 (by omega)]
      by_cases e : rd xs (i : Int) = rd ys (i : Int)
      · refine ev_pos e (ev_eq ?_ ih)
        simp [e]
      · refine ev_neg e (ev_eq ?_ (Ev.now false))
        simp [e]
  have := key 0 (Nat.zero_le _)
  simpa using this
end Go.Proofs.Ytebjiooojkhkpaa.Pure

/- What the small tests of numbers and vectors come to, the program's and the reference's. Condition: lists no longer than memory allows. -/
namespace Go.Proofs.Ytebjiooojkhkpaa.Pure
open Go.RowKit Go.Proofs.Ytebjiooojkhkpaa.X Go.Proofs.YtebjiooojkhkpaaW.PrintWords Go.Proofs.YtebjiooojkhkpaaW.PrintMore
set_option linter.unusedVariables false
set_option linter.unusedSimpArgs false

/-- A number other than Infinity. -/
def finB (n : Int) : Bool := decide (-1000000 ≤ n ∧ n ≤ 1000000)
def numB (n : Int) : Bool := finB n || n == 1000000000
def vecB (l : List Int) : Bool := decide (1 ≤ l.length ∧ l.length ≤ 6) && l.all numB
theorem within_eq (a b c : Int) : impl_within.f a b c = some (decide (b ≤ a ∧ a ≤ c)) := by
  unfold impl_within.f
  by_cases h : a ≥ b
  · rw [if_pos h]; simp; omega
  · rw [if_neg h]; simp; omega
theorem l1In_eq (a b c : Int) : spec_l1In.f a b c = some (decide (b ≤ a ∧ a ≤ c)) := by
  unfold spec_l1In.f
  by_cases h : a ≥ b
  · rw [if_pos h]; simp; omega
  · rw [if_neg h]; simp; omega
theorem isFinite_eq (n : Int) : impl_isFinite.f n = some (finB n) := by
  unfold impl_isFinite.f finB
  by_cases h : n ≥ -1000000
  · rw [if_pos h]; simp; omega
  · rw [if_neg h]; simp; omega
theorem isNumber_eq (n : Int) : impl_isNumber.f n = some (numB n) := by
  unfold impl_isNumber.f numB
  rw [isFinite_eq, Option.bind_some]
  cases finB n <;> simp
theorem ev_areNumbers (l : List Int) (hn : (l.length : Int) ≤ 140737488355328) : Ev (fun k => impl_areNumbers.f k l) (l.all numB) :=
  ev_all hn (T := fun _ x => impl_isNumber.f x) (fun _ _ => rfl) (fun x _ => ev_const (isNumber_eq x))
theorem ev_isVector (l : List Int) (hn : (l.length : Int) ≤ 140737488355328) : Ev (fun k => impl_isVector.f k l) (vecB l) := by
  unfold impl_isVector.f
  refine Ev.bind (ev_const (within_eq _ _ _)) ?_
  by_cases h : 1 ≤ l.length ∧ l.length ≤ 6
  · refine ev_pos (by simp; omega) (ev_bind0 (ev_areNumbers l hn) ?_)
    simp [vecB, h]
  · refine ev_neg (by simp; omega) (ev_const ?_)
    simp [vecB, h]
theorem ev_l1All (l : List Int) (lo hi : Int) (hn : (l.length : Int) ≤ 140737488355328) : Ev (fun k => spec_l1All.f k l lo hi) (l.all fun n => decide (lo ≤ n ∧ n ≤ hi)) :=
  ev_all hn (L := fun k i => spec_l1All.l0 k lo hi l (l.length : Int) i) (T := fun _ x => spec_l1In.f x lo hi) (fun _ _ => rfl) (fun x _ => ev_const (l1In_eq x lo hi))
theorem ev_toIntS (l : List Int) (hn : (l.length : Int) ≤ 35184372088832) : Ev (fun k => laws_toIntS.f k l) l := by
  unfold laws_toIntS.f
  refine ev_pos (by omega) (ev_pos (by omega) ?_)
  have e : ((l.length : Int) : Int).toNat = l.length := by omega
  rw [e]
  exact ev_copy (L := fun k ys i => laws_toIntS.l0 k l ys i) (by omega) (fun _ _ _ => rfl)
theorem ev_eqIntS (a b : List Int) (hn : (a.length : Int) ≤ 140737488355328) : Ev (fun k => laws_eqIntS.f k a b) (decide (a = b)) := by
  unfold laws_eqIntS.f
  by_cases h : a.length = b.length
  · exact ev_pos (by omega) (ev_same (L := fun k i => laws_eqIntS.l0 k a b i) hn h (fun _ _ => rfl))
  · refine ev_neg (by omega) (ev_const ?_)
    have : ¬ a = b := fun e => h (by rw [e])
    simp [this]
end Go.Proofs.Ytebjiooojkhkpaa.Pure

/- What the laws' own helpers over numbers and rows of numbers come to (copied, compared, sized, marked, held). Condition: lists no longer than memory allows. -/
namespace Go.Proofs.Ytebjiooojkhkpaa.Pure
open Go.RowKit Go.Proofs.Ytebjiooojkhkpaa.X Go.Proofs.YtebjiooojkhkpaaW.PrintWords Go.Proofs.YtebjiooojkhkpaaW.PrintMore
set_option linter.unusedVariables false
set_option linter.unusedSimpArgs false

/-- How many numbers rows have together. -/
def tot (xs : List (List Int)) : Nat := (xs.map List.length).sum
theorem tot_cons (r : List Int) (xs : List (List Int)) : tot (r :: xs) = r.length + tot xs := rfl
theorem tot_append (xs ys : List (List Int)) : tot (xs ++ ys) = tot xs + tot ys := by simp [tot]
theorem tot_mem {r : List Int} {xs : List (List Int)} (h : r ∈ xs) : r.length ≤ tot xs := by
  induction xs with
  | nil => cases h
  | cons y ys ih =>
    rw [tot_cons]
    rcases List.mem_cons.1 h with rfl | h
    · omega
    · have := ih h; omega
theorem rdr_get {xs : List (List Int)} {i : Nat} (h : i < xs.length) : rd_L1 xs (i : Int) = xs[i] := by simp [rd_L1, h]
theorem rdr_mem {xs : List (List Int)} {i : Nat} (h : i < xs.length) : rd_L1 xs (i : Int) ∈ xs := by rw [rdr_get h]; exact List.getElem_mem h
theorem drop_rdr {xs : List (List Int)} {i : Nat} (h : i < xs.length) : xs.drop i = rd_L1 xs (i : Int) :: xs.drop (i + 1) := by rw [List.drop_eq_getElem_cons h, rdr_get h]
theorem take_rdr {xs : List (List Int)} {i : Nat} (h : i < xs.length) : xs.take (i + 1) = xs.take i ++ [rd_L1 xs (i : Int)] := by rw [List.take_succ_eq_append_getElem h, rdr_get h]

/-- The marks from a on. -/
def marks : Int → Nat → List Int
  | _, 0 => []
  | a, n + 1 => a :: marks (a + 1) n
theorem marks_length : ∀ (a : Int) (n : Nat), (marks a n).length = n
  | _, 0 => rfl
  | a, n + 1 => by simp [marks, marks_length (a + 1) n]
def marksS : Int → List (List Int) → List (List Int)
  | _, [] => []
  | a, r :: rest => marks a r.length :: marksS (a + (r.length : Int)) rest

theorem szIntS_eq (l : List Int) (left : Int) (h0 : 0 ≤ left) (h1 : left ≤ 1048576) (hn : (l.length : Int) ≤ 9223372036854775807) : laws_szIntS.f l left = some (if (l.length : Int) ≤ left then left - (l.length : Int) else -1) := by
  unfold laws_szIntS.f
  rw [wr (by omega) (by omega)]
  by_cases h : (l.length : Int) ≤ left
  · rw [if_neg (by omega), if_pos h]
  · rw [if_pos (by omega), if_neg h]
theorem ev_szIntSS (xs : List (List Int)) (left : Int) (h0 : 0 ≤ left) (h1 : left ≤ 1048576) (hn : (xs.length : Int) ≤ 140737488355328) (hr : ∀ r ∈ xs, (r.length : Int) ≤ 9223372036854775807) :
    Ev (fun k => laws_szIntSS.f k xs left) (if (xs.length : Int) + (tot xs : Int) ≤ left then left - ((xs.length : Int) + (tot xs : Int)) else -1) := by
  unfold laws_szIntSS.f
  rw [wr (by omega) (by omega)]
  by_cases h : left - (xs.length : Int) < 0
  · refine ev_pos h (ev_const ?_)
    rw [if_neg (by omega)]
  · refine ev_neg h ?_
    have key : ∀ i, i ≤ xs.length → ∀ b : Int, 0 ≤ b → b ≤ 1048576 → Ev (fun k => laws_szIntSS.l0 k xs b (i : Int)) (if (tot (xs.drop i) : Int) ≤ b then b - (tot (xs.drop i) : Int) else -1) := by
      refine up_to _ ?_ ?_
      · intro b b0 b1
        rw [drop_all (Nat.le_refl _)]
        refine Ev.step (fun k => rfl) (ev_neg (by omega) (ev_const ?_))
        simp [tot, b0]
      · intro i hi ih b b0 b1
        rw [drop_rdr hi, tot_cons]
        refine Ev.step (fun k => rfl) (ev_pos (by omega) (ev_pos (by omega) (Ev.bind (ev_const (szIntS_eq _ b b0 b1 (hr _ (rdr_mem hi)))) ?_)))
        by_cases hh : ((rd_L1 xs (i : Int)).length : Int) ≤ b
        · rw [if_pos hh]
          refine ev_neg (by omega) ?_
          rw [wr1 (by omega)]
          refine ev_eq ?_ (ih _ (by omega) (by omega))
          by_cases h3 : ((tot (xs.drop (i + 1)) : Nat) : Int) ≤ b - ((rd_L1 xs (i : Int)).length : Int)
          · rw [if_pos h3, if_pos (by omega)]; omega
          · rw [if_neg h3, if_neg (by omega)]
        · rw [if_neg hh]
          refine ev_pos (by omega) (ev_const ?_)
          rw [if_neg (by omega)]
    have := key 0 (Nat.zero_le _) (left - (xs.length : Int)) (by omega) (by omega)
    rw [List.drop_zero] at this
    refine ev_eq ?_ this
    by_cases h3 : ((tot xs : Nat) : Int) ≤ left - (xs.length : Int)
    · rw [if_pos h3, if_pos (by omega)]; omega
    · rw [if_neg h3, if_neg (by omega)]
theorem ev_toIntSS (xs : List (List Int)) (hn : (xs.length : Int) ≤ 11728124029610) (hr : ∀ r ∈ xs, (r.length : Int) ≤ 35184372088832) : Ev (fun k => laws_toIntSS.f k xs) xs := by
  unfold laws_toIntSS.f
  refine ev_pos (by omega) (ev_pos (by omega) ?_)
  have e : ((xs.length : Int) : Int).toNat = xs.length := by omega
  rw [e]
  have key : ∀ i, i ≤ xs.length → Ev (fun k => laws_toIntSS.l0 k xs (xs.take i ++ List.replicate (xs.length - i) []) (i : Int)) xs := by
    refine up_to _ ?_ ?_
    · rw [take_all (Nat.le_refl _), Nat.sub_self, List.replicate_zero, List.append_nil]
      exact Ev.step (fun k => rfl) (ev_neg (by omega) (Ev.now xs))
    · intro i hi ih
      refine Ev.step (fun k => rfl) (ev_pos (by omega) (ev_pos (by omega) (Ev.bind (ev_toIntS (rd_L1 xs (i : Int)) (hr _ (rdr_mem hi))) (ev_pos (by simp; omega) ?_))))
      rw [wr1 (by omega)]
      have e : (xs.take i ++ List.replicate (xs.length - i) []).set ((i : Int).toNat) (rd_L1 xs (i : Int)) = xs.take (i + 1) ++ List.replicate (xs.length - (i + 1)) [] := by
        rw [take_rdr hi]
        have e2 : xs.length - i = (xs.length - (i + 1)) + 1 := by omega
        rw [e2, List.replicate_succ, Int.toNat_natCast, List.set_append_right _ _ (by simp; omega)]
        have e3 : i - (xs.take i).length = 0 := by simp; omega
        rw [e3]
        simp
      rw [e]
      exact ih
  have := key 0 (Nat.zero_le _)
  simpa using this
theorem ev_eqIntSS (xs : List (List Int)) (hn : (xs.length : Int) ≤ 140737488355328) (hr : ∀ r ∈ xs, (r.length : Int) ≤ 140737488355328) : Ev (fun k => laws_eqIntSS.f k xs xs) true := by
  unfold laws_eqIntSS.f
  refine ev_pos rfl ?_
  have key : ∀ i, i ≤ xs.length → Ev (fun k => laws_eqIntSS.l0 k xs xs (i : Int)) true := by
    refine up_to _ ?_ ?_
    · exact Ev.step (fun k => rfl) (ev_neg (by omega) (Ev.now true))
    · intro i hi ih
      have e := ev_eqIntS (rd_L1 xs (i : Int)) (rd_L1 xs (i : Int)) (hr _ (rdr_mem hi))
      rw [decide_eq_true rfl] at e
      refine Ev.step (fun k => rfl) (ev_pos (by omega) (ev_pos (by omega) (ev_pos (by omega) (Ev.bind e (ev_true ?_)))))
      rw [wr1 (by omega)]
      exact ih
  exact key 0 (Nat.zero_le _)
theorem marks_snoc : ∀ (n : Nat) (a : Int), marks a (n + 1) = marks a n ++ [a + (n : Int)]
  | 0, a => by simp [marks]
  | n + 1, a => by
    rw [marks, marks_snoc n (a + 1), marks, List.cons_append]
    congr 3
    omega
theorem ev_markIntS (xs : List Int) (a : Int) (h0 : 0 ≤ a) (h1 : a + (xs.length : Int) ≤ 140737488355328) : Ev (fun k => laws_markIntS.f k xs a) (a + (xs.length : Int), marks a xs.length) := by
  unfold laws_markIntS.f
  have key : ∀ i, i ≤ xs.length → Ev (fun k => laws_markIntS.l0 k (marks a i ++ xs.drop i) (a + (i : Int)) (i : Int)) (a + (xs.length : Int), marks a xs.length) := by
    have hl : ∀ i, i ≤ xs.length → ((marks a i ++ xs.drop i).length : Int) = (xs.length : Int) := by intro i hi; simp [marks_length]; omega
    refine up_to _ ?_ ?_
    · refine Ev.step (fun k => rfl) (ev_neg (by rw [hl _ (Nat.le_refl _)]; omega) (ev_const ?_))
      rw [drop_all (Nat.le_refl _), List.append_nil]
    · intro i hi ih
      refine Ev.step (fun k => rfl) (ev_pos (by rw [hl _ (by omega)]; omega) (ev_pos (by omega) ?_))
      rw [wr1 (by omega), wr (by omega) (by omega)]
      have e : (marks a i ++ xs.drop i).set ((i : Int).toNat) (a + (i : Int)) = marks a (i + 1) ++ xs.drop (i + 1) := by
        rw [drop_rd hi, Int.toNat_natCast, List.set_append_right _ _ (by rw [marks_length]; exact Nat.le_refl _), marks_length, Nat.sub_self, List.set_cons_zero, marks_snoc]
        simp
      have e2 : a + (i : Int) + 1 = a + ((i + 1 : Nat) : Int) := by omega
      rw [e, e2]
      exact ih
  have := key 0 (Nat.zero_le _)
  simpa [marks] using this
theorem ev_heldIntS_from (n : Nat) : ∀ (ys : List Int) (a : Int) (xs : List Int), xs = ys ++ marks a n → 0 ≤ a → a + (n : Int) ≤ 140737488355328 → (ys.length : Int) + (n : Int) ≤ 140737488355328 → Ev (fun k => laws_heldIntS.l0 k xs a (ys.length : Int)) (a + (n : Int)) := by
  induction n with
  | zero =>
    intro ys a xs e h0 h1 h2
    subst e
    refine Ev.step (fun k => rfl) (ev_neg (by simp [marks]) (ev_const ?_))
    simp
  | succ n ih =>
    intro ys a xs e h0 h1 h2
    have hl : xs.length = ys.length + (n + 1) := by rw [e]; simp [marks_length]
    have hr : rd xs (ys.length : Int) = a := by
      rw [rd_get (by omega)]
      subst e
      rw [List.getElem_append_right (Nat.le_refl _)]
      simp [marks]
    refine Ev.step (fun k => rfl) (ev_pos (by omega) (ev_pos (by omega) (ev_pos hr ?_)))
    rw [wr1 (by omega), wr (by omega) (by omega)]
    have := ih (ys ++ [a]) (a + 1) xs (by rw [e]; simp [marks]) (by omega) (by omega) (by simp; omega)
    rw [List.length_append, List.length_singleton] at this
    refine ev_eq ?_ this
    omega
theorem ev_heldIntS (a : Int) (n : Nat) (h0 : 0 ≤ a) (h1 : a + (n : Int) ≤ 140737488355328) : Ev (fun k => laws_heldIntS.f k (marks a n) a) (a + (n : Int)) := by
  unfold laws_heldIntS.f
  exact ev_heldIntS_from n [] a (marks a n) rfl h0 h1 (by simp; omega)
theorem marksS_length : ∀ (xs : List (List Int)) (a : Int), (marksS a xs).length = xs.length
  | [], _ => rfl
  | r :: xs, a => by simp [marksS, marksS_length xs]
theorem ev_heldIntSS_from (zs xs : List (List Int)) : ∀ (ys : List (List Int)) (a : Int), zs = ys ++ marksS a xs → 0 ≤ a → a + (tot xs : Int) ≤ 140737488355328 → (ys.length : Int) + (xs.length : Int) ≤ 140737488355328 → Ev (fun k => laws_heldIntSS.l0 k zs a (ys.length : Int)) (a + (tot xs : Int)) := by
  induction xs with
  | nil =>
    intro ys a e h0 h1 h2
    have hl : zs.length = ys.length := by rw [e]; simp [marksS]
    refine Ev.step (fun k => rfl) (ev_neg (by omega) (ev_const ?_))
    simp [tot]
  | cons r xs ih =>
    intro ys a e h0 h1 h2
    have hl : zs.length = ys.length + (xs.length + 1) := by rw [e]; simp [marksS_length]
    have hr : rd_L1 zs (ys.length : Int) = marks a r.length := by
      rw [rdr_get (by omega)]
      subst e
      rw [List.getElem_append_right (Nat.le_refl _)]
      simp [marksS]
    rw [tot_cons] at h1 ⊢
    refine Ev.step (fun k => rfl) (ev_pos (by omega) (ev_pos (by omega) ?_))
    have eh := ev_heldIntS a r.length h0 (by omega)
    rw [← hr] at eh
    refine Ev.bind eh (ev_neg (by omega) ?_)
    rw [wr1 (by simp at h2; omega)]
    have := ih (ys ++ [marks a r.length]) (a + (r.length : Int)) (by rw [e]; simp [marksS]) (by omega) (by omega) (by simp at h2 ⊢; omega)
    rw [List.length_append, List.length_singleton] at this
    refine ev_eq ?_ this
    omega
theorem ev_heldIntSS (a : Int) (xs : List (List Int)) (h0 : 0 ≤ a) (h1 : a + (tot xs : Int) ≤ 140737488355328) (h2 : (xs.length : Int) ≤ 140737488355328) : Ev (fun k => laws_heldIntSS.f k (marksS a xs) a) (a + (tot xs : Int)) := by
  unfold laws_heldIntSS.f
  exact ev_heldIntSS_from (marksS a xs) xs [] a rfl h0 h1 (by simp; omega)
end Go.Proofs.Ytebjiooojkhkpaa.Pure

/- The laws' helpers as contracts over stretches of blocks: a row of numbers, or of rows of numbers, that lies in the blocks lo to hi alone. Condition: sizes as the laws' guards let them in. -/
namespace Go.Proofs.Ytebjiooojkhkpaa.Law
open Go.RowKit Go.Proofs.Ytebjiooojkhkpaa.X Go.Proofs.Ytebjiooojkhkpaa.Pure Go.Proofs.YtebjiooojkhkpaaW.PrintWords Go.Proofs.YtebjiooojkhkpaaW.PrintMore
set_option linter.unusedVariables false

/-- Numbers that lie in the blocks from lo to hi. -/
def IntsAt (W : World) (lo hi : Nat) (v : Value) (xs : List Int) : Prop := Kd.R (Kd.int .i64) 3 W lo (fun k => lo ≤ k ∧ k < hi) v xs
theorem IntsAt.mk_ {w w' : World} {v : Value} {xs : List Int} (h : Kd.R (Kd.int .i64) 3 w' w.heap.size (fun _ => True) v xs) : IntsAt w' w.heap.size w'.heap.size v xs :=
  Kd.R_mono (Kd.R_bound h) (fun k hk => ⟨hk.2.1, hk.2.2.1⟩)
theorem IntsAt.kept {W W' : World} {lo hi : Nat} {v : Value} {xs : List Int} {S : Nat → Prop} (h : IntsAt W lo hi v xs) (hk : Kept W W' S) (hd : ∀ k, S k → k < lo ∨ hi ≤ k) : IntsAt W' lo hi v xs :=
  Kd.R_step h (fun k ho hlt => hk.2 k hlt (fun hs => by have := hd k hs; omega))
theorem IntsAt.below {W W' : World} {lo hi : Nat} {v : Value} {xs : List Int} (h : IntsAt W lo hi v xs) (hb : Below W.heap.size W W') : IntsAt W' lo hi v xs := Kd.R_below h hb
theorem IntsAt.shape {W : World} {lo hi : Nat} {v : Value} {xs : List Int} (h : IntsAt W lo hi v xs) : ∃ A c, v = .slice A xs.length c ∧ xs.length ≤ c ∧ Kd.C (Kd.int .i64) W A xs.length xs := Kd.R_reads h
theorem IntsAt.reads {W : World} {lo hi : Nat} {A : Option Addr} {n c : Nat} {xs : List Int} (h : IntsAt W lo hi (.slice A n c) xs) : n = xs.length ∧ n ≤ c ∧ Kd.C (Kd.int .i64) W A xs.length xs := Kd.R_reads' h

/-- Numbers that are only read, in blocks from lo to hi. -/
def ViewAt (W : World) (lo hi : Nat) (v : Value) (xs : List Int) : Prop := Kd.V (Kd.int .i64) 3 W lo (fun k => lo ≤ k ∧ k < hi) v xs
theorem ViewAt.mk_ {w w' : World} {v : Value} {xs : List Int} (h : Kd.V (Kd.int .i64) 3 w' w.heap.size (fun k => w.heap.size ≤ k) v xs) : ViewAt w' w.heap.size w'.heap.size v xs := Kd.V_bound h
theorem ViewAt.kept {W W' : World} {lo hi : Nat} {v : Value} {xs : List Int} {S : Nat → Prop} (h : ViewAt W lo hi v xs) (hk : Kept W W' S) (hd : ∀ k, S k → k < lo ∨ hi ≤ k) : ViewAt W' lo hi v xs :=
  Kd.V_step h (fun k ho hlt => hk.2 k hlt (fun hs => by have := hd k hs; omega))
theorem ViewAt.below {W W' : World} {lo hi : Nat} {v : Value} {xs : List Int} (h : ViewAt W lo hi v xs) (hb : Below W.heap.size W W') : ViewAt W' lo hi v xs := Kd.V_below h hb
theorem ViewAt.reads {W : World} {lo hi : Nat} {A : Option Addr} {n c : Nat} {xs : List Int} (h : ViewAt W lo hi (.slice A n c) xs) : n = xs.length ∧ n ≤ c ∧ Kd.C (Kd.int .i64) W A xs.length xs := Kd.V_reads' h
theorem ViewAt.shape {W : World} {lo hi : Nat} {v : Value} {xs : List Int} (h : ViewAt W lo hi v xs) : ∃ A c, v = .slice A xs.length c ∧ xs.length ≤ c ∧ Kd.C (Kd.int .i64) W A xs.length xs := by
  obtain ⟨A, c, e⟩ := Kd.V_slice h
  subst e
  exact ⟨A, c, rfl, (Kd.V_reads' h).2.1, (Kd.V_reads' h).2.2⟩

/-- Rows of numbers, the whole and each row in a block of its own, all of them from lo to hi. -/
def RowsAt (W : World) (lo hi : Nat) (v : Value) (xs : List (List Int)) : Prop :=
  ∃ (A : Option Addr) (c : Nat) (cell : Nat → Value) (f : Nat → Nat), v = .slice A xs.length c ∧ xs.length ≤ c ∧ xs.length ≤ 9223372036854775807 ∧
    ∀ j, j < xs.length → ∃ g, A = some ⟨g, 0, none⟩ ∧ lo ≤ g ∧ g < hi ∧ W.cell? ⟨g, j, none⟩ = some (cell j) ∧ Kd.R (Kd.int .i64) 3 W lo (fun k => lo ≤ k ∧ k < hi ∧ k ≠ g ∧ f k = j) (cell j) (xs.getD j [])
theorem RowsAt.mk_ {w w' : World} {v : Value} {xs : List (List Int)} (h : Kd.S (Kd.slice 3 (Kd.int .i64)) 23 w' w.heap.size (fun _ => True) v xs) : RowsAt w' w.heap.size w'.heap.size v xs := by
  obtain ⟨A, c, rfl, hlc, hr⟩ := Kd.S_reads h
  have hb := Kd.S_bound h
  obtain ⟨f, hR⟩ := hb
  have each : ∀ j, j < xs.length → ∃ cell : Value, ∃ g, A = some ⟨g, 0, none⟩ ∧ w.heap.size ≤ g ∧ g < w'.heap.size ∧ w'.cell? ⟨g, j, none⟩ = some cell ∧ Kd.R (Kd.int .i64) 3 w' w.heap.size (fun k => w.heap.size ≤ k ∧ k < w'.heap.size ∧ k ≠ g ∧ f k = j) cell (xs.getD j []) := by
    intro j hj
    obtain ⟨ad, e, _⟩ := hr.2.2 (by omega)
    subst e
    obtain ⟨g, rfl⟩ := Kd.R_head hR
    have hg := hR.1 g (by simp [Value.ownBlock])
    obtain ⟨cs, hcl, hM, hcc⟩ := Kd.R_getA (n := xs.length) hR ([], 0) (j : Int) (by omega) (by omega)
    rw [Int.toNat_natCast] at hM hcc
    have hz : xs.zipIdx.getD j ([], 0) = (xs.getD j [], j) := by
      rw [List.getD_eq_getElem?_getD, List.getD_eq_getElem?_getD, List.getElem?_zipIdx, List.getElem?_eq_getElem hj]
      simp
    rw [hz] at hM
    obtain ⟨cell, rfl, hMR⟩ := (show ∃ v, cs = [v] ∧ (Kd.int .i64).R 3 w' w.heap.size _ v (xs.getD j []) from hM)
    refine ⟨cell, g, rfl, hg.2.1, hg.2.2.1, ?_, ?_⟩
    · have h0 := hcc 0 cell rfl
      have e1 : (⟨g, 0, none⟩ : Addr).add (j * (Kd.tag f (Kd.slice 3 (Kd.int .i64))).sz + 0) = ⟨g, j, none⟩ := by
        rw [add_plain, show (Kd.tag f (Kd.slice 3 (Kd.int .i64))).sz = 1 from rfl, Nat.mul_one, Nat.add_zero]
      rwa [e1] at h0
    · exact Kd.R_mono hMR (fun k hk => ⟨hk.1.1.2.1, hk.1.1.2.2.1, fun e => hk.1.2 (by rw [e]; simp [Value.ownBlock]), hk.2⟩)
  obtain ⟨cell, hcell⟩ := Ext.chosen each
  exact ⟨A, c, cell, f, rfl, hlc, hr.2.1, hcell⟩
theorem RowsAt.kept {W W' : World} {lo hi : Nat} {v : Value} {xs : List (List Int)} {S : Nat → Prop} (h : RowsAt W lo hi v xs) (hk : Kept W W' S) (hd : ∀ k, S k → k < lo ∨ hi ≤ k) : RowsAt W' lo hi v xs := by
  obtain ⟨A, c, cell, f, rfl, h1, h2, h3⟩ := h
  refine ⟨A, c, cell, f, rfl, h1, h2, fun j hj => ?_⟩
  obtain ⟨g, e, hlo, hhi, hc, hR⟩ := h3 j hj
  exact ⟨g, e, hlo, hhi, cell_kept hc hk (fun hs => by have := hd _ hs; simp at this; omega), Kd.R_step hR (fun k ho hlt => hk.2 k hlt (fun hs => by have := hd k hs; omega))⟩
theorem RowsAt.below {W W' : World} {lo hi : Nat} {v : Value} {xs : List (List Int)} (h : RowsAt W lo hi v xs) (hb : Below W.heap.size W W') : RowsAt W' lo hi v xs := h.kept (Kept.of_below hb (fun _ => False)) (fun _ hk => hk.elim)
theorem RowsAt.shape {W : World} {lo hi : Nat} {v : Value} {xs : List (List Int)} (h : RowsAt W lo hi v xs) : ∃ A c, v = .slice A xs.length c ∧ xs.length ≤ c ∧ Kd.C (Kd.slice 3 (Kd.int .i64)) W A xs.length xs := by
  obtain ⟨A, c, cell, f, rfl, h1, h2, h3⟩ := h
  refine ⟨A, c, rfl, h1, rfl, h2, fun hp => ?_⟩
  obtain ⟨g, rfl, _⟩ := h3 0 hp
  refine ⟨_, rfl, fun j p hj => ?_⟩
  obtain ⟨hjl, rfl⟩ := List.getElem?_eq_some_iff.1 hj
  obtain ⟨g', e, _, _, hc, hR⟩ := h3 j hjl
  injection e with e
  injection e with e
  subst e
  obtain ⟨A', c', e', hl', hr'⟩ := Kd.R_reads hR
  have hx : xs.getD j [] = xs[j] := by simp [hjl]
  rw [hx] at e' hl' hr'
  refine ⟨[cell j], rfl, ⟨A', c', by rw [e'], hl', hr'⟩, fun i u hu => ?_⟩
  cases i with
  | zero =>
    have : cell j = u := by simpa using hu
    subst this
    rw [add_plain, show (Kd.slice 3 (Kd.int .i64)).sz = 1 from rfl, Nat.mul_one, Nat.add_zero]
    exact hc
  | succ i => simp at hu
theorem RowsAt.reads {W : World} {lo hi : Nat} {A : Option Addr} {n c : Nat} {xs : List (List Int)} (h : RowsAt W lo hi (.slice A n c) xs) : n = xs.length ∧ n ≤ c ∧ Kd.C (Kd.slice 3 (Kd.int .i64)) W A xs.length xs := by
  obtain ⟨A', c', e, h1, h2⟩ := h.shape
  injection e with e1 e2 e3
  subst e1 e3
  exact ⟨e2, by omega, h2⟩
/-- Row j, and what is known once its block alone was written. -/
theorem RowsAt.row {W : World} {lo hi : Nat} {A : Option Addr} {n c : Nat} {xs : List (List Int)} (h : RowsAt W lo hi (.slice A n c) xs) (j : Nat) (hj : j < xs.length) :
    ∃ (ad : Addr) (u : Value), A = some ad ∧ W.cell? (ad.add j) = some u ∧ (∀ k, u.ownBlock = some k → lo ≤ k ∧ k < hi) ∧ Kd.R (Kd.int .i64) 3 W lo (fun k => some k = u.ownBlock) u (xs.getD j []) ∧
      ∀ (W' : World) (r : List Int), Kept W W' (fun k => some k = u.ownBlock) → Kd.R (Kd.int .i64) 3 W' lo (fun k => some k = u.ownBlock) u r → RowsAt W' lo hi (.slice A n c) (xs.set j r) := by
  obtain ⟨A', c', cell, f, e, h1, h2, h3⟩ := h
  injection e with e1 e2 e3
  subst e1 e2 e3
  obtain ⟨g, rfl, hlo, hhi, hc, hR⟩ := h3 j hj
  have hne : ∀ k, (cell j).ownBlock = some k → lo ≤ k ∧ k < hi ∧ k ≠ g ∧ f k = j := fun k hk => hR.1 k hk
  refine ⟨⟨g, 0, none⟩, cell j, rfl, by rw [add_plain]; exact hc, fun k hk => ⟨(hne k hk).1, (hne k hk).2.1⟩, Kd.R_tight rfl hR, fun W' r hk hr => ?_⟩
  refine ⟨some ⟨g, 0, none⟩, c, cell, f, by rw [List.length_set], by rw [List.length_set]; exact h1, by rw [List.length_set]; exact h2, fun i hi' => ?_⟩
  rw [List.length_set] at hi'
  obtain ⟨g', e, hlo', hhi', hc', hR'⟩ := h3 i hi'
  injection e with e
  injection e with e
  subst e
  refine ⟨g, rfl, hlo, hhi, cell_kept hc' hk (fun hs => (hne _ hs.symm).2.2.1 rfl), ?_⟩
  by_cases hij : i = j
  · subst hij
    have : (xs.set i r).getD i [] = r := by rw [List.getD_eq_getElem?_getD, List.getElem?_set_self hj]; rfl
    rw [this]
    exact Kd.R_mono hr (fun k hk => hne k hk.symm)
  · have : (xs.set j r).getD i [] = xs.getD i [] := by rw [List.getD_eq_getElem?_getD, List.getD_eq_getElem?_getD, List.getElem?_set_ne (fun e => hij e.symm)]
    rw [this]
    exact Kd.R_step hR' (fun k ho hlt => hk.2 k hlt (fun hs => hij (by rw [← ho.2.2.2, (hne k hs.symm).2.2.2])))

theorem toIntS_law (A : Option Addr) (c : Nat) (l : List Int) (w : World) (hr : Kd.C (Kd.int .i64) w A l.length l) (hc : l.length ≤ c) (hn : l.length ≤ 1048576) :
    Calls Try.prog 17 #[.slice A l.length c] w fun e w' => ∃ v, e = .returned v ∧ IntsAt w' w.heap.size w'.heap.size v l ∧ Below w.heap.size w w' := by
  obtain ⟨k, hk⟩ := Ev.rounds (ev_toIntS l (by omega))
  exact (laws_toIntS.calls k A c l l w hr hc hk).mono fun e w' ⟨v, he, ho, hb⟩ => ⟨v, he, IntsAt.mk_ ho, hb⟩
theorem toIntSS_law (A : Option Addr) (c : Nat) (l : List (List Int)) (w : World) (hr : Kd.C (Kd.slice 3 (Kd.int .i64)) w A l.length l) (hc : l.length ≤ c) (hn : l.length + tot l ≤ 1048576) :
    Calls Try.prog 16 #[.slice A l.length c] w fun e w' => ∃ v, e = .returned v ∧ RowsAt w' w.heap.size w'.heap.size v l ∧ Below w.heap.size w w' := by
  obtain ⟨k, hk⟩ := Ev.rounds (ev_toIntSS l (by omega) (fun r hr => by have := tot_mem hr; omega))
  exact (laws_toIntSS.calls k A c l l w hr hc hk).mono fun e w' ⟨v, he, ho, hb⟩ => ⟨v, he, RowsAt.mk_ ho, hb⟩
theorem eqIntS_law (A A' : Option Addr) (c c' : Nat) (l : List Int) (w : World) (hr : Kd.C (Kd.int .i64) w A l.length l) (hc : l.length ≤ c) (hr' : Kd.C (Kd.int .i64) w A' l.length l) (hc' : l.length ≤ c') (hn : (l.length : Int) ≤ 140737488355328) :
    Calls Try.prog 20 #[.slice A l.length c, .slice A' l.length c'] w fun e w' => e = .returned (.bool true) ∧ Below w.heap.size w w' := by
  have h0 := ev_eqIntS l l hn
  rw [decide_eq_true rfl] at h0
  obtain ⟨k, hk⟩ := Ev.rounds h0
  exact (laws_eqIntS.calls k A c l A' c' l true w hr hc hr' hc' hk).mono fun e w' ⟨he, hd⟩ => ⟨he, hd.below⟩
theorem eqIntSS_law (A A' : Option Addr) (c c' : Nat) (l : List (List Int)) (w : World) (hr : Kd.C (Kd.slice 3 (Kd.int .i64)) w A l.length l) (hc : l.length ≤ c) (hr' : Kd.C (Kd.slice 3 (Kd.int .i64)) w A' l.length l) (hc' : l.length ≤ c') (hn : l.length + tot l ≤ 140737488355328) :
    Calls Try.prog 19 #[.slice A l.length c, .slice A' l.length c'] w fun e w' => e = .returned (.bool true) ∧ Below w.heap.size w w' := by
  obtain ⟨k, hk⟩ := Ev.rounds (ev_eqIntSS l (by omega) (fun r hr => by have := tot_mem hr; omega))
  exact (laws_eqIntSS.calls k A c l A' c' l true w hr hc hr' hc' hk).mono fun e w' ⟨he, hd⟩ => ⟨he, hd.below⟩
/-- What szIntSS leaves. -/
def szOf (xs : List (List Int)) (left : Int) : Int := if (xs.length : Int) + (tot xs : Int) ≤ left then left - ((xs.length : Int) + (tot xs : Int)) else -1
theorem szIntSS_law (A : Option Addr) (c : Nat) (l : List (List Int)) (left : Int) (w : World) (hr : Kd.C (Kd.slice 3 (Kd.int .i64)) w A l.length l) (hc : l.length ≤ c) (h0 : 0 ≤ left) (h1 : left ≤ 1048576) (hn : (l.length : Int) ≤ 140737488355328) (hrow : ∀ r ∈ l, (r.length : Int) ≤ 9223372036854775807) :
    Calls Try.prog 14 #[.slice A l.length c, .int .i64 left] w fun e w' => e = .returned (.int .i64 (szOf l left)) ∧ Below w.heap.size w w' := by
  obtain ⟨k, hk⟩ := Ev.rounds (ev_szIntSS l left h0 h1 hn hrow)
  exact (laws_szIntSS.calls k A c l left _ w hr hc hk).mono fun e w' ⟨he, hd⟩ => ⟨he, hd.below⟩
theorem markIntS_law0 (P : Nat → Prop) (v : Value) (l : List Int) (a : Int) (w0 w : World) (hB : Below w0.heap.size w0 w) (ho : Kd.R (Kd.int .i64) 3 w w0.heap.size P v l) (h0 : 0 ≤ a) (h1 : a + (l.length : Int) ≤ 140737488355328) :
    Calls Try.prog 28 #[v, .int .i64 a] w fun e w' => e = .returned (.int .i64 (a + (l.length : Int))) ∧ Kd.R (Kd.int .i64) 3 w' w0.heap.size (fun k => some k = v.ownBlock) v (marks a l.length) ∧ Below w0.heap.size w0 w' ∧ Kept w w' P := by
  obtain ⟨k, hk⟩ := Ev.rounds (ev_markIntS l a h0 h1)
  exact (laws_markIntS.calls k P v l a _ _ w0 w hB ho hk).mono fun e w' ⟨he, hr, hb, hkp⟩ => ⟨he, Kd.R_tight rfl hr, hb, hkp⟩
theorem markIntS_law (lo hi : Nat) (v : Value) (l : List Int) (a : Int) (w0 w : World) (hB : Below w0.heap.size w0 w) (ho : IntsAt w lo hi v l) (hlo : w0.heap.size ≤ lo) (h0 : 0 ≤ a) (h1 : a + (l.length : Int) ≤ 140737488355328) :
    Calls Try.prog 28 #[v, .int .i64 a] w fun e w' => e = .returned (.int .i64 (a + (l.length : Int))) ∧ IntsAt w' lo hi v (marks a l.length) ∧ Below w0.heap.size w0 w' ∧ Kept w w' (fun k => lo ≤ k ∧ k < hi) := by
  refine (markIntS_law0 (fun k => lo ≤ k ∧ k < hi) v l a w0 w hB (Kd.R_lower ho hlo) h0 h1).mono ?_
  rintro e w' ⟨he, hr, hb, hk⟩
  refine ⟨he, ?_, hb, hk⟩
  have hb2 : ∀ k, v.ownBlock = some k → lo ≤ k ∧ k < hi := fun k hk => ho.1 k hk
  obtain ⟨_, inner, ho2, hreps⟩ := hr
  refine ⟨fun k hk => hb2 k hk, inner, ?_, hreps⟩
  rcases ho2.2 with h | ⟨g, cap, cur, e1, hg, rest⟩
  · exact ⟨ho2.1, .inl h⟩
  · exact ⟨ho2.1, .inr ⟨g, cap, cur, e1, (hb2 g (by rw [e1]; simp [Value.ownBlock])).1, rest⟩⟩
theorem heldIntSS_law (A : Option Addr) (c : Nat) (a : Int) (xs : List (List Int)) (w : World) (hr : Kd.C (Kd.slice 3 (Kd.int .i64)) w A (marksS a xs).length (marksS a xs)) (hc : (marksS a xs).length ≤ c) (h0 : 0 ≤ a) (h1 : a + (tot xs : Int) ≤ 140737488355328) (h2 : (xs.length : Int) ≤ 140737488355328) :
    Calls Try.prog 29 #[.slice A (marksS a xs).length c, .int .i64 a] w fun e w' => e = .returned (.int .i64 (a + (tot xs : Int))) ∧ Below w.heap.size w w' := by
  obtain ⟨k, hk⟩ := Ev.rounds (ev_heldIntSS a xs h0 h1 h2)
  exact (laws_heldIntSS.calls k A c (marksS a xs) a _ w hr hc hk).mono fun e w' ⟨he, hd⟩ => ⟨he, hd.below⟩

theorem heldIntSS_at {W : World} {lo hi : Nat} {A : Option Addr} {m c : Nat} {a : Int} {xs : List (List Int)} (h : RowsAt W lo hi (.slice A m c) (marksS a xs)) (hb : 0 ≤ a ∧ a + (tot xs : Int) ≤ 140737488355328 ∧ (xs.length : Int) ≤ 140737488355328) :
    Calls Try.prog 29 #[.slice A m c, .int .i64 a] W fun e w' => e = .returned (.int .i64 (a + (tot xs : Int))) ∧ Below W.heap.size W w' := by
  obtain ⟨rfl, h1, h2⟩ := h.reads
  exact heldIntSS_law A c a xs W h2 h1 hb.1 hb.2.1 hb.2.2

theorem marksS_step (a : Int) (xs : List (List Int)) (j : Nat) (hj : j < xs.length) :
    (marksS a (xs.take j) ++ xs.drop j).set j (marks (a + (tot (xs.take j) : Int)) (xs.getD j []).length) = marksS a (xs.take (j + 1)) ++ xs.drop (j + 1) ∧ tot (xs.take (j + 1)) = tot (xs.take j) + (xs.getD j []).length ∧ (marksS a (xs.take j) ++ xs.drop j).getD j [] = xs.getD j [] := by
  have hg : xs.getD j [] = xs[j] := by simp [hj]
  have ht : xs.take (j + 1) = xs.take j ++ [xs[j]] := List.take_succ_eq_append_getElem hj
  have hm : ∀ (ys : List (List Int)) (a : Int) (r : List Int), marksS a (ys ++ [r]) = marksS a ys ++ [marks (a + (tot ys : Int)) r.length] := by
    intro ys
    induction ys with
    | nil => intro a r; simp [marksS, tot]
    | cons y ys ih =>
      intro a r
      simp only [List.cons_append, marksS]
      rw [ih, tot_cons]
      have : a + (y.length : Int) + (tot ys : Int) = a + ((y.length + tot ys : Nat) : Int) := by omega
      rw [this]
  have hl : (marksS a (xs.take j)).length = j := by rw [marksS_length]; simp; omega
  rw [hg]
  refine ⟨?_, ?_, ?_⟩
  · rw [ht, hm, List.drop_eq_getElem_cons hj, List.set_append_right _ _ (by omega), hl, Nat.sub_self, List.set_cons_zero]
    simp
  · rw [ht, tot_append]
    simp [tot]
  · rw [List.getD_eq_getElem?_getD, List.getElem?_append_right (by omega), hl, Nat.sub_self, List.drop_eq_getElem_cons hj]
    rfl
set_option maxHeartbeats 4000000 in
theorem markIntSS_law (lo hi : Nat) (A : Option Addr) (n c : Nat) (xs : List (List Int)) (a : Int) (w0 w : World) (hB : Below w0.heap.size w0 w) (ho : RowsAt w lo hi (.slice A n c) xs) (hlo : w0.heap.size ≤ lo) (h0 : 0 ≤ a) (h1 : a + (tot xs : Int) ≤ 140737488355328) (hn : n ≤ 1048576) :
    Calls Try.prog 27 #[.slice A n c, .int .i64 a] w fun e w' => e = .returned (.int .i64 (a + (tot xs : Int))) ∧ RowsAt w' lo hi (.slice A n c) (marksS a xs) ∧ Below w0.heap.size w0 w' ∧ Kept w w' (fun k => lo ≤ k ∧ k < hi) := by
  have hnx : n = xs.length := ho.reads.1
  have HO := Aside0.mk ho
  have HB0 := Aside0.mk hB
  have HL := Aside0.mk hlo
  have HX := Aside0.mk h1
  have HN := Aside0.mk hnx
  clear ho hB hlo hnx h1
  go_enter Try.func27, Try.ntmps27
  go_wp2
  go_loopg [1, 5] n (fun gg s1 s5 wr => ∃ j : Nat, j ≤ n ∧ n - j ≤ gg ∧ s5 = .int .i64 j ∧ s1 = .int .i64 (a + (tot (xs.take j) : Int)) ∧ Aside0 (RowsAt wr lo hi (.slice A n c) (marksS a (xs.take j) ++ xs.drop j)) ∧ Aside0 (Below w0.heap.size w0 wr) ∧ Aside0 (Kept w wr (fun k => lo ≤ k ∧ k < hi)))
  case atStart => exact ⟨0, Nat.zero_le _, by omega, rfl, by simp [tot], ⟨by simpa [marksS] using HO.out⟩, HB0, ⟨Kept.refl _ _⟩⟩
  case round =>
    clear HO HB0
    obtain ⟨j, hj, hg, rfl, rfl, HR, HB, HK⟩ := hrel
    by_cases hlt : j < n
    · have hltz : (j : Int) < (n : Int) := by omega
      have hjx : j < xs.length := by rw [← HN.out]; exact hlt
      obtain ⟨e1, e2, e3⟩ := marksS_step a xs j hjx
      obtain ⟨ad, u, rfl, hcell, hub, hru, hnext⟩ := HR.out.row j (by rw [List.length_append, marksS_length]; simp; omega)
      rw [e3] at hru
      have hb1 : a + (tot (xs.take j) : Int) + ((xs.getD j []).length : Int) ≤ 140737488355328 := by
        have h2 : tot (xs.take (j + 1)) ≤ tot xs := by
          have := tot_append (xs.take (j + 1)) (xs.drop (j + 1))
          rw [List.take_append_drop] at this
          omega
        have := HX.out
        omega
      have hcall := markIntS_law0 (fun k => some k = u.ownBlock) u (xs.getD j []) (a + (tot (xs.take j) : Int)) w0 wr HB.out (Kd.R_lower hru HL.out) (by omega) hb1
      have E1 := Aside0.mk e1
      have E2 := Aside0.mk e2
      have HU := Aside0.mk hub
      have HNX := Aside0.mk hnext
      have HB1 := Aside0.mk hb1
      clear e1 e2 e3 hub hnext hru hb1 HR
      generalize hla : a + (tot (xs.take j) : Int) = aj at hcall
      have HLA := Aside0.mk hla
      clear hla
      go_wp2_with fail
      refine hcall.mono ?_
      rintro e w1 ⟨rfl, hr1, hb2, hk2⟩
      have HR1 := Aside0.mk (HNX.out w1 _ hk2 (by
        obtain ⟨_, inner, ho2, hreps⟩ := hr1
        refine ⟨fun k hk => hk.symm, inner, ?_, hreps⟩
        rcases ho2.2 with h | ⟨g, cap, cur, e1, hg, rest⟩
        · exact ⟨ho2.1, .inl h⟩
        · exact ⟨ho2.1, .inr ⟨g, cap, cur, e1, (HU.out g (by rw [e1]; simp [Value.ownBlock])).1, rest⟩⟩))
      have HB2 := Aside0.mk hb2
      have HK2 := Aside0.mk (Kept.then_ HK.out hk2 (fun k hk => .inl (HU.out k hk.symm)))
      clear hr1 hb2 hk2 HK HB HNX
      go_wp2
      go_roundg (n - (j + 1))
      case measure => omega
      case rel =>
        refine ⟨j + 1, by omega, by omega, by go_num, ?_, ⟨?_⟩, HB2, HK2⟩
        · have := E2.out
          have h4 := HLA.out
          have h5 : aj + ((xs.getD j []).length : Int) = a + (tot (xs.take (j + 1)) : Int) := by rw [E2.out]; omega
          rw [← h5]
          first | rfl | simp [List.getD_eq_getElem?_getD, hjx]
        · have h3 := HR1.out
          rw [← HLA.out, E1.out] at h3
          exact h3
    · have hltz : ¬ (j : Int) < (n : Int) := by omega
      have : j = n := by omega
      subst this
      have ht : xs.take j = xs := by rw [List.take_of_length_le]; have := HN.out; omega
      have hd : xs.drop j = [] := by rw [List.drop_of_length_le]; have := HN.out; omega
      rw [ht, hd, List.append_nil] at HR
      rw [ht]
      clear ht hd
      go_wp2
      go_ret
      exact ⟨rfl, HR.out, HB.out, HK.out⟩
end Go.Proofs.Ytebjiooojkhkpaa.Law

/- Matrices, families, turned matrices, products of rows: what the program's functions come to. Condition: lists no longer than memory allows. -/
namespace Go.Proofs.Ytebjiooojkhkpaa.Pure
open Go.RowKit Go.Proofs.Ytebjiooojkhkpaa.X Go.Proofs.YtebjiooojkhkpaaW.PrintWords Go.Proofs.YtebjiooojkhkpaaW.PrintMore
set_option linter.unusedVariables false
set_option linter.unusedSimpArgs false

theorem rrd_get {xs : List (List Int)} {i : Nat} (h : i < xs.length) : rd_L1 xs (i : Int) = xs[i] := by simp [rd_L1, h]
theorem rrd_mem {xs : List (List Int)} {i : Nat} (h : i < xs.length) : rd_L1 xs (i : Int) ∈ xs := by rw [rrd_get h]; exact List.getElem_mem h
theorem drop_rrd {xs : List (List Int)} {i : Nat} (h : i < xs.length) : xs.drop i = rd_L1 xs (i : Int) :: xs.drop (i + 1) := by rw [List.drop_eq_getElem_cons h, rrd_get h]
theorem take_rrd {xs : List (List Int)} {i : Nat} (h : i < xs.length) : xs.take (i + 1) = xs.take i ++ [rd_L1 xs (i : Int)] := by rw [List.take_succ_eq_append_getElem h, rrd_get h]
theorem rrd_zero (xs : List (List Int)) : rd_L1 xs 0 = xs.getD 0 [] := rfl
theorem mx_max' (a b : Int) : mx a b = max a b := by unfold mx; omega
theorem mn_min' (a b : Int) : mn a b = min a b := by unfold mn; omega

/-- Rows are no longer than memory. -/
def Short (l : List (List Int)) : Prop := (l.length : Int) ≤ 1048576 ∧ ∀ r ∈ l, (r.length : Int) ≤ 1048576
theorem len_le_sum {l : List (List Int)} {r : List Int} (h : r ∈ l) : r.length ≤ (l.map List.length).sum := by
  induction l with
  | nil => cases h
  | cons y ys ih =>
    simp only [List.map_cons, List.sum_cons]
    rcases List.mem_cons.1 h with rfl | h
    · omega
    · have := ih h
      omega
theorem short_of {l : List (List Int)} (h : l.length + (l.map List.length).sum ≤ 1048576) : Short l := by
  refine ⟨by omega, fun r hr => ?_⟩
  have : r.length ≤ (l.map List.length).sum := len_le_sum hr
  omega
/-- A matrix. -/
def matB (l : List (List Int)) : Bool := decide (1 ≤ l.length ∧ l.length ≤ 6) && l.all fun r => vecB r && decide (r.length = (l.getD 0 []).length)
theorem ev_isMatrix (l : List (List Int)) (h : Short l) : Ev (fun k => impl_isMatrix.f k l) (matB l) := by
  unfold impl_isMatrix.f
  refine Ev.bind (ev_const (within_eq _ _ _)) ?_
  by_cases h1 : 1 ≤ l.length ∧ l.length ≤ 6
  · refine ev_pos (by simp; omega) ?_
    have e : Ev (fun k => Ext.anyO (impl_isMatrix.g k l) l) (l.any fun r => !(vecB r && decide (r.length = (l.getD 0 []).length))) := by
      refine Ext.ev_anyO l fun r hr => ?_
      unfold impl_isMatrix.g
      refine Ev.bind (ev_isVector r (by have := h.2 r hr; omega)) ?_
      cases hv : vecB r with
      | false => exact ev_false (ev_const (by simp))
      | true =>
        refine ev_true (ev_const ?_)
        generalize (l.getD 0 []).length = m
        by_cases e : r.length = m
        · simp [e]
        · have e2 : ¬ ((r.length : Int) = (m : Int)) := by omega
          simp [e, e2]
    refine ev_bind0 e ?_
    simp only [matB, h1, and_self, decide_true, Bool.true_and]
    congr 1
    rw [List.any_eq_not_all_not]
    simp
  · refine ev_neg (by simp; omega) (ev_const ?_)
    simp [matB, h1]
/-- All rows have the length m. -/
def Wide (l : List (List Int)) (m : Nat) : Prop := ∀ r ∈ l, r.length = m
theorem matB_parts {l : List (List Int)} (h : matB l = true) : 1 ≤ l.length ∧ l.length ≤ 6 ∧ 1 ≤ (l.getD 0 []).length ∧ (l.getD 0 []).length ≤ 6 ∧ Wide l (l.getD 0 []).length ∧ ∀ r ∈ l, ∀ x ∈ r, numB x = true := by
  simp only [matB, Bool.and_eq_true, decide_eq_true_eq, List.all_eq_true, vecB] at h
  have h0 : l.getD 0 [] ∈ l := by
    cases l with
    | nil => simp at h
    | cons a t => simp
  have h1 := (h.2 _ h0).1.1
  exact ⟨h.1.1, h.1.2, h1.1, h1.2, fun r hr => (h.2 r hr).2, fun r hr x hx => (h.2 r hr).1.2 x hx⟩
theorem wide_rrd {l : List (List Int)} {m i : Nat} (h : Wide l m) (hi : i < l.length) : (rd_L1 l (i : Int)).length = m := h _ (rrd_mem hi)

/-- Column k. -/
def col (l : List (List Int)) (k : Nat) : List Int := l.map fun r => rd r (k : Int)
/-- The turned matrix of m columns. -/
def turned (l : List (List Int)) (m : Nat) : List (List Int) := (List.range m).map fun k => col l k

end Go.Proofs.Ytebjiooojkhkpaa.Pure

/- The reference's test of a matrix and of a square one: the same as the program's. Condition: lists no longer than memory allows. -/
namespace Go.Proofs.Ytebjiooojkhkpaa.Pure
open Go.RowKit Go.Proofs.Ytebjiooojkhkpaa.X Go.Proofs.YtebjiooojkhkpaaW.PrintWords Go.Proofs.YtebjiooojkhkpaaW.PrintMore
set_option linter.unusedVariables false
set_option linter.unusedSimpArgs false

theorem nuGood_eq (n : Int) : spec_nuGood.f n = some (numB n) := by
  unfold spec_nuGood.f numB finB
  by_cases h : n = 1000000000
  · rw [if_pos h]; simp [h]
  · rw [if_neg h, l1In_eq]; simp [h]
theorem ev_mxVector (l : List Int) (hn : (l.length : Int) ≤ 140737488355328) : Ev (fun k => spec_mxVector.f k l) (vecB l) := by
  unfold spec_mxVector.f
  have key : ∀ i, i ≤ l.length → Ev (fun k => spec_mxVector.l0 k l l (l.length : Int) (i : Int)) (decide (1 ≤ l.length ∧ l.length ≤ 6) && (l.drop i).all numB) := by
    refine up_to _ ?_ ?_
    · rw [drop_all (Nat.le_refl _)]
      refine Ev.step (fun k => rfl) (ev_neg (by omega) (Ev.bind (ev_const (l1In_eq _ _ _)) (ev_const ?_)))
      rw [List.all_nil, Bool.and_true]
      congr 1
      rw [decide_eq_decide]
      omega
    · intro i hi ih
      rw [drop_rd hi, List.all_cons]
      refine Ev.step (fun k => rfl) (ev_pos (by omega) (ev_pos (by omega) (ev_pos (by omega) (Ev.bind (ev_const (nuGood_eq _)) ?_))))
      rw [wr1 (by omega)]
      cases hp : numB (rd l (i : Int)) with
      | true => exact ev_true (by simpa using ih)
      | false => exact ev_false (by simpa using Ev.now false)
  have := key 0 (Nat.zero_le _)
  simpa [vecB] using this
theorem ev_mxGood (l : List (List Int)) (h : Short l) : Ev (fun k => spec_mxGood.f k l) (matB l) := by
  unfold spec_mxGood.f
  refine Ev.bind (ev_const (l1In_eq _ _ _)) ?_
  by_cases h1 : 1 ≤ l.length ∧ l.length ≤ 6
  · refine ev_pos (by simp; omega) (ev_pos (by omega) (Ev.bind (ev_const (l1In_eq _ _ _)) ?_))
    rw [rrd_zero]
    by_cases h2 : 1 ≤ (l.getD 0 []).length ∧ (l.getD 0 []).length ≤ 6
    · refine ev_j (g := fun k x => spec_mxGood.j0 k l x) (fun _ _ => rfl) (fun hb => ?_) (fun _ => ?_)
      · exfalso
        simp at hb
        simp at h2
        omega
      have key : ∀ i, i ≤ l.length → Ev (fun k => spec_mxGood.l0 k l l (l.length : Int) (i : Int)) ((l.drop i).all fun r => vecB r && decide (r.length = (l.getD 0 []).length)) := by
        refine up_to _ ?_ ?_
        · rw [drop_all (Nat.le_refl _)]
          exact Ev.step (fun k => rfl) (ev_neg (by omega) (Ev.now _))
        · intro i hi ih
          rw [drop_rrd hi, List.all_cons]
          have hr := rrd_mem hi
          refine Ev.step (fun k => rfl) (ev_pos (by omega) (ev_pos (by omega) (ev_pos (by omega) (ev_pos (by omega) ?_))))
          by_cases e : (rd_L1 l (i : Int)).length = (l.getD 0 []).length
          · refine ev_pos (by rw [rrd_zero]; omega) (Ev.bind (ev_mxVector _ (by have := h.2 _ hr; omega)) ?_)
            cases hv : vecB (rd_L1 l (i : Int)) with
            | false => exact ev_false (ev_const (by simp))
            | true =>
              refine ev_true ?_
              rw [wr1 (by have := h.1; omega)]
              refine ev_eq ?_ ih
              rw [decide_eq_true e]
              simp
          · refine ev_neg (by rw [rrd_zero]; omega) (ev_const ?_)
            rw [decide_eq_false e]
            simp
      have := key 0 (Nat.zero_le _)
      simpa [matB, h1] using this
    · refine ev_j (g := fun k x => spec_mxGood.j0 k l x) (fun _ _ => rfl) (fun _ => ev_const ?_) (fun hb => ?_)
      rotate_left
      · exfalso
        simp at hb
        simp at h2
        omega
      cases hm : matB l with
      | false => rfl
      | true => have := matB_parts hm; exact absurd ⟨this.2.2.1, this.2.2.2.1⟩ h2
  · refine ev_neg (by simp; omega) (ev_j (g := fun k x => spec_mxGood.j0 k l x) (fun _ _ => rfl) (fun _ => ev_const ?_) (fun hb => nomatch hb))
    simp [matB, h1]
/-- A square matrix. -/
def sqB (l : List (List Int)) : Bool := matB l && decide (l.length = (l.getD 0 []).length)
theorem ev_mxSquare (l : List (List Int)) (h : Short l) : Ev (fun k => spec_mxSquare.f k l) (sqB l) := by
  unfold spec_mxSquare.f
  refine Ev.bind (ev_mxGood l h) ?_
  unfold sqB
  cases hm : matB l with
  | false => exact ev_false (ev_const rfl)
  | true =>
    have := matB_parts hm
    refine ev_true (ev_pos (by omega) (ev_const ?_))
    rw [rrd_zero]
    congr 1
    rw [Bool.eq_iff_iff]
    simp
    omega
theorem ev_isSquare (l : List (List Int)) (h : Short l) : Ev (fun k => impl_isSquare.f k l) (sqB l) := by
  unfold impl_isSquare.f
  refine Ev.bind (ev_isMatrix l h) ?_
  unfold sqB
  cases hm : matB l with
  | false => exact ev_false (ev_const rfl)
  | true =>
    have := matB_parts hm
    refine ev_true (ev_pos (by omega) (ev_const ?_))
    rw [rrd_zero]
    congr 1
    rw [Bool.eq_iff_iff]
    simp
    omega
theorem sqB_parts {l : List (List Int)} (h : sqB l = true) : 1 ≤ l.length ∧ l.length ≤ 6 ∧ Wide l l.length ∧ ∀ r ∈ l, ∀ x ∈ r, numB x = true := by
  simp only [sqB, Bool.and_eq_true, decide_eq_true_eq] at h
  have := matB_parts h.1
  refine ⟨this.1, this.2.1, ?_, this.2.2.2.2.2⟩
  rw [h.2]
  exact this.2.2.2.2.1
end Go.Proofs.Ytebjiooojkhkpaa.Pure

/- Trains, departures, the next round: what the program and the reference come to. Condition: lists no longer than memory allows. -/
namespace Go.Proofs.Ytebjiooojkhkpaa.Pure
open Go.RowKit Go.Proofs.Ytebjiooojkhkpaa.X Go.Proofs.YtebjiooojkhkpaaW.PrintWords Go.Proofs.YtebjiooojkhkpaaW.PrintMore
set_option linter.unusedVariables false
set_option linter.unusedSimpArgs false

def tokB (n : Int) : Bool := decide (n = 1000000000 ∨ (0 ≤ n ∧ n ≤ 1000))
def neB (n : Int) : Bool := decide (n ≠ 1000000000)
def trowB (r : List Int) : Bool := r.all tokB && r.any neB
/-- Trains. -/
def trB (l : List (List Int)) : Bool := sqB l && l.all trowB
theorem ev_trGood (l : List (List Int)) (h : Short l) : Ev (fun k => spec_trGood.f k l) (trB l) := by
  unfold spec_trGood.f
  refine Ev.bind (ev_mxSquare l h) ?_
  unfold trB
  cases hm : sqB l with
  | false => exact ev_false (ev_const rfl)
  | true =>
    refine ev_true ?_
    have key : ∀ i, i ≤ l.length → Ev (fun k => spec_trGood.l0 k l (l.length : Int) (i : Int)) ((l.drop i).all trowB) := by
      refine up_to _ ?_ ?_
      · rw [drop_all (Nat.le_refl _)]
        exact Ev.step (fun k => rfl) (ev_neg (by omega) (Ev.now _))
      · intro i hi ih
        rw [drop_rrd hi, List.all_cons]
        have hr := rrd_mem hi
        generalize he : rd_L1 l (i : Int) = r at hr
        have hl := h.2 r hr
        refine Ev.step (fun k => rfl) (ev_pos (by omega) (ev_pos (by omega) (ev_pos (by omega) ?_)))
        rw [he]
        have inner : ∀ j, j ≤ r.length → ∀ wb : Bool, Ev (fun k => spec_trGood.l1 k wb l (l.length : Int) (i : Int) r (r.length : Int) (j : Int)) (((r.drop j).all tokB && (wb || (r.drop j).any neB)) && (l.drop (i + 1)).all trowB) := by
          refine up_to _ ?_ ?_
          · intro wb
            rw [drop_all (Nat.le_refl _)]
            refine Ev.step (fun k => rfl) (ev_neg (by omega) ?_)
            cases wb with
            | true =>
              refine ev_true ?_
              rw [wr1 (by have := h.1; omega)]
              exact ev_eq (by simp) ih
            | false => exact ev_false (ev_const (by simp))
          · intro j hj ih2 wb
            rw [drop_rd hj, List.all_cons, List.any_cons]
            refine Ev.step (fun k => rfl) (ev_pos (by omega) (ev_pos (by omega) (ev_pos (by omega) ?_)))
            rw [wr1 (by omega)]
            generalize rd r (j : Int) = x
            by_cases hx : x = 1000000000
            · refine ev_pos hx ?_
              have e1 : tokB x = true := by simp [tokB, hx]
              have e2 : neB x = false := by simp [neB, hx]
              have e3 : (x != 1000000000) = false := by simp [hx]
              rw [e1, e2, e3]
              cases wb with
              | true => exact ev_true (ev_eq (by simp) (ih2 true))
              | false => exact ev_false (ev_eq (by simp) (ih2 false))
            · refine ev_neg hx (Ev.bind (ev_const (l1In_eq _ _ _)) ?_)
              have e2 : neB x = true := by simp [neB, hx]
              have e3 : (x != 1000000000) = true := by simp [hx]
              rw [e2, e3]
              by_cases h3 : 0 ≤ x ∧ x ≤ 1000
              · have e1 : tokB x = true := by simp [tokB, h3]
                rw [e1]
                refine ev_pos (by rw [decide_eq_true_eq]; exact h3) ?_
                cases wb with
                | true => exact ev_true (ev_eq (by simp) (ih2 true))
                | false => exact ev_false (ev_eq (by simp) (ih2 true))
              · have e1 : tokB x = false := by simp only [tokB, decide_eq_false_iff_not]; omega
                rw [e1]
                exact ev_neg (by rw [decide_eq_true_eq]; exact h3) (ev_const (by simp))
        have := inner 0 (Nat.zero_le _) false
        simpa [trowB] using this
    have := key 0 (Nat.zero_le _)
    simpa using this
theorem foldl_min_le (r : List Int) : ∀ a, r.foldl min a ≤ a := by
  induction r with
  | nil => intro a; exact Int.le_refl _
  | cons x t ih => intro a; have := ih (min a x); rw [List.foldl_cons]; omega
theorem foldl_min_none {r : List Int} (h : r.any neB = false) : r.foldl min 1000000000 = 1000000000 := by
  induction r with
  | nil => rfl
  | cons x t ih =>
    rw [List.any_cons, Bool.or_eq_false_iff] at h
    have hx : x = 1000000000 := by have := h.1; simp only [neB, decide_eq_false_iff_not] at this; omega
    rw [List.foldl_cons, hx]
    exact ih h.2
theorem foldl_min_some {r : List Int} (hb : ∀ x ∈ r, x ≤ 1000000000) (h : r.any neB = true) : ∀ a, a ≤ 1000000000 → r.foldl min a ≠ 1000000000 := by
  induction r with
  | nil => cases h
  | cons x t ih =>
    intro a ha
    rw [List.foldl_cons]
    have hx := hb x (List.mem_cons_self ..)
    by_cases e : x = 1000000000
    · rw [List.any_cons] at h
      have e2 : neB x = false := by simp [neB, e]
      rw [e2, Bool.false_or] at h
      exact ih (fun y hy => hb y (List.mem_cons_of_mem _ hy)) h _ (by omega)
    · have := foldl_min_le t (min a x)
      omega
theorem ev_sumOf (l : List Int) (hn : (l.length : Int) ≤ 140737488355328) : Ev (fun k => impl_sumOf.f k l) (l.foldl min 1000000000) := by
  unfold impl_sumOf.f
  have key : ∀ i, i ≤ l.length → ∀ a, Ev (fun k => impl_sumOf.l0 k a l (l.length : Int) (i : Int)) ((l.drop i).foldl min a) := by
    refine up_to _ ?_ ?_
    · intro a
      rw [drop_all (Nat.le_refl _)]
      exact Ev.step (fun k => rfl) (ev_neg (by omega) (Ev.now _))
    · intro i hi ih a
      rw [drop_rd hi, List.foldl_cons]
      refine Ev.step (fun k => rfl) (ev_pos (by omega) (ev_pos (by omega) (ev_pos (by omega) ?_)))
      rw [wr1 (by omega), mn_min']
      exact ih _
  have := key 0 (Nat.zero_le _) 1000000000
  simpa using this
theorem ev_areTrains (l : List (List Int)) (h : Short l) : Ev (fun k => impl_areTrains.f k l) (trB l) := by
  unfold impl_areTrains.f
  refine Ev.bind (ev_isSquare l h) ?_
  unfold trB
  cases hm : sqB l with
  | false => exact ev_false (ev_const rfl)
  | true =>
    have hp := sqB_parts hm
    refine ev_true ?_
    have key : ∀ i, i ≤ l.length → Ev (fun k => impl_areTrains.l0 k l (l.length : Int) (i : Int)) ((l.drop i).all trowB) := by
      refine up_to _ ?_ ?_
      · rw [drop_all (Nat.le_refl _)]
        exact Ev.step (fun k => rfl) (ev_neg (by omega) (Ev.now _))
      · intro i hi ih
        rw [drop_rrd hi, List.all_cons]
        have hr := rrd_mem hi
        generalize he : rd_L1 l (i : Int) = r at hr
        have hl := h.2 r hr
        refine Ev.step (fun k => rfl) (ev_pos (by omega) (ev_pos (by omega) (ev_pos (by omega) ?_)))
        rw [he]
        have hb : ∀ x ∈ r, x ≤ 1000000000 := by
          intro x hx
          have := hp.2.2.2 r hr x hx
          simp [numB, finB] at this
          omega
        refine Ev.bind (ev_sumOf r (by omega)) ?_
        cases ha : r.any neB with
        | false =>
          refine ev_pos (foldl_min_none ha) (ev_const ?_)
          simp [trowB, ha]
        | true =>
          refine ev_neg (foldl_min_some hb ha _ (Int.le_refl _)) ?_
          have inner : ∀ j, j ≤ r.length → Ev (fun k => impl_areTrains.l1 k l (l.length : Int) (i : Int) r (r.length : Int) (j : Int)) ((r.drop j).all tokB && (l.drop (i + 1)).all trowB) := by
            refine up_to _ ?_ ?_
            · rw [drop_all (Nat.le_refl _)]
              refine Ev.step (fun k => rfl) (ev_neg (by omega) ?_)
              rw [wr1 (by have := h.1; omega)]
              exact ev_eq (by simp) ih
            · intro j hj ih2
              rw [drop_rd hj, List.all_cons]
              refine Ev.step (fun k => rfl) (ev_pos (by omega) (ev_pos (by omega) (ev_pos (by omega) ?_)))
              rw [wr1 (by omega)]
              generalize rd r (j : Int) = x
              by_cases hx : x = 1000000000
              · have e1 : tokB x = true := by simp [tokB, hx]
                rw [e1]
                exact ev_pos hx (ev_eq (by simp) ih2)
              · refine ev_neg hx (Ev.bind (ev_const (within_eq _ _ _)) ?_)
                by_cases h3 : 0 ≤ x ∧ x ≤ 1000
                · have e1 : tokB x = true := by simp [tokB, h3]
                  rw [e1]
                  exact ev_pos (by rw [decide_eq_true_eq]; exact h3) (ev_eq (by simp) ih2)
                · have e1 : tokB x = false := by simp only [tokB, decide_eq_false_iff_not]; omega
                  rw [e1]
                  exact ev_neg (by rw [decide_eq_true_eq]; exact h3) (ev_const (by simp))
          have := inner 0 (Nat.zero_le _)
          simpa [trowB, ha] using this
    have := key 0 (Nat.zero_le _)
    simpa using this
/-- What trains are. -/
structure Trains (l : List (List Int)) : Prop where
  pos : 1 ≤ l.length
  six : l.length ≤ 6
  wide : Wide l l.length
  ok : ∀ r ∈ l, ∀ x ∈ r, x = 1000000000 ∨ (0 ≤ x ∧ x ≤ 1000)
theorem trB_trains {l : List (List Int)} (h : trB l = true) : Trains l := by
  simp only [trB, Bool.and_eq_true, List.all_eq_true, trowB] at h
  have hp := sqB_parts h.1
  exact ⟨hp.1, hp.2.1, hp.2.2.1, fun r hr x hx => by simpa [tokB] using (h.2 r hr).1 x hx⟩

/-- Departures. -/
def timesB (d : List Int) : Bool := d.all fun n => decide (0 ≤ n ∧ n ≤ 100000)
theorem areTimes_eq (d : List Int) : impl_areTimes.f d = some (timesB d) := by
  unfold impl_areTimes.f
  obtain ⟨K, hK⟩ := (Ext.ev_anyO d (fun n _ => ev_const (by unfold impl_areTimes.g; rw [within_eq, Option.bind_some])) : Ev (fun _ => Ext.anyO impl_areTimes.g d) (d.any fun n => !decide (0 ≤ n ∧ n ≤ 100000)))
  have : Ext.anyO impl_areTimes.g d = _ := hK K (Nat.le_refl _)
  rw [this, Option.bind_some]
  congr 1
  unfold timesB
  rw [List.any_eq_not_all_not]
  simp
def bothB (l : List (List Int)) (d : List Int) : Bool := trB l && (decide (d.length = l.length) && timesB d)
theorem ev_trTimes (n : Nat) (d : List Int) (hd : (d.length : Int) ≤ 1048576) : Ev (fun k => spec_trTimes.f k (n : Int) d) (decide (d.length = n) && timesB d) := by
  unfold spec_trTimes.f
  by_cases h : d.length = n
  · refine ev_pos (by omega) (ev_bind0 (ev_l1All d 0 100000 (by omega)) ?_)
    simp [h, timesB]
  · exact ev_neg (by omega) (ev_const (by simp [h]))
theorem ev_trBoth (l : List (List Int)) (d : List Int) (h : Short l) (hd : (d.length : Int) ≤ 1048576) : Ev (fun k => spec_trBoth.f k l d) (bothB l d) := by
  unfold spec_trBoth.f bothB
  refine Ev.bind (ev_trGood l h) ?_
  cases trB l with
  | false => exact ev_false (ev_const rfl)
  | true => exact ev_true (ev_bind0 (ev_trTimes _ d hd) rfl)
theorem ev_areDepartures (l : List (List Int)) (d : List Int) (h : Short l) : Ev (fun k => impl_areDepartures.f k l d) (bothB l d) := by
  unfold impl_areDepartures.f bothB
  refine Ev.bind (ev_areTrains l h) ?_
  cases trB l with
  | false => exact ev_false (ev_const rfl)
  | true =>
    refine ev_true ?_
    by_cases e : d.length = l.length
    · exact ev_pos (by omega) (ev_const (by rw [areTimes_eq, Option.bind_some]; simp [e]))
    · exact ev_neg (by omega) (ev_const (by simp [e]))
/-- Numbers from 0 on. -/
def Upto (B : Int) (d : List Int) : Prop := ∀ x ∈ d, 0 ≤ x ∧ x ≤ B
theorem upto_rd {B : Int} {d : List Int} (h : Upto B d) {i : Nat} (hi : i < d.length) : 0 ≤ rd d (i : Int) ∧ rd d (i : Int) ≤ B := h _ (rd_mem hi)
theorem timesB_upto {d : List Int} (h : timesB d = true) : Upto 100000 d := by
  intro x hx
  simp only [timesB, List.all_eq_true] at h
  simpa using h x hx
theorem bothB_parts {l : List (List Int)} {d : List Int} (h : bothB l d = true) : Trains l ∧ d.length = l.length ∧ timesB d = true := by
  simp only [bothB, Bool.and_eq_true, decide_eq_true_eq] at h
  exact ⟨trB_trains h.1, h.2.1, h.2.2⟩

def stepM (a : Int) (p : Int × Int) : Int := if p.1 = 1000000000 then a else max a (p.2 + p.1)
/-- When a train may depart. -/
def mostB (a : Int) (r d : List Int) : Int := (List.zip r d).foldl stepM a
def nextB (l : List (List Int)) (d : List Int) : List Int := l.map fun r => mostB 0 r d
theorem nextB_length (l : List (List Int)) (d : List Int) : (nextB l d).length = l.length := by simp [nextB]
theorem most_step {r d : List Int} {i : Nat} (a : Int) (h1 : i < r.length) (h2 : i < d.length) : mostB a (r.drop i) (d.drop i) = mostB (stepM a (rd r (i : Int), rd d (i : Int))) (r.drop (i + 1)) (d.drop (i + 1)) := by
  rw [mostB, mostB, drop_rd h1, drop_rd h2, List.zip_cons_cons, List.foldl_cons]
theorem most_bound {B : Int} (hB : 0 ≤ B) {r : List Int} : ∀ {d : List Int}, (∀ x ∈ r, x = 1000000000 ∨ (0 ≤ x ∧ x ≤ 1000)) → Upto B d → ∀ a, 0 ≤ a → a ≤ B + 1000 → 0 ≤ mostB a r d ∧ mostB a r d ≤ B + 1000 := by
  induction r with
  | nil => intro d _ _ a h1 h2; exact ⟨h1, h2⟩
  | cons x t ih =>
    intro d hr hd a h1 h2
    cases d with
    | nil => exact ⟨h1, h2⟩
    | cons y s =>
      have hx := hr x (List.mem_cons_self ..)
      have hy := hd y (List.mem_cons_self ..)
      have hs : 0 ≤ stepM a (x, y) ∧ stepM a (x, y) ≤ B + 1000 := by
        unfold stepM
        split
        · omega
        · rename_i e
          have e' : ¬ x = 1000000000 := e
          show 0 ≤ max a (y + x) ∧ max a (y + x) ≤ B + 1000
          omega
      exact ih (d := s) (fun z hz => hr z (List.mem_cons_of_mem _ hz)) (fun z hz => hd z (List.mem_cons_of_mem _ hz)) (stepM a (x, y)) hs.1 hs.2
theorem next_upto {l : List (List Int)} (ht : Trains l) {B : Int} (hB : 0 ≤ B) {d : List Int} (hd : Upto B d) : Upto (B + 1000) (nextB l d) := by
  intro x hx
  simp only [nextB, List.mem_map] at hx
  obtain ⟨r, hr, rfl⟩ := hx
  exact most_bound hB (ht.ok r hr) hd 0 (by omega) (by omega)
theorem rd_next {l : List (List Int)} {d : List Int} {i : Nat} (hi : i < l.length) : rd (nextB l d) (i : Int) = mostB 0 (rd_L1 l (i : Int)) d := by
  rw [rd_get (by rw [nextB_length]; exact hi), rrd_get hi]
  simp [nextB]
theorem ev_nextTimes (l : List (List Int)) (d : List Int) (ht : Trains l) (hd : d.length = l.length) {B : Int} (hB : B ≤ 1000000000) (hu : Upto B d) : Ev (fun k => impl_nextTimes.f k l d) (nextB l d) := by
  unfold impl_nextTimes.f
  have h6 := ht.six
  have key : ∀ i, i ≤ l.length → Ev (fun k => impl_nextTimes.l0 k d ((l.take i).map fun r => mostB 0 r d) l (l.length : Int) (i : Int)) (nextB l d) := by
    refine up_to _ ?_ ?_
    · rw [take_all (Nat.le_refl _)]
      exact Ev.step (fun k => rfl) (ev_neg (by omega) (Ev.now _))
    · intro i hi ih
      have hr := rrd_mem hi
      have hl := wide_rrd ht.wide hi
      refine Ev.step (fun k => rfl) (ev_pos (by omega) (ev_pos (by omega) (ev_pos (by omega) ?_)))
      rw [take_rrd hi, List.map_append] at ih
      generalize he : rd_L1 l (i : Int) = r at hr hl ih
      have hok := ht.ok r hr
      have inner : ∀ j, j ≤ r.length → ∀ a, mostB a (r.drop j) (d.drop j) = mostB 0 r d → Ev (fun k => impl_nextTimes.l1 k d ((l.take i).map fun r => mostB 0 r d) a l (l.length : Int) (i : Int) r (r.length : Int) (j : Int)) (nextB l d) := by
        refine up_to _ ?_ ?_
        · intro a ha
          rw [drop_all (Nat.le_refl _)] at ha
          have ha : a = mostB 0 r d := ha
          refine Ev.step (fun k => rfl) (ev_neg (by omega) (ev_pos (by simp; omega) ?_))
          rw [wr1 (by omega), ha]
          exact ih
        · intro j hj ih2 a ha
          rw [most_step a hj (by omega)] at ha
          have b1 := hok _ (rd_mem hj)
          have b2 := upto_rd hu (by omega : j < d.length)
          refine Ev.step (fun k => rfl) (ev_pos (by omega) (ev_pos (by omega) (ev_pos (by omega) ?_)))
          rw [wr1 (by omega)]
          by_cases hx : rd r (j : Int) = 1000000000
          · rw [stepM, if_pos hx] at ha
            exact ev_pos hx (ih2 _ ha)
          · rw [stepM, if_neg hx] at ha
            refine ev_neg hx (ev_pos (by omega) ?_)
            rw [wr (by omega) (by omega), mx_max']
            exact ih2 _ ha
      exact inner 0 (Nat.zero_le _) 0 rfl
  exact key 0 (Nat.zero_le _)
end Go.Proofs.Ytebjiooojkhkpaa.Pure

/- Periods, rounds, steady starts, waits: the program and the reference come to the same. Condition: lists no longer than memory allows. -/
namespace Go.Proofs.Ytebjiooojkhkpaa.Pure
open Go.RowKit Go.Proofs.Ytebjiooojkhkpaa.X Go.Proofs.YtebjiooojkhkpaaW.PrintWords Go.Proofs.YtebjiooojkhkpaaW.PrintMore
set_option linter.unusedVariables false
set_option linter.unusedSimpArgs false

def leastStep (a : Int) (q : Int × Int) : Int := max a (q.1 - q.2)
/-- The least period. -/
def leastB (a : Int) (n d : List Int) : Int := (List.zip n d).foldl leastStep a
theorem least_step {n d : List Int} {i : Nat} (a : Int) (h1 : i < n.length) (h2 : i < d.length) : leastB a (n.drop i) (d.drop i) = leastB (max a (rd n (i : Int) - rd d (i : Int))) (n.drop (i + 1)) (d.drop (i + 1)) := by
  rw [leastB, leastB, drop_rd h1, drop_rd h2, List.zip_cons_cons, List.foldl_cons]
  rfl
theorem trPeriod_eq (n : Int) : spec_trPeriod.f n = some (decide (0 ≤ n ∧ n ≤ 100000)) := by
  unfold spec_trPeriod.f
  rw [l1In_eq, Option.bind_some]
theorem isPeriod_eq (n : Int) : impl_isPeriod.f n = some (decide (0 ≤ n ∧ n ≤ 100000)) := by
  unfold impl_isPeriod.f
  rw [within_eq, Option.bind_some]
theorem ev_leastPeriod (l : List (List Int)) (d : List Int) (ht : Trains l) (hd : d.length = l.length) (hu : Upto 100000 d) : Ev (fun k => impl_leastPeriod.f k l d) (leastB 0 (nextB l d) d) := by
  unfold impl_leastPeriod.f
  refine Ev.bind (ev_nextTimes l d ht hd (by omega : (100000 : Int) ≤ 1000000000) hu) ?_
  have hn := nextB_length l d
  have hnu := next_upto ht (by omega) hu
  have h6 := ht.six
  generalize hN : nextB l d = n at hn hnu
  have key : ∀ i, i ≤ n.length → ∀ a, Ev (fun k => impl_leastPeriod.l0 k d a n (n.length : Int) (i : Int)) (leastB a (n.drop i) (d.drop i)) := by
    refine up_to _ ?_ ?_
    · intro a
      rw [drop_all (Nat.le_refl _)]
      exact Ev.step (fun k => rfl) (ev_neg (by omega) (Ev.now _))
    · intro i hi ih a
      have b1 := upto_rd hnu hi
      have b2 := upto_rd hu (by omega : i < d.length)
      refine Ev.step (fun k => rfl) (ev_pos (by omega) (ev_pos (by omega) (ev_pos (by omega) (ev_pos (by omega) ?_))))
      rw [wr1 (by omega), wr (by omega) (by omega), mx_max', least_step a hi (by omega)]
      exact ih _
  have := key 0 (Nat.zero_le _) 0
  simpa using this
/-- What IsSteady answers. -/
def steadyR (l : List (List Int)) (d : List Int) (p : Int) : Bool × Bool := if bothB l d = true ∧ 0 ≤ p ∧ p ≤ 100000 then (decide (leastB 0 (nextB l d) d ≤ p), true) else (false, false)
theorem ev_implIsSteady (l : List (List Int)) (d : List Int) (p : Int) (h : Short l) : Ev (fun k => impl_IsSteady.f k l d p) (steadyR l d p) := by
  unfold impl_IsSteady.f steadyR
  refine Ev.bind (ev_areDepartures l d h) ?_
  cases hb : bothB l d with
  | false => exact ev_false (ev_const (by simp))
  | true =>
    obtain ⟨ht, hd, htm⟩ := bothB_parts hb
    refine ev_true (Ev.bind (ev_const (isPeriod_eq p)) ?_)
    by_cases hp : 0 ≤ p ∧ p ≤ 100000
    · refine ev_pos (by rw [decide_eq_true_eq]; exact hp) (ev_bind0 (ev_leastPeriod l d ht hd (timesB_upto htm)) ?_)
      rw [if_pos ⟨rfl, hp⟩]
    · refine ev_neg (by rw [decide_eq_true_eq]; exact hp) (ev_const ?_)
      rw [if_neg (fun h => hp h.2)]

end Go.Proofs.Ytebjiooojkhkpaa.Pure

/- Circuits of trains: their time, as the program and the reference tell it. Condition: lists no longer than memory allows. -/
namespace Go.Proofs.Ytebjiooojkhkpaa.Pure
open Go.RowKit Go.Proofs.Ytebjiooojkhkpaa.X Go.Proofs.YtebjiooojkhkpaaW.PrintWords Go.Proofs.YtebjiooojkhkpaaW.PrintMore
set_option linter.unusedVariables false
set_option linter.unusedSimpArgs false

theorem rrd_memI {l : List (List Int)} {x : Int} (h0 : 0 ≤ x) (h1 : x < (l.length : Int)) : rd_L1 l x ∈ l := by
  obtain ⟨n, rfl⟩ := Int.eq_ofNat_of_zero_le h0
  exact rrd_mem (by omega)

end Go.Proofs.Ytebjiooojkhkpaa.Pure

/- Plans, buffers, delays: the program and the reference come to the same. Condition: lists no longer than memory allows. -/
namespace Go.Proofs.Ytebjiooojkhkpaa.Pure
open Go.RowKit Go.Proofs.Ytebjiooojkhkpaa.X Go.Proofs.YtebjiooojkhkpaaW.PrintWords Go.Proofs.YtebjiooojkhkpaaW.PrintMore
set_option linter.unusedVariables false
set_option linter.unusedSimpArgs false

def bufB (l : List (List Int)) (d : List Int) (p i j : Int) : Int := rd d i + p - rd d j - rd (rd_L1 l i) j
def cellB (l : List (List Int)) (d : List Int) (p : Int) (i j : Nat) : Bool := decide (rd (rd_L1 l (i : Int)) (j : Int) = 1000000000 ∨ 0 ≤ bufB l d p (i : Int) (j : Int))
def allF (p : Nat → Bool) : Nat → Nat → Bool
  | 0, _ => true
  | f + 1, n => p n && allF p f (n + 1)
theorem allF_iff (p : Nat → Bool) : ∀ f n, allF p f n = true ↔ ∀ j, n ≤ j → j < n + f → p j = true
  | 0, n => by simp [allF]; intro j h1 h2; omega
  | f + 1, n => by
    unfold allF
    rw [Bool.and_eq_true, allF_iff p f (n + 1)]
    constructor
    · rintro ⟨h1, h2⟩ j h3 h4
      by_cases e : j = n
      · rw [e]; exact h1
      · exact h2 j (by omega) (by omega)
    · intro h
      exact ⟨h n (by omega) (by omega), fun j h1 h2 => h j (by omega) (by omega)⟩
def steadyOk (l : List (List Int)) (d : List Int) (p : Int) : Bool := allF (fun i => allF (cellB l d p i) l.length 0) l.length 0
/-- A plan. -/
def goodB (l : List (List Int)) (d : List Int) (p : Int) : Bool := bothB l d && (decide (0 ≤ p ∧ p ≤ 100000) && steadyOk l d p)
theorem cell_entry {l : List (List Int)} (ht : Trains l) {i j : Int} (h0 : 0 ≤ i) (h1 : i < (l.length : Int)) (h2 : 0 ≤ j) (h3 : j < (l.length : Int)) : rd (rd_L1 l i) j = 1000000000 ∨ (0 ≤ rd (rd_L1 l i) j ∧ rd (rd_L1 l i) j ≤ 1000) := by
  have hm := rrd_memI h0 h1
  have hw := ht.wide _ hm
  obtain ⟨n, rfl⟩ := Int.eq_ofNat_of_zero_le h2
  exact ht.ok _ hm _ (rd_mem (by omega))
theorem upto_rdI {B : Int} {d : List Int} (h : Upto B d) {i : Int} (h0 : 0 ≤ i) (h1 : i < (d.length : Int)) : 0 ≤ rd d i ∧ rd d i ≤ B := by
  obtain ⟨n, rfl⟩ := Int.eq_ofNat_of_zero_le h0
  exact upto_rd h (by omega)
/-- A plan, as what it is known by. -/
structure Plan (l : List (List Int)) (d : List Int) (p : Int) : Prop where
  tr : Trains l
  len : d.length = l.length
  up : Upto 100000 d
  per : 0 ≤ p ∧ p ≤ 100000
theorem dlBuffer_eq {l : List (List Int)} {d : List Int} {p i j : Int} (h : Plan l d p) (h0 : 0 ≤ i) (h1 : i < (l.length : Int)) (h2 : 0 ≤ j) (h3 : j < (l.length : Int)) : spec_dlBuffer.f l d p i j = some (bufB l d p i j) := by
  unfold spec_dlBuffer.f bufB
  have hl := h.len
  have hm := rrd_memI h0 h1
  have hw := h.tr.wide _ hm
  have b1 := cell_entry h.tr h0 h1 h2 h3
  have b2 := upto_rdI h.up h0 (by omega)
  have b3 := upto_rdI h.up h2 (by omega)
  have hp := h.per
  rw [if_pos h0, if_pos (by omega), if_pos h2, if_pos (by omega), if_pos h1, if_pos (by omega), wr (x := rd d i + p) (by omega) (by omega), wr (x := rd d i + p - rd d j) (by omega) (by omega), wr (by omega) (by omega)]
theorem planBuffer_eq {l : List (List Int)} {d : List Int} {p i j : Int} (h : Plan l d p) (h0 : 0 ≤ i) (h1 : i < (l.length : Int)) (h2 : 0 ≤ j) (h3 : j < (l.length : Int)) : impl_plan_buffer.f l d p i j = some (bufB l d p i j) := by
  unfold impl_plan_buffer.f bufB
  have hl := h.len
  have hm := rrd_memI h0 h1
  have hw := h.tr.wide _ hm
  have b1 := cell_entry h.tr h0 h1 h2 h3
  have b2 := upto_rdI h.up h0 (by omega)
  have b3 := upto_rdI h.up h2 (by omega)
  have hp := h.per
  rw [if_pos h0, if_pos (by omega), if_pos h2, if_pos (by omega), if_pos h1, if_pos (by omega), wr (x := rd d i + p) (by omega) (by omega), wr (x := rd d i + p - rd d j) (by omega) (by omega), wr (by omega) (by omega)]
theorem waits_eq {l : List (List Int)} {d : List Int} {p i j : Int} (ht : Trains l) (h0 : 0 ≤ i) (h1 : i < (l.length : Int)) (h2 : 0 ≤ j) (h3 : j < (l.length : Int)) : impl_plan_waits.f l d p i j = some (rd (rd_L1 l i) j != 1000000000) := by
  unfold impl_plan_waits.f
  have hm := rrd_memI h0 h1
  have hw := ht.wide _ hm
  rw [if_pos h0, if_pos h1, if_pos h2, if_pos (by omega)]
theorem goodB_plan {l : List (List Int)} {d : List Int} {p : Int} (h : goodB l d p = true) : Plan l d p := by
  simp only [goodB, Bool.and_eq_true, decide_eq_true_eq] at h
  obtain ⟨h1, h2, h3⟩ := bothB_parts h.1
  exact ⟨h1, h2, timesB_upto h3, h.2.1⟩
theorem ev_dlGood (l : List (List Int)) (d : List Int) (p : Int) (h : Short l) (hdl : (d.length : Int) ≤ 1048576) : Ev (fun k => spec_dlGood.f k l d p) (goodB l d p) := by
  unfold spec_dlGood.f goodB
  refine Ev.bind (ev_trBoth l d h hdl) ?_
  cases hb : bothB l d with
  | false => exact ev_false (ev_j (g := fun k x => spec_dlGood.j0 k l d p x) (fun _ _ => rfl) (fun _ => ev_const (by simp)) (fun hb => nomatch hb))
  | true =>
    obtain ⟨ht, hd, htm⟩ := bothB_parts hb
    refine ev_true (Ev.bind (ev_const (trPeriod_eq p)) ?_)
    refine ev_j (g := fun k x => spec_dlGood.j0 k l d p x) (fun _ _ => rfl) (fun hp => ev_const ?_) (fun hp => ?_)
    · have : decide (0 ≤ p ∧ p ≤ 100000) = false := by cases h : decide (0 ≤ p ∧ p ≤ 100000) <;> simp_all
      rw [this]
      rfl
    · have hp : decide (0 ≤ p ∧ p ≤ 100000) = true := by cases h : decide (0 ≤ p ∧ p ≤ 100000) <;> simp_all
      rw [hp, Bool.true_and, Bool.true_and]
      have hpl : Plan l d p := ⟨ht, hd, timesB_upto htm, by simpa using hp⟩
      have h6 := ht.six
      have key : ∀ f i, i + f = l.length → Ev (fun k => spec_dlGood.l0 k l d p l (l.length : Int) (i : Int)) (allF (fun i => allF (cellB l d p i) l.length 0) f i) := by
        intro f
        induction f with
        | zero =>
          intro i hi
          exact Ev.step (fun k => rfl) (ev_neg (by omega) (Ev.now _))
        | succ f ih =>
          intro i hi
          have hw := wide_rrd ht.wide (by omega : i < l.length)
          refine Ev.step (fun k => rfl) (ev_pos (by omega) (ev_pos (by omega) (ev_pos (by omega) ?_)))
          unfold allF
          have inner : ∀ g j, j + g = l.length → Ev (fun k => spec_dlGood.l1 k l d p (i : Int) (rd_L1 l (i : Int)) l (l.length : Int) (i : Int) ((rd_L1 l (i : Int)).length : Int) (j : Int)) (allF (cellB l d p i) g j && allF (fun i => allF (cellB l d p i) l.length 0) f (i + 1)) := by
            intro g
            induction g with
            | zero =>
              intro j hj
              refine Ev.step (fun k => rfl) (ev_neg (by omega) ?_)
              rw [wr1 (by omega)]
              exact ev_eq (by simp [allF]) (ih (i + 1) (by omega))
            | succ g ih2 =>
              intro j hj
              refine Ev.step (fun k => rfl) (ev_pos (by omega) (ev_pos (by omega) (ev_pos (by omega) ?_)))
              rw [wr1 (by omega)]
              have e : allF (cellB l d p i) (g + 1) j = (cellB l d p i j && allF (cellB l d p i) g (j + 1)) := rfl
              rw [e]
              by_cases hx : rd (rd_L1 l (i : Int)) (j : Int) = 1000000000
              · have : cellB l d p i j = true := by simp [cellB, hx]
                rw [this]
                exact ev_pos hx (ev_eq (by simp) (ih2 (j + 1) (by omega)))
              · refine ev_neg hx (Ev.bind (ev_const (dlBuffer_eq hpl (by omega) (by omega) (by omega) (by omega))) ?_)
                by_cases hb : bufB l d p (i : Int) (j : Int) < 0
                · have : cellB l d p i j = false := by simp only [cellB, decide_eq_false_iff_not]; omega
                  rw [this]
                  exact ev_pos hb (ev_const (by simp))
                · have : cellB l d p i j = true := by simp only [cellB, decide_eq_true_eq]; omega
                  rw [this]
                  exact ev_neg hb (ev_eq (by simp) (ih2 (j + 1) (by omega)))
          exact inner l.length 0 (by omega)
      exact key l.length 0 (by omega)
theorem zip_forall {P : Int → Int → Prop} {n d : List Int} : (∀ x ∈ List.zip n d, P x.1 x.2) ↔ ∀ i, i < n.length → i < d.length → P (rd n (i : Int)) (rd d (i : Int)) := by
  constructor
  · intro h i h1 h2
    have := h (n[i], d[i]) (by
      rw [List.mem_iff_getElem]
      exact ⟨i, by simp; omega, by simp⟩)
    rw [rd_get h1, rd_get h2]
    exact this
  · intro h x hx
    obtain ⟨i, hi, rfl⟩ := List.mem_iff_getElem.1 hx
    simp only [List.length_zip] at hi
    have := h i (by omega) (by omega)
    rw [rd_get (by omega), rd_get (by omega)] at this
    simpa using this
theorem leastB_le (q : List (Int × Int)) (p : Int) : ∀ a, q.foldl leastStep a ≤ p ↔ a ≤ p ∧ ∀ x ∈ q, x.1 - x.2 ≤ p := by
  induction q with
  | nil => intro a; simp
  | cons y t ih =>
    intro a
    rw [List.foldl_cons, ih]
    unfold leastStep
    constructor
    · rintro ⟨h1, h2⟩
      refine ⟨by omega, fun x hx => ?_⟩
      rcases List.mem_cons.1 hx with rfl | hx
      · omega
      · exact h2 x hx
    · rintro ⟨h1, h2⟩
      have := h2 y (List.mem_cons_self ..)
      exact ⟨by omega, fun x hx => h2 x (List.mem_cons_of_mem _ hx)⟩
theorem mostB_le (q : List (Int × Int)) (t : Int) : ∀ a, q.foldl stepM a ≤ t ↔ a ≤ t ∧ ∀ x ∈ q, x.1 ≠ 1000000000 → x.2 + x.1 ≤ t := by
  induction q with
  | nil => intro a; simp
  | cons y r ih =>
    intro a
    rw [List.foldl_cons, ih]
    unfold stepM
    constructor
    · rintro ⟨h1, h2⟩
      refine ⟨by split at h1 <;> omega, fun x hx hne => ?_⟩
      rcases List.mem_cons.1 hx with rfl | hx
      · rw [if_neg hne] at h1
        omega
      · exact h2 x hx hne
    · rintro ⟨h1, h2⟩
      refine ⟨?_, fun x hx => h2 x (List.mem_cons_of_mem _ hx)⟩
      split
      · exact h1
      · rename_i e
        have := h2 y (List.mem_cons_self ..) e
        omega
theorem steady_iff {l : List (List Int)} {d : List Int} {p : Int} (h : Plan l d p) : decide (leastB 0 (nextB l d) d ≤ p) = steadyOk l d p := by
  have hl := h.len
  have hp := h.per
  rw [Bool.eq_iff_iff, decide_eq_true_eq]
  unfold steadyOk leastB
  rw [leastB_le, allF_iff, zip_forall (P := fun a b => a - b ≤ p)]
  have hn := nextB_length l d
  constructor
  · rintro ⟨_, h2⟩ i _ hi
    rw [allF_iff]
    intro j _ hj
    have h3 := h2 i (by omega) (by omega)
    rw [rd_next (by omega)] at h3
    have h4 : mostB 0 (rd_L1 l (i : Int)) d ≤ rd d (i : Int) + p := by omega
    unfold mostB at h4
    rw [mostB_le, zip_forall (P := fun a b => a ≠ 1000000000 → b + a ≤ rd d (i : Int) + p)] at h4
    have hw := wide_rrd h.tr.wide (by omega : i < l.length)
    have h5 := h4.2 j (by omega) (by omega)
    have h6 : rd (rd_L1 l (i : Int)) (j : Int) = 1000000000 ∨ 0 ≤ bufB l d p (i : Int) (j : Int) := by
      by_cases e : rd (rd_L1 l (i : Int)) (j : Int) = 1000000000
      · exact .inl e
      · have := h5 e
        exact .inr (by unfold bufB; omega)
    exact decide_eq_true h6
  · intro h2
    refine ⟨hp.1, fun i h3 h4 => ?_⟩
    rw [rd_next (by omega)]
    have hw := wide_rrd h.tr.wide (by omega : i < l.length)
    have hui := upto_rd h.up h4
    have h5 : mostB 0 (rd_L1 l (i : Int)) d ≤ rd d (i : Int) + p := by
      unfold mostB
      rw [mostB_le, zip_forall (P := fun a b => a ≠ 1000000000 → b + a ≤ rd d (i : Int) + p)]
      refine ⟨by omega, fun j h6 h7 hne => ?_⟩
      have h8 := (allF_iff _ _ _).1 (h2 i (by omega) (by omega)) j (by omega) (by omega)
      have h9 : rd (rd_L1 l (i : Int)) (j : Int) = 1000000000 ∨ 0 ≤ bufB l d p (i : Int) (j : Int) := of_decide_eq_true h8
      unfold bufB at h9
      omega
    omega
theorem ev_planOf (l : List (List Int)) (d : List Int) (p : Int) (h : Short l) : Ev (fun k => impl_planOf.f k l d p) (l, d, p, goodB l d p) := by
  unfold impl_planOf.f
  refine Ev.bind (ev_implIsSteady l d p h) (ev_const ?_)
  unfold steadyR goodB
  cases hb : bothB l d with
  | false => simp
  | true =>
    obtain ⟨ht, hd, htm⟩ := bothB_parts hb
    by_cases hp : 0 ≤ p ∧ p ≤ 100000
    · have := steady_iff ⟨ht, hd, timesB_upto htm, hp⟩
      have e : (if true = true ∧ 0 ≤ p ∧ p ≤ 100000 then (decide (leastB 0 (nextB l d) d ≤ p), true) else (false, false)) = (steadyOk l d p, true) := by rw [if_pos ⟨rfl, hp⟩, this]
      rw [e, decide_eq_true hp]
      simp
    · have e : (if true = true ∧ 0 ≤ p ∧ p ≤ 100000 then (decide (leastB 0 (nextB l d) d ≤ p), true) else (false, false)) = (false, false) := if_neg (fun h => hp h.2)
      rw [e, decide_eq_false hp]
      simp

end Go.Proofs.Ytebjiooojkhkpaa.Pure

/- The least buffer, critical waits: the program and the reference come to the same. Condition: lists no longer than memory allows. -/
namespace Go.Proofs.Ytebjiooojkhkpaa.Pure
open Go.RowKit Go.Proofs.Ytebjiooojkhkpaa.X Go.Proofs.YtebjiooojkhkpaaW.PrintWords Go.Proofs.YtebjiooojkhkpaaW.PrintMore
set_option linter.unusedVariables false
set_option linter.unusedSimpArgs false

/-- The pairs of a row without a buffer, behind a place; then of all rows. -/
def critRow (l : List (List Int)) (d : List Int) (p : Int) (i : Int) : Nat → Nat → List (List Int) → List (List Int)
  | 0, _, s => s
  | f + 1, j, s => critRow l d p i f (j + 1) (if rd (rd_L1 l i) (j : Int) = 1000000000 then s else if bufB l d p i (j : Int) = 0 then s ++ [[i, (j : Int)]] else s)
def critAll (l : List (List Int)) (d : List Int) (p : Int) : Nat → Nat → List (List Int) → List (List Int)
  | 0, _, s => s
  | f + 1, i, s => critAll l d p f (i + 1) (critRow l d p (i : Int) l.length 0 s)
theorem critRow_length (l : List (List Int)) (d : List Int) (p i : Int) : ∀ (f j : Nat) (s : List (List Int)), (critRow l d p i f j s).length ≤ s.length + f
  | 0, _, s => by simp [critRow]
  | f + 1, j, s => by
    unfold critRow
    have := critRow_length l d p i f (j + 1) (if rd (rd_L1 l i) (j : Int) = 1000000000 then s else if bufB l d p i (j : Int) = 0 then s ++ [[i, (j : Int)]] else s)
    have h2 : (if rd (rd_L1 l i) (j : Int) = 1000000000 then s else if bufB l d p i (j : Int) = 0 then s ++ [[i, (j : Int)]] else s).length ≤ s.length + 1 := by
      split
      · omega
      · split
        · simp
        · omega
    omega
theorem critAll_length (l : List (List Int)) (d : List Int) (p : Int) : ∀ (f i : Nat) (s : List (List Int)), (critAll l d p f i s).length ≤ s.length + f * l.length
  | 0, _, s => by simp [critAll]
  | f + 1, i, s => by
    unfold critAll
    have h1 := critAll_length l d p f (i + 1) (critRow l d p (i : Int) l.length 0 s)
    have h2 := critRow_length l d p (i : Int) l.length 0 s
    rw [Nat.succ_mul]
    omega
theorem critRow_two (l : List (List Int)) (d : List Int) (p i : Int) : ∀ (f j : Nat) (s : List (List Int)), (∀ r ∈ s, r.length ≤ 6) → ∀ r ∈ critRow l d p i f j s, r.length ≤ 6
  | 0, _, s, h => h
  | f + 1, j, s, h => by
    unfold critRow
    refine critRow_two l d p i f (j + 1) _ ?_
    split
    · exact h
    · split
      · intro r hr
        rcases List.mem_append.1 hr with hr | hr
        · exact h r hr
        · simp at hr
          subst hr
          simp
      · exact h
theorem critAll_two (l : List (List Int)) (d : List Int) (p : Int) : ∀ (f i : Nat) (s : List (List Int)), (∀ r ∈ s, r.length ≤ 6) → ∀ r ∈ critAll l d p f i s, r.length ≤ 6
  | 0, _, s, h => h
  | f + 1, i, s, h => critAll_two l d p f (i + 1) _ (critRow_two l d p (i : Int) l.length 0 s h)
theorem sum_le_six {l : List (List Int)} (h : ∀ r ∈ l, r.length ≤ 6) : (l.map List.length).sum ≤ 6 * l.length := by
  induction l with
  | nil => simp
  | cons r t ih =>
    have h1 := h r (List.mem_cons_self ..)
    have h2 := ih (fun x hx => h x (List.mem_cons_of_mem _ hx))
    simp only [List.map_cons, List.sum_cons, List.length_cons]
    omega
def critR (l : List (List Int)) (d : List Int) (p : Int) : List (List Int) × Bool := if goodB l d p = true then (critAll l d p l.length 0 [], true) else ([], false)
theorem six_sq {n : Nat} (h : n ≤ 6) (f : Nat) (hf : f ≤ 6) : f * n ≤ 36 := Nat.mul_le_mul hf h
theorem ev_specCriticalWaits (l : List (List Int)) (d : List Int) (p : Int) (h : Short l) (hdl : (d.length : Int) ≤ 1048576) : Ev (fun k => spec_CriticalWaits.f k l d p) (critR l d p) := by
  unfold spec_CriticalWaits.f critR
  refine Ev.bind (ev_dlGood l d p h hdl) ?_
  cases hg : goodB l d p with
  | false => exact ev_false (ev_const (by simp))
  | true =>
    have hpl := goodB_plan hg
    have h6 := hpl.tr.six
    rw [if_pos rfl]
    refine ev_true ?_
    have key : ∀ f i, i + f = l.length → ∀ s, s.length ≤ i * l.length → Ev (fun k => spec_CriticalWaits.l0 k l d p s l (l.length : Int) (i : Int)) (critAll l d p f i s, true) := by
      intro f
      induction f with
      | zero =>
        intro i hi s hs
        exact Ev.step (fun k => rfl) (ev_neg (by omega) (Ev.now _))
      | succ f ih =>
        intro i hi s hs
        have hw := wide_rrd hpl.tr.wide (by omega : i < l.length)
        have hil := six_sq h6 i (by omega)
        refine Ev.step (fun k => rfl) (ev_pos (by omega) (ev_pos (by omega) (ev_pos (by omega) ?_)))
        unfold critAll
        have hcl := critRow_length l d p (i : Int) l.length 0 s
        generalize hR : critRow l d p (i : Int) l.length 0 s = R at hcl ⊢
        have inner : ∀ g j, j + g = l.length → ∀ t, t.length ≤ i * l.length + j → critRow l d p (i : Int) g j t = R → Ev (fun k => spec_CriticalWaits.l1 k l d p t (i : Int) l (l.length : Int) (i : Int) (rd_L1 l (i : Int)) ((rd_L1 l (i : Int)).length : Int) (j : Int)) (critAll l d p f (i + 1) R, true) := by
          intro g
          induction g with
          | zero =>
            intro j hj t ht he
            have he : t = R := he
            refine Ev.step (fun k => rfl) (ev_neg (by omega) ?_)
            rw [wr1 (by omega), he]
            exact ih (i + 1) (by omega) _ (by rw [Nat.succ_mul]; omega)
          | succ g ih2 =>
            intro j hj t ht he
            unfold critRow at he
            refine Ev.step (fun k => rfl) (ev_pos (by omega) (ev_pos (by omega) (ev_pos (by omega) ?_)))
            rw [wr1 (by omega)]
            by_cases hx : rd (rd_L1 l (i : Int)) (j : Int) = 1000000000
            · rw [if_pos hx] at he
              exact ev_pos hx (ih2 (j + 1) (by omega) t (by omega) he)
            · rw [if_neg hx] at he
              refine ev_neg hx (Ev.bind (ev_const (dlBuffer_eq hpl (by omega) (by omega) (by omega) (by omega))) ?_)
              by_cases hb : bufB l d p (i : Int) (j : Int) = 0
              · rw [if_pos hb] at he
                exact ev_pos hb (ev_pos (by omega) (ih2 (j + 1) (by omega) _ (by simp; omega) he))
              · rw [if_neg hb] at he
                exact ev_neg hb (ih2 (j + 1) (by omega) t (by omega) he)
        exact inner l.length 0 (by omega) s (by omega) hR
    exact key l.length 0 (by omega) [] (by simp)
theorem planCritRow {l : List (List Int)} {d : List Int} {p : Int} (h : Plan l d p) {i : Nat} (hi : i < l.length) : ∀ (f j : Nat) (s : List (List Int)), j + f = l.length → s.length ≤ i * l.length + j →
    impl_plan_next.row (fun i j => impl_plan_waits.f l d p i j) (fun s i j => impl_CriticalWaits.step l d p s i j) (i : Int) f j s = some (critRow l d p (i : Int) f j s)
  | 0, j, s, _, _ => rfl
  | f + 1, j, s, hf, hs => by
    have h6 := h.tr.six
    have hil := six_sq h6 i (by omega)
    unfold impl_plan_next.row critRow
    rw [waits_eq h.tr (by omega) (by omega) (by omega) (by omega), Option.bind_some]
    by_cases e : rd (rd_L1 l (i : Int)) (j : Int) = 1000000000
    · rw [if_neg (by simp [e]), Option.bind_some, if_pos e]
      exact planCritRow h hi f (j + 1) s (by omega) (by omega)
    · rw [if_pos (by simp [e]), if_neg e]
      have hst : impl_CriticalWaits.step l d p s (i : Int) (j : Int) = some (if bufB l d p (i : Int) (j : Int) = 0 then s ++ [[(i : Int), (j : Int)]] else s) := by
        unfold impl_CriticalWaits.step
        rw [planBuffer_eq h (by omega) (by omega) (by omega) (by omega), Option.bind_some]
        by_cases hb : bufB l d p (i : Int) (j : Int) = 0
        · rw [if_pos hb, if_pos hb, if_pos (by omega)]
        · rw [if_neg hb, if_neg hb]
      rw [hst, Option.bind_some]
      refine planCritRow h hi f (j + 1) _ (by omega) ?_
      split
      · simp; omega
      · omega
theorem planCritAll {l : List (List Int)} {d : List Int} {p : Int} (h : Plan l d p) : ∀ (f i : Nat) (s : List (List Int)), i + f = l.length → s.length ≤ i * l.length →
    impl_plan_next.all (fun i j => impl_plan_waits.f l d p i j) (fun s i j => impl_CriticalWaits.step l d p s i j) l.length f i s = some (critAll l d p f i s)
  | 0, i, s, _, _ => rfl
  | f + 1, i, s, hf, hs => by
    unfold impl_plan_next.all critAll
    have := critRow_length l d p (i : Int) l.length 0 s
    rw [planCritRow h (by omega) l.length 0 s (by omega) (by omega), Option.bind_some]
    exact planCritAll h f (i + 1) _ (by omega) (by rw [Nat.succ_mul]; omega)
theorem ev_implCriticalWaits (l : List (List Int)) (d : List Int) (p : Int) (h : Short l) : Ev (fun k => impl_CriticalWaits.f k l d p) (critR l d p) := by
  unfold impl_CriticalWaits.f critR
  refine Ev.bind (ev_planOf l d p h) ?_
  dsimp only
  cases hg : goodB l d p with
  | false => exact ev_false (ev_const (by simp))
  | true =>
    have hpl := goodB_plan hg
    refine ev_true (ev_bind0 (ev_const (planCritAll hpl l.length 0 [] (by omega) (by simp))) (by simp))
theorem critR_size {l : List (List Int)} {d : List Int} {p : Int} : (critR l d p).1.length + ((critR l d p).1.map List.length).sum ≤ 1048576 := by
  unfold critR
  split
  · rename_i hg
    have h6 := (goodB_plan hg).tr.six
    have h1 := critAll_length l d p l.length 0 []
    have h2 := six_sq h6 l.length h6
    have := sum_le_six (critAll_two l d p l.length 0 [] (by simp))
    dsimp only
    simp at h1
    omega
  · simp
end Go.Proofs.Ytebjiooojkhkpaa.Pure

/- Rows of whole numbers that come in as data, read as lists. No condition but the kinds of the types. -/
namespace Go.Proofs.Ytebjiooojkhkpaa.Law
open Go.RowKit Go.ChangeShapes Go.WideShapes Go.Deep Go.Proofs.YtebjiooojkhkpaaW.PrintWords Go.Proofs.YtebjiooojkhkpaaW.PrintMore
set_option linter.unusedVariables false
theorem add_add0 (a : Addr) (m : Nat) : a.add (m * 1 + 0) = a.add m := by rw [Nat.mul_one, Nat.add_zero]
theorem open_rows {H : Type} {enc : TypeId × Value → H} {P : Program} {W : World} {base : Nat} {held : Bool} {t e q : TypeId} {a : Option Addr} {len cap : Nat} {d : DataW H} {ps : List MemPlace}
    (ht : P.underlying t = some (.slice e)) (he : P.underlying e = some (.slice q)) (hq : P.underlying q = some (.int .i64)) (ce : P.cellsOf e = 1) (cq : P.cellsOf q = 1)
    (h : DataW.Trod enc P W base (fun _ => true) held t (.slice a len cap) d ps) (m : Nat) :
    ∃ l : List (List Int), len = l.length ∧ l.length ≤ cap ∧ Kd.C (Kd.slice m (Kd.int .i64)) W a l.length l ∧ (∀ r ∈ l, (r.length : Int) ≤ 9223372036854775807) ∧ (∀ r ∈ l, ∀ x ∈ r, -9223372036854775808 ≤ x ∧ x ≤ 9223372036854775807) := by
  have hmax : maxLen = 9223372036854775807 := rfl
  obtain ⟨fuel, hf⟩ := h
  rcases open_int_rows ht he hq ce cq hf with ⟨hcs, _⟩ | ⟨a', len', cap', A, L, C, Z, hcs, _, hl, hm, _, hrow⟩
  · simp [Value.cells] at hcs
    obtain ⟨rfl, rfl, rfl⟩ := hcs
    exact ⟨[], rfl, Nat.le_refl _, Kd.C_nil _ _, fun r hr => (by cases hr), fun r hr => (by cases hr)⟩
  · simp [Value.cells] at hcs
    obtain ⟨rfl, rfl, rfl⟩ := hcs
    have hlen : ((List.range len).map fun r => (Z r).take (L r)).length = len := by simp
    have hget : ∀ (j : Nat) (p : List Int), ((List.range len).map fun r => (Z r).take (L r))[j]? = some p → j < len ∧ p = (Z j).take (L j) := by
      intro j p hj
      rw [List.getElem?_map] at hj
      obtain ⟨x, hx, rfl⟩ := Option.map_eq_some_iff.1 hj
      obtain ⟨h1, h2⟩ := List.getElem?_eq_some_iff.1 hx
      simp at h1 h2
      exact ⟨h1, by rw [← h2]⟩
    have hmem : ∀ r ∈ ((List.range len).map fun r => (Z r).take (L r)), ∃ j, j < len ∧ r = (Z j).take (L j) := by
      intro r hr
      obtain ⟨j, hj, rfl⟩ := List.mem_map.1 hr
      exact ⟨j, List.mem_range.1 hj, rfl⟩
    refine ⟨(List.range len).map fun r => (Z r).take (L r), hlen.symm, by rw [hlen]; exact hl, ?_, ?_, ?_⟩
    · rw [hlen]
      refine ⟨hlen, by rw [hmax] at hm; omega, fun hp => ⟨a', rfl, fun j p hj => ?_⟩⟩
      obtain ⟨hjl, rfl⟩ := hget j p hj
      obtain ⟨hc, hLC, hCm, hZ, hwf, hn, hcells⟩ := hrow j (by omega)
      have hpl : ((Z j).take (L j)).length = L j := by rw [List.length_take, hZ]; omega
      refine ⟨[.slice (A j) (L j) (C j)], rfl, ⟨A j, C j, by rw [hpl], by rw [hpl]; exact hLC, ?_⟩, fun i u hu => ?_⟩
      · refine Kd.C_of_reads (d := (0 : Int)) (h1 := fun _ => rfl) ⟨rfl, by rw [hpl]; rw [hmax] at hCm; omega, fun hp2 => ?_⟩
        rw [hpl] at hp2
        cases hA : A j with
        | none => have := hn hA; omega
        | some a2 =>
          refine ⟨a2, rfl, fun i hi => ?_⟩
          rw [hpl] at hi
          rw [(hcells a2 hA).2 i (by omega)]
          congr 2
          rw [List.getD_eq_getElem?_getD, List.getD_eq_getElem?_getD, List.getElem?_take, if_pos hi]
      · cases i with
        | zero =>
          have : Value.slice (A j) (L j) (C j) = u := by simpa using hu
          subst this
          rw [show (Kd.slice m (Kd.int .i64)).sz = 1 from rfl, add_add0]
          exact hc
        | succ i => simp at hu
    · intro r hr
      obtain ⟨j, hj, rfl⟩ := hmem r hr
      obtain ⟨hc, hLC, hCm, hZ, _⟩ := hrow j (by omega)
      rw [List.length_take, hZ]
      rw [hmax] at hCm
      omega
    · intro r hr x hx
      obtain ⟨j, hj, rfl⟩ := hmem r hr
      obtain ⟨hc, hLC, hCm, hZ, hwf, _⟩ := hrow j (by omega)
      have := hwf x (List.mem_of_mem_take hx)
      have e1 : IntKind.i64.min = -9223372036854775808 := by decide
      have e2 : IntKind.i64.max = 9223372036854775807 := by decide
      simp only [Lit.wf, Bool.and_eq_true, decide_eq_true_eq] at this
      rw [e1, e2] at this
      exact this
/-- A row's slice of rows is no longer than its weight allows. -/
theorem sized_rows {H : Type} {enc : TypeId × Value → H} {P : Program} {W : World} {base : Nat} {held : Bool} {t e q : TypeId} {a : Option Addr} {len cap : Nat} {d : DataW H} {ps : List MemPlace} {ts : List TypeId} {ds : List (DataW H)} {j : Nat}
    (hsz : (DataW.weightsEach P ts ds).all (· ≤ reachBytes) = true) (ht : ts[j]? = some t) (hd : ds[j]? = some d) (hu : P.underlying t = some (.slice e)) (he : P.underlying e = some (.slice q)) (hq : P.underlying q = some (.int .i64)) (ce : P.cellsOf e = 1) (cq : P.cellsOf q = 1) {B : Nat} (hB : P.bytesOf e = B)
    (h : DataW.Trod enc P W base (fun _ => true) held t (.slice a len cap) d ps) : len * B ≤ 140737488351232 := by
  obtain ⟨fuel, hf⟩ := h
  rcases open_int_rows hu he hq ce cq hf with ⟨hcs, _⟩ | ⟨a', len', cap', A, L, C, Z, hcs, _, hl, hm, hx, hrow⟩
  · simp [Value.cells] at hcs
    obtain ⟨rfl, rfl, rfl⟩ := hcs
    simp
  · simp [Value.cells] at hcs
    obtain ⟨rfl, rfl, rfl⟩ := hcs
    obtain ⟨hx, _⟩ := Prod.mk.inj hx
    subst hx
    have z := sized_slice hsz ht hd hu
    rw [hB] at z
    simp only [List.length_map, List.length_range] at z
    exact Nat.le_trans (Nat.mul_le_mul_right _ (by omega)) z
end Go.Proofs.Ytebjiooojkhkpaa.Law
