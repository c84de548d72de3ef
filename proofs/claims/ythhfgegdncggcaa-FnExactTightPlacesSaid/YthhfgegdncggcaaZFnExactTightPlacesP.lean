-- Shaken by wip/gen/shake.py out of this claim's own printed texts. Lean checks it.
import Derived.Deep.Matrix
import Derived.Test.YthhfgegdncggcaaExtG
import Derived.Test.YthhfgegdncggcaaProg
import Derived.Test.YthhfgegdncggcaaWMore
import Derived.Test.YthhfgegdncggcaaWSized
import Derived.Test.YthhfgegdncggcaaWWords
import Derived.Test.YthhfgegdncggcaaX0
import Derived.Test.YthhfgegdncggcaaZFnExactTightPlacesX0
import Derived.Test.YthhfgegdncggcaaZFnExactTightPlacesX1
import Derived.Test.YthhfgegdncggcaaZFnExactTightPlacesX2
import Derived.Test.YthhfgegdncggcaaZFnExactTightPlacesX3
import Derived.Test.YthhfgegdncggcaaZFnExactTightPlacesX4
import Derived.Test.YthhfgegdncggcaaZFnExactTightPlacesX5
import Derived.Test.YthhfgegdncggcaaZFnExactTightPlacesX6
import Derived.Test.YthhfgegdncggcaaZFnExactTightPlacesX7
/- Small rules for 'from some number of rounds on' (Ev), lists and wraps: what the pure proofs of this seat lean on. No condition. -/
namespace Go.Proofs.Ythhfgegdncggcaa.Pure
open Go.RowKit Go.Proofs.YthhfgegdncggcaaW.PrintWords Go.Proofs.YthhfgegdncggcaaW.PrintMore
set_option linter.unusedVariables false
set_option linter.unusedSimpArgs false

theorem ev_pos {α : Type} {c : Prop} [Decidable c] {f g : Nat → Option α} {r : α} (h : c) (k : Ev f r) : Ev (fun n => if c then f n else g n) r := by
  obtain ⟨K, k⟩ := k
  exact ⟨K, fun n hn => (if_pos h).trans (k n hn)⟩
theorem ev_neg {α : Type} {c : Prop} [Decidable c] {f g : Nat → Option α} {r : α} (h : ¬ c) (k : Ev g r) : Ev (fun n => if c then f n else g n) r := by
  obtain ⟨K, k⟩ := k
  exact ⟨K, fun n hn => (if_neg h).trans (k n hn)⟩
theorem ev_true {α : Type} {f g : Nat → Option α} {r : α} (k : Ev f r) : Ev (fun n => if true = true then f n else g n) r := ev_pos rfl k
theorem ev_false {α : Type} {f g : Nat → Option α} {r : α} (k : Ev g r) : Ev (fun n => if false = true then f n else g n) r := ev_neg (by simp) k
theorem ev_eq {α : Type} {f : Nat → Option α} {r q : α} (h : r = q) (k : Ev f q) : Ev f r := h ▸ k
theorem ev_const {α : Type} {a : Option α} {r : α} (h : a = some r) : Ev (fun _ => a) r := ⟨0, fun _ _ => h⟩
theorem agree1 {α : Type} {g f : Nat → Option α} {r : α} (h : Ev g r) (h' : Ev f r) : ∃ k, g k = some r ∧ f k = some r := by
  obtain ⟨K, h⟩ := h
  obtain ⟨K', h'⟩ := h'
  exact ⟨max K K', h _ (by omega), h' _ (by omega)⟩
theorem agree2 {α β : Type} {g f : Nat → Option (α × β)} {r : α × β} (h : Ev g r) (h' : Ev f r) : ∃ k r1 r2, g k = some (r1, r2) ∧ f k = some (r1, r2) ∧ r = (r1, r2) := by
  obtain ⟨k, h1, h2⟩ := agree1 h h'
  obtain ⟨r1, r2⟩ := r
  exact ⟨k, r1, r2, h1, h2, rfl⟩
theorem ev_bind0 {α β : Type} {g : Nat → Option α} {f : α → Option β} {a : α} {r : β} (h : Ev g a) (k : f a = some r) : Ev (fun n => (g n).bind f) r := Ev.bind (f := fun _ => f) h (ev_const k)

theorem ev_j {α : Type} {g : Nat → Bool → Option α} {f h : Nat → Option α} {r : α} {b : Bool} (hj : ∀ k x, g (k + 1) x = if x = true then f k else h k) (k1 : b = true → Ev f r) (k2 : b = false → Ev h r) : Ev (fun k => g k b) r := by
  cases b with
  | true => exact Ev.step (fun k => (hj k true).trans (if_pos rfl)) (k1 rfl)
  | false => exact Ev.step (fun k => (hj k false).trans (if_neg (by simp))) (k2 rfl)

theorem wr {x : Int} (h : -9223372036854775808 ≤ x) (h' : x ≤ 9223372036854775807) : wrap64 x = x := by unfold wrap64; omega
theorem wr1 {i : Nat} (h : (i : Int) < 9223372036854775807) : wrap64 ((i : Int) + 1) = ((i + 1 : Nat) : Int) := by unfold wrap64; omega
theorem rd_get {xs : List Int} {i : Nat} (h : i < xs.length) : rd xs (i : Int) = xs[i] := by simp [rd, h]
theorem rd_mem {xs : List Int} {i : Nat} (h : i < xs.length) : rd xs (i : Int) ∈ xs := by rw [rd_get h]; exact List.getElem_mem h
theorem drop_rd {xs : List Int} {i : Nat} (h : i < xs.length) : xs.drop i = rd xs (i : Int) :: xs.drop (i + 1) := by
  rw [List.drop_eq_getElem_cons h, rd_get h]
theorem take_rd {xs : List Int} {i : Nat} (h : i < xs.length) : xs.take (i + 1) = xs.take i ++ [rd xs (i : Int)] := by
  rw [List.take_succ_eq_append_getElem h, rd_get h]
theorem drop_all {α : Type} {xs : List α} {i : Nat} (h : xs.length ≤ i) : xs.drop i = [] := List.drop_of_length_le h
theorem take_all {α : Type} {xs : List α} {i : Nat} (h : xs.length ≤ i) : xs.take i = xs := List.take_of_length_le h
/-- A walk up to n: what holds at each place, from the last one down. -/
theorem up_to {P : Nat → Prop} (n : Nat) (hend : P n) (hround : ∀ i, i < n → P (i + 1) → P i) : ∀ i, i ≤ n → P i := by
  have key : ∀ d i, i + d = n → P i := by
    intro d
    induction d with
    | zero => intro i h; have : i = n := by omega
              subst this; exact hend
    | succ d ih => intro i h; exact hround i (by omega) (ih (i + 1) (by omega))
  intro i hi
  exact key (n - i) i (by omega)

/-- A loop over the places of a list that ends at the first element without p. -/
theorem ev_all {L : Nat → Int → Option Bool} {xs : List Int} {T : Nat → Int → Option Bool} {p : Int → Bool} (hn : (xs.length : Int) ≤ 140737488355328)
    (hL : ∀ k i, L (k + 1) i = if i < (xs.length : Int) then (if 0 ≤ i then (if i < (xs.length : Int) then ((T k (rd xs i)).bind fun t => (if t = true then L k (wrap64 (i + 1)) else some false)) else none) else none) else some true)
    (hT : ∀ x, x ∈ xs → Ev (fun k => T k x) (p x)) : Ev (fun k => L k 0) (xs.all p) := by
  have key : ∀ i, i ≤ xs.length → Ev (fun k => L k (i : Int)) ((xs.drop i).all p) := by
    refine up_to _ ?_ ?_
    · rw [drop_all (Nat.le_refl _)]
      exact Ev.step (fun k => hL k _) (ev_neg (by omega) (Ev.now true))
    · intro i hi ih
      rw [drop_rd hi, List.all_cons]
      refine Ev.step (fun k => hL k _) (ev_pos (by omega) (ev_pos (by omega) (ev_pos (by omega) (Ev.bind (hT _ (rd_mem hi)) ?_))))
      rw [wr1 (by omega)]
      cases hp : p (rd xs (i : Int)) with
      | true => exact ev_true (by simpa using ih)
      | false => exact ev_false (by simpa using Ev.now false)
  have := key 0 (Nat.zero_le _)
  simpa using this

/-- What is copied place by place is the list itself. -/
theorem ev_copy {L : Nat → List Int → Int → Option (List Int)} {xs : List Int} (hn : (xs.length : Int) ≤ 140737488355328)
    (hL : ∀ k ys i, L (k + 1) ys i = if i < (xs.length : Int) then (if 0 ≤ i then (if i < (ys.length : Int) then L k (ys.set i.toNat (rd xs i)) (wrap64 (i + 1)) else none) else none) else some ys)
    : Ev (fun k => L k (List.replicate xs.length 0) 0) xs := by
  have key : ∀ i, i ≤ xs.length → Ev (fun k => L k (xs.take i ++ List.replicate (xs.length - i) 0) (i : Int)) xs := by
    refine up_to _ ?_ ?_
    · rw [take_all (Nat.le_refl _), Nat.sub_self, List.replicate_zero, List.append_nil]
      exact Ev.step (fun k => hL k _ _) (ev_neg (by omega) (Ev.now xs))
    · intro i hi ih
      refine Ev.step (fun k => hL k _ _) (ev_pos (by omega) (ev_pos (by omega) (ev_pos (by simp; omega) ?_)))
      rw [wr1 (by omega)]
      have e : (xs.take i ++ List.replicate (xs.length - i) 0).set ((i : Int).toNat) (rd xs i) = xs.take (i + 1) ++ List.replicate (xs.length - (i + 1)) 0 := by
        rw [take_rd hi]
        have e2 : xs.length - i = (xs.length - (i + 1)) + 1 := by omega
        rw [e2, List.replicate_succ, Int.toNat_natCast, List.set_append_right _ _ (by simp; omega)]
        have e3 : i - (xs.take i).length = 0 := by simp; omega
        rw [e3]
        simp
      rw [e]
      exact ih
  have := key 0 (Nat.zero_le _)
  simpa using this

/-- Two lists of one length, compared place by place. -/
theorem ev_same {L : Nat → Int → Option Bool} {xs ys : List Int} (hn : (xs.length : Int) ≤ 140737488355328) (he : xs.length = ys.length)
    (hL : ∀ k i, L (k + 1) i = if i < (xs.length : Int) then (if 0 ≤ i then (if i < (ys.length : Int) then (if rd xs i = rd ys i then L k (wrap64 (i + 1)) else some false) else none) else none) else some true)
    : Ev (fun k => L k 0) (decide (xs = ys)) := by
  have key : ∀ i, i ≤ xs.length → Ev (fun k => L k (i : Int)) (decide (xs.drop i = ys.drop i)) := by
    refine up_to _ ?_ ?_
    · rw [drop_all (Nat.le_refl _), drop_all (by omega)]
      exact Ev.step (fun k => hL k _) (ev_neg (by omega) (ev_eq (by simp) (Ev.now true)))
    · intro i hi ih
      rw [drop_rd hi, drop_rd (by omega : i < ys.length)]
      refine Ev.step (fun k => hL k _) (ev_pos (by omega) (ev_pos (by omega) (ev_pos (by omega) ?_)))
      rw [wr1 (by omega)]
      by_cases e : rd xs (i : Int) = rd ys (i : Int)
      · refine ev_pos e (ev_eq ?_ ih)
        simp [e]
      · refine ev_neg e (ev_eq ?_ (Ev.now false))
        simp [e]
  have := key 0 (Nat.zero_le _)
  simpa using this
end Go.Proofs.Ythhfgegdncggcaa.Pure

/- What the small tests of numbers and vectors come to, the program's and the reference's. Condition: lists no longer than memory allows. -/
namespace Go.Proofs.Ythhfgegdncggcaa.Pure
open Go.RowKit Go.Proofs.Ythhfgegdncggcaa.X Go.Proofs.YthhfgegdncggcaaW.PrintWords Go.Proofs.YthhfgegdncggcaaW.PrintMore
set_option linter.unusedVariables false
set_option linter.unusedSimpArgs false

/-- A number other than Infinity. -/
def finB (n : Int) : Bool := decide (-1000000 ≤ n ∧ n ≤ 1000000)
def numB (n : Int) : Bool := finB n || n == 1000000000
def vecB (l : List Int) : Bool := decide (1 ≤ l.length ∧ l.length ≤ 6) && l.all numB
theorem finB_iff {n : Int} : finB n = true ↔ -1000000 ≤ n ∧ n ≤ 1000000 := by simp [finB]
theorem within_eq (a b c : Int) : impl_within.f a b c = some (decide (b ≤ a ∧ a ≤ c)) := by
  unfold impl_within.f
  by_cases h : a ≥ b
  · rw [if_pos h]; simp; omega
  · rw [if_neg h]; simp; omega
theorem l1In_eq (a b c : Int) : spec_l1In.f a b c = some (decide (b ≤ a ∧ a ≤ c)) := by
  unfold spec_l1In.f
  by_cases h : a ≥ b
  · rw [if_pos h]; simp; omega
  · rw [if_neg h]; simp; omega
theorem isFinite_eq (n : Int) : impl_isFinite.f n = some (finB n) := by
  unfold impl_isFinite.f finB
  by_cases h : n ≥ -1000000
  · rw [if_pos h]; simp; omega
  · rw [if_neg h]; simp; omega
theorem isNumber_eq (n : Int) : impl_isNumber.f n = some (numB n) := by
  unfold impl_isNumber.f numB
  rw [isFinite_eq, Option.bind_some]
  cases finB n <;> simp
theorem ev_areFinite (l : List Int) (hn : (l.length : Int) ≤ 140737488355328) : Ev (fun k => impl_areFinite.f k l) (l.all finB) :=
  ev_all hn (T := fun _ x => impl_isFinite.f x) (fun _ _ => rfl) (fun x _ => ev_const (isFinite_eq x))
theorem ev_areNumbers (l : List Int) (hn : (l.length : Int) ≤ 140737488355328) : Ev (fun k => impl_areNumbers.f k l) (l.all numB) :=
  ev_all hn (T := fun _ x => impl_isNumber.f x) (fun _ _ => rfl) (fun x _ => ev_const (isNumber_eq x))
theorem ev_isVector (l : List Int) (hn : (l.length : Int) ≤ 140737488355328) : Ev (fun k => impl_isVector.f k l) (vecB l) := by
  unfold impl_isVector.f
  refine Ev.bind (ev_const (within_eq _ _ _)) ?_
  by_cases h : 1 ≤ l.length ∧ l.length ≤ 6
  · refine ev_pos (by simp; omega) (ev_bind0 (ev_areNumbers l hn) ?_)
    simp [vecB, h]
  · refine ev_neg (by simp; omega) (ev_const ?_)
    simp [vecB, h]
theorem finB_num {n : Int} (h : finB n = true) : numB n = true := by simp [numB, h]
theorem ev_l1All (l : List Int) (lo hi : Int) (hn : (l.length : Int) ≤ 140737488355328) : Ev (fun k => spec_l1All.f k l lo hi) (l.all fun n => decide (lo ≤ n ∧ n ≤ hi)) :=
  ev_all hn (L := fun k i => spec_l1All.l0 k lo hi l (l.length : Int) i) (T := fun _ x => spec_l1In.f x lo hi) (fun _ _ => rfl) (fun x _ => ev_const (l1In_eq x lo hi))
theorem ev_l1AllFin (l : List Int) (hn : (l.length : Int) ≤ 140737488355328) : Ev (fun k => spec_l1All.f k l (-1000000) 1000000) (l.all finB) := ev_l1All l _ _ hn
theorem ev_toIntS (l : List Int) (hn : (l.length : Int) ≤ 35184372088832) : Ev (fun k => laws_toIntS.f k l) l := by
  unfold laws_toIntS.f
  refine ev_pos (by omega) (ev_pos (by omega) ?_)
  have e : ((l.length : Int) : Int).toNat = l.length := by omega
  rw [e]
  exact ev_copy (L := fun k ys i => laws_toIntS.l0 k l ys i) (by omega) (fun _ _ _ => rfl)
theorem ev_eqIntS (a b : List Int) (hn : (a.length : Int) ≤ 140737488355328) : Ev (fun k => laws_eqIntS.f k a b) (decide (a = b)) := by
  unfold laws_eqIntS.f
  by_cases h : a.length = b.length
  · exact ev_pos (by omega) (ev_same (L := fun k i => laws_eqIntS.l0 k a b i) hn h (fun _ _ => rfl))
  · refine ev_neg (by omega) (ev_const ?_)
    have : ¬ a = b := fun e => h (by rw [e])
    simp [this]
end Go.Proofs.Ythhfgegdncggcaa.Pure

/- What the laws' own helpers over numbers and rows of numbers come to (copied, compared, sized, marked, held). Condition: lists no longer than memory allows. -/
namespace Go.Proofs.Ythhfgegdncggcaa.Pure
open Go.RowKit Go.Proofs.Ythhfgegdncggcaa.X Go.Proofs.YthhfgegdncggcaaW.PrintWords Go.Proofs.YthhfgegdncggcaaW.PrintMore
set_option linter.unusedVariables false
set_option linter.unusedSimpArgs false

/-- How many numbers rows have together. -/
def tot (xs : List (List Int)) : Nat := (xs.map List.length).sum
theorem tot_cons (r : List Int) (xs : List (List Int)) : tot (r :: xs) = r.length + tot xs := rfl
theorem tot_append (xs ys : List (List Int)) : tot (xs ++ ys) = tot xs + tot ys := by simp [tot]
theorem tot_mem {r : List Int} {xs : List (List Int)} (h : r ∈ xs) : r.length ≤ tot xs := by
  induction xs with
  | nil => cases h
  | cons y ys ih =>
    rw [tot_cons]
    rcases List.mem_cons.1 h with rfl | h
    · omega
    · have := ih h; omega
theorem rdr_get {xs : List (List Int)} {i : Nat} (h : i < xs.length) : rd_L1 xs (i : Int) = xs[i] := by simp [rd_L1, h]
theorem rdr_mem {xs : List (List Int)} {i : Nat} (h : i < xs.length) : rd_L1 xs (i : Int) ∈ xs := by rw [rdr_get h]; exact List.getElem_mem h
theorem drop_rdr {xs : List (List Int)} {i : Nat} (h : i < xs.length) : xs.drop i = rd_L1 xs (i : Int) :: xs.drop (i + 1) := by rw [List.drop_eq_getElem_cons h, rdr_get h]
theorem take_rdr {xs : List (List Int)} {i : Nat} (h : i < xs.length) : xs.take (i + 1) = xs.take i ++ [rd_L1 xs (i : Int)] := by rw [List.take_succ_eq_append_getElem h, rdr_get h]

/-- The marks from a on. -/
def marks : Int → Nat → List Int
  | _, 0 => []
  | a, n + 1 => a :: marks (a + 1) n
theorem marks_length : ∀ (a : Int) (n : Nat), (marks a n).length = n
  | _, 0 => rfl
  | a, n + 1 => by simp [marks, marks_length (a + 1) n]
def marksS : Int → List (List Int) → List (List Int)
  | _, [] => []
  | a, r :: rest => marks a r.length :: marksS (a + (r.length : Int)) rest

theorem szIntS_eq (l : List Int) (left : Int) (h0 : 0 ≤ left) (h1 : left ≤ 1048576) (hn : (l.length : Int) ≤ 9223372036854775807) : laws_szIntS.f l left = some (if (l.length : Int) ≤ left then left - (l.length : Int) else -1) := by
  unfold laws_szIntS.f
  rw [wr (by omega) (by omega)]
  by_cases h : (l.length : Int) ≤ left
  · rw [if_neg (by omega), if_pos h]
  · rw [if_pos (by omega), if_neg h]
theorem ev_szIntSS (xs : List (List Int)) (left : Int) (h0 : 0 ≤ left) (h1 : left ≤ 1048576) (hn : (xs.length : Int) ≤ 140737488355328) (hr : ∀ r ∈ xs, (r.length : Int) ≤ 9223372036854775807) :
    Ev (fun k => laws_szIntSS.f k xs left) (if (xs.length : Int) + (tot xs : Int) ≤ left then left - ((xs.length : Int) + (tot xs : Int)) else -1) := by
  unfold laws_szIntSS.f
  rw [wr (by omega) (by omega)]
  by_cases h : left - (xs.length : Int) < 0
  · refine ev_pos h (ev_const ?_)
    rw [if_neg (by omega)]
  · refine ev_neg h ?_
    have key : ∀ i, i ≤ xs.length → ∀ b : Int, 0 ≤ b → b ≤ 1048576 → Ev (fun k => laws_szIntSS.l0 k xs b (i : Int)) (if (tot (xs.drop i) : Int) ≤ b then b - (tot (xs.drop i) : Int) else -1) := by
      refine up_to _ ?_ ?_
      · intro b b0 b1
        rw [drop_all (Nat.le_refl _)]
        refine Ev.step (fun k => rfl) (ev_neg (by omega) (ev_const ?_))
        simp [tot, b0]
      · intro i hi ih b b0 b1
        rw [drop_rdr hi, tot_cons]
        refine Ev.step (fun k => rfl) (ev_pos (by omega) (ev_pos (by omega) (Ev.bind (ev_const (szIntS_eq _ b b0 b1 (hr _ (rdr_mem hi)))) ?_)))
        by_cases hh : ((rd_L1 xs (i : Int)).length : Int) ≤ b
        · rw [if_pos hh]
          refine ev_neg (by omega) ?_
          rw [wr1 (by omega)]
          refine ev_eq ?_ (ih _ (by omega) (by omega))
          by_cases h3 : ((tot (xs.drop (i + 1)) : Nat) : Int) ≤ b - ((rd_L1 xs (i : Int)).length : Int)
          · rw [if_pos h3, if_pos (by omega)]; omega
          · rw [if_neg h3, if_neg (by omega)]
        · rw [if_neg hh]
          refine ev_pos (by omega) (ev_const ?_)
          rw [if_neg (by omega)]
    have := key 0 (Nat.zero_le _) (left - (xs.length : Int)) (by omega) (by omega)
    rw [List.drop_zero] at this
    refine ev_eq ?_ this
    by_cases h3 : ((tot xs : Nat) : Int) ≤ left - (xs.length : Int)
    · rw [if_pos h3, if_pos (by omega)]; omega
    · rw [if_neg h3, if_neg (by omega)]
theorem ev_toIntSS (xs : List (List Int)) (hn : (xs.length : Int) ≤ 11728124029610) (hr : ∀ r ∈ xs, (r.length : Int) ≤ 35184372088832) : Ev (fun k => laws_toIntSS.f k xs) xs := by
  unfold laws_toIntSS.f
  refine ev_pos (by omega) (ev_pos (by omega) ?_)
  have e : ((xs.length : Int) : Int).toNat = xs.length := by omega
  rw [e]
  have key : ∀ i, i ≤ xs.length → Ev (fun k => laws_toIntSS.l0 k xs (xs.take i ++ List.replicate (xs.length - i) []) (i : Int)) xs := by
    refine up_to _ ?_ ?_
    · rw [take_all (Nat.le_refl _), Nat.sub_self, List.replicate_zero, List.append_nil]
      exact Ev.step (fun k => rfl) (ev_neg (by omega) (Ev.now xs))
    · intro i hi ih
      refine Ev.step (fun k => rfl) (ev_pos (by omega) (ev_pos (by omega) (Ev.bind (ev_toIntS (rd_L1 xs (i : Int)) (hr _ (rdr_mem hi))) (ev_pos (by simp; omega) ?_))))
      rw [wr1 (by omega)]
      have e : (xs.take i ++ List.replicate (xs.length - i) []).set ((i : Int).toNat) (rd_L1 xs (i : Int)) = xs.take (i + 1) ++ List.replicate (xs.length - (i + 1)) [] := by
        rw [take_rdr hi]
        have e2 : xs.length - i = (xs.length - (i + 1)) + 1 := by omega
        rw [e2, List.replicate_succ, Int.toNat_natCast, List.set_append_right _ _ (by simp; omega)]
        have e3 : i - (xs.take i).length = 0 := by simp; omega
        rw [e3]
        simp
      rw [e]
      exact ih
  have := key 0 (Nat.zero_le _)
  simpa using this
theorem ev_eqIntSS (xs : List (List Int)) (hn : (xs.length : Int) ≤ 140737488355328) (hr : ∀ r ∈ xs, (r.length : Int) ≤ 140737488355328) : Ev (fun k => laws_eqIntSS.f k xs xs) true := by
  unfold laws_eqIntSS.f
  refine ev_pos rfl ?_
  have key : ∀ i, i ≤ xs.length → Ev (fun k => laws_eqIntSS.l0 k xs xs (i : Int)) true := by
    refine up_to _ ?_ ?_
    · exact Ev.step (fun k => rfl) (ev_neg (by omega) (Ev.now true))
    · intro i hi ih
      have e := ev_eqIntS (rd_L1 xs (i : Int)) (rd_L1 xs (i : Int)) (hr _ (rdr_mem hi))
      rw [decide_eq_true rfl] at e
      refine Ev.step (fun k => rfl) (ev_pos (by omega) (ev_pos (by omega) (ev_pos (by omega) (Ev.bind e (ev_true ?_)))))
      rw [wr1 (by omega)]
      exact ih
  exact key 0 (Nat.zero_le _)
theorem marks_snoc : ∀ (n : Nat) (a : Int), marks a (n + 1) = marks a n ++ [a + (n : Int)]
  | 0, a => by simp [marks]
  | n + 1, a => by
    rw [marks, marks_snoc n (a + 1), marks, List.cons_append]
    congr 3
    omega
theorem ev_markIntS (xs : List Int) (a : Int) (h0 : 0 ≤ a) (h1 : a + (xs.length : Int) ≤ 140737488355328) : Ev (fun k => laws_markIntS.f k xs a) (a + (xs.length : Int), marks a xs.length) := by
  unfold laws_markIntS.f
  have key : ∀ i, i ≤ xs.length → Ev (fun k => laws_markIntS.l0 k (marks a i ++ xs.drop i) (a + (i : Int)) (i : Int)) (a + (xs.length : Int), marks a xs.length) := by
    have hl : ∀ i, i ≤ xs.length → ((marks a i ++ xs.drop i).length : Int) = (xs.length : Int) := by intro i hi; simp [marks_length]; omega
    refine up_to _ ?_ ?_
    · refine Ev.step (fun k => rfl) (ev_neg (by rw [hl _ (Nat.le_refl _)]; omega) (ev_const ?_))
      rw [drop_all (Nat.le_refl _), List.append_nil]
    · intro i hi ih
      refine Ev.step (fun k => rfl) (ev_pos (by rw [hl _ (by omega)]; omega) (ev_pos (by omega) ?_))
      rw [wr1 (by omega), wr (by omega) (by omega)]
      have e : (marks a i ++ xs.drop i).set ((i : Int).toNat) (a + (i : Int)) = marks a (i + 1) ++ xs.drop (i + 1) := by
        rw [drop_rd hi, Int.toNat_natCast, List.set_append_right _ _ (by rw [marks_length]; exact Nat.le_refl _), marks_length, Nat.sub_self, List.set_cons_zero, marks_snoc]
        simp
      have e2 : a + (i : Int) + 1 = a + ((i + 1 : Nat) : Int) := by omega
      rw [e, e2]
      exact ih
  have := key 0 (Nat.zero_le _)
  simpa [marks] using this
theorem ev_heldIntS_from (n : Nat) : ∀ (ys : List Int) (a : Int) (xs : List Int), xs = ys ++ marks a n → 0 ≤ a → a + (n : Int) ≤ 140737488355328 → (ys.length : Int) + (n : Int) ≤ 140737488355328 → Ev (fun k => laws_heldIntS.l0 k xs a (ys.length : Int)) (a + (n : Int)) := by
  induction n with
  | zero =>
    intro ys a xs e h0 h1 h2
    subst e
    refine Ev.step (fun k => rfl) (ev_neg (by simp [marks]) (ev_const ?_))
    simp
  | succ n ih =>
    intro ys a xs e h0 h1 h2
    have hl : xs.length = ys.length + (n + 1) := by rw [e]; simp [marks_length]
    have hr : rd xs (ys.length : Int) = a := by
      rw [rd_get (by omega)]
      subst e
      rw [List.getElem_append_right (Nat.le_refl _)]
      simp [marks]
    refine Ev.step (fun k => rfl) (ev_pos (by omega) (ev_pos (by omega) (ev_pos hr ?_)))
    rw [wr1 (by omega), wr (by omega) (by omega)]
    have := ih (ys ++ [a]) (a + 1) xs (by rw [e]; simp [marks]) (by omega) (by omega) (by simp; omega)
    rw [List.length_append, List.length_singleton] at this
    refine ev_eq ?_ this
    omega
theorem ev_heldIntS (a : Int) (n : Nat) (h0 : 0 ≤ a) (h1 : a + (n : Int) ≤ 140737488355328) : Ev (fun k => laws_heldIntS.f k (marks a n) a) (a + (n : Int)) := by
  unfold laws_heldIntS.f
  exact ev_heldIntS_from n [] a (marks a n) rfl h0 h1 (by simp; omega)
theorem marksS_length : ∀ (xs : List (List Int)) (a : Int), (marksS a xs).length = xs.length
  | [], _ => rfl
  | r :: xs, a => by simp [marksS, marksS_length xs]
theorem ev_heldIntSS_from (zs xs : List (List Int)) : ∀ (ys : List (List Int)) (a : Int), zs = ys ++ marksS a xs → 0 ≤ a → a + (tot xs : Int) ≤ 140737488355328 → (ys.length : Int) + (xs.length : Int) ≤ 140737488355328 → Ev (fun k => laws_heldIntSS.l0 k zs a (ys.length : Int)) (a + (tot xs : Int)) := by
  induction xs with
  | nil =>
    intro ys a e h0 h1 h2
    have hl : zs.length = ys.length := by rw [e]; simp [marksS]
    refine Ev.step (fun k => rfl) (ev_neg (by omega) (ev_const ?_))
    simp [tot]
  | cons r xs ih =>
    intro ys a e h0 h1 h2
    have hl : zs.length = ys.length + (xs.length + 1) := by rw [e]; simp [marksS_length]
    have hr : rd_L1 zs (ys.length : Int) = marks a r.length := by
      rw [rdr_get (by omega)]
      subst e
      rw [List.getElem_append_right (Nat.le_refl _)]
      simp [marksS]
    rw [tot_cons] at h1 ⊢
    refine Ev.step (fun k => rfl) (ev_pos (by omega) (ev_pos (by omega) ?_))
    have eh := ev_heldIntS a r.length h0 (by omega)
    rw [← hr] at eh
    refine Ev.bind eh (ev_neg (by omega) ?_)
    rw [wr1 (by simp at h2; omega)]
    have := ih (ys ++ [marks a r.length]) (a + (r.length : Int)) (by rw [e]; simp [marksS]) (by omega) (by omega) (by simp at h2 ⊢; omega)
    rw [List.length_append, List.length_singleton] at this
    refine ev_eq ?_ this
    omega
theorem ev_heldIntSS (a : Int) (xs : List (List Int)) (h0 : 0 ≤ a) (h1 : a + (tot xs : Int) ≤ 140737488355328) (h2 : (xs.length : Int) ≤ 140737488355328) : Ev (fun k => laws_heldIntSS.f k (marksS a xs) a) (a + (tot xs : Int)) := by
  unfold laws_heldIntSS.f
  exact ev_heldIntSS_from (marksS a xs) xs [] a rfl h0 h1 (by simp; omega)
end Go.Proofs.Ythhfgegdncggcaa.Pure

/- The laws' helpers as contracts over stretches of blocks: a row of numbers, or of rows of numbers, that lies in the blocks lo to hi alone. Condition: sizes as the laws' guards let them in. -/
namespace Go.Proofs.Ythhfgegdncggcaa.Law
open Go.RowKit Go.Proofs.Ythhfgegdncggcaa.X Go.Proofs.Ythhfgegdncggcaa.Pure Go.Proofs.YthhfgegdncggcaaW.PrintWords Go.Proofs.YthhfgegdncggcaaW.PrintMore
set_option linter.unusedVariables false

/-- Numbers that lie in the blocks from lo to hi. -/
def IntsAt (W : World) (lo hi : Nat) (v : Value) (xs : List Int) : Prop := Kd.R (Kd.int .i64) 3 W lo (fun k => lo ≤ k ∧ k < hi) v xs
theorem IntsAt.mk_ {w w' : World} {v : Value} {xs : List Int} (h : Kd.R (Kd.int .i64) 3 w' w.heap.size (fun _ => True) v xs) : IntsAt w' w.heap.size w'.heap.size v xs :=
  Kd.R_mono (Kd.R_bound h) (fun k hk => ⟨hk.2.1, hk.2.2.1⟩)
theorem IntsAt.kept {W W' : World} {lo hi : Nat} {v : Value} {xs : List Int} {S : Nat → Prop} (h : IntsAt W lo hi v xs) (hk : Kept W W' S) (hd : ∀ k, S k → k < lo ∨ hi ≤ k) : IntsAt W' lo hi v xs :=
  Kd.R_step h (fun k ho hlt => hk.2 k hlt (fun hs => by have := hd k hs; omega))
theorem IntsAt.below {W W' : World} {lo hi : Nat} {v : Value} {xs : List Int} (h : IntsAt W lo hi v xs) (hb : Below W.heap.size W W') : IntsAt W' lo hi v xs := Kd.R_below h hb
theorem IntsAt.shape {W : World} {lo hi : Nat} {v : Value} {xs : List Int} (h : IntsAt W lo hi v xs) : ∃ A c, v = .slice A xs.length c ∧ xs.length ≤ c ∧ Kd.C (Kd.int .i64) W A xs.length xs := Kd.R_reads h
theorem IntsAt.reads {W : World} {lo hi : Nat} {A : Option Addr} {n c : Nat} {xs : List Int} (h : IntsAt W lo hi (.slice A n c) xs) : n = xs.length ∧ n ≤ c ∧ Kd.C (Kd.int .i64) W A xs.length xs := Kd.R_reads' h

/-- Numbers that are only read, in blocks from lo to hi. -/
def ViewAt (W : World) (lo hi : Nat) (v : Value) (xs : List Int) : Prop := Kd.V (Kd.int .i64) 3 W lo (fun k => lo ≤ k ∧ k < hi) v xs
theorem ViewAt.mk_ {w w' : World} {v : Value} {xs : List Int} (h : Kd.V (Kd.int .i64) 3 w' w.heap.size (fun k => w.heap.size ≤ k) v xs) : ViewAt w' w.heap.size w'.heap.size v xs := Kd.V_bound h
theorem ViewAt.kept {W W' : World} {lo hi : Nat} {v : Value} {xs : List Int} {S : Nat → Prop} (h : ViewAt W lo hi v xs) (hk : Kept W W' S) (hd : ∀ k, S k → k < lo ∨ hi ≤ k) : ViewAt W' lo hi v xs :=
  Kd.V_step h (fun k ho hlt => hk.2 k hlt (fun hs => by have := hd k hs; omega))
theorem ViewAt.below {W W' : World} {lo hi : Nat} {v : Value} {xs : List Int} (h : ViewAt W lo hi v xs) (hb : Below W.heap.size W W') : ViewAt W' lo hi v xs := Kd.V_below h hb
theorem ViewAt.reads {W : World} {lo hi : Nat} {A : Option Addr} {n c : Nat} {xs : List Int} (h : ViewAt W lo hi (.slice A n c) xs) : n = xs.length ∧ n ≤ c ∧ Kd.C (Kd.int .i64) W A xs.length xs := Kd.V_reads' h
theorem ViewAt.shape {W : World} {lo hi : Nat} {v : Value} {xs : List Int} (h : ViewAt W lo hi v xs) : ∃ A c, v = .slice A xs.length c ∧ xs.length ≤ c ∧ Kd.C (Kd.int .i64) W A xs.length xs := by
  obtain ⟨A, c, e⟩ := Kd.V_slice h
  subst e
  exact ⟨A, c, rfl, (Kd.V_reads' h).2.1, (Kd.V_reads' h).2.2⟩

/-- Rows of numbers, the whole and each row in a block of its own, all of them from lo to hi. -/
def RowsAt (W : World) (lo hi : Nat) (v : Value) (xs : List (List Int)) : Prop :=
  ∃ (A : Option Addr) (c : Nat) (cell : Nat → Value) (f : Nat → Nat), v = .slice A xs.length c ∧ xs.length ≤ c ∧ xs.length ≤ 9223372036854775807 ∧
    ∀ j, j < xs.length → ∃ g, A = some ⟨g, 0, none⟩ ∧ lo ≤ g ∧ g < hi ∧ W.cell? ⟨g, j, none⟩ = some (cell j) ∧ Kd.R (Kd.int .i64) 3 W lo (fun k => lo ≤ k ∧ k < hi ∧ k ≠ g ∧ f k = j) (cell j) (xs.getD j [])
theorem RowsAt.mk_ {w w' : World} {v : Value} {xs : List (List Int)} (h : Kd.S (Kd.slice 3 (Kd.int .i64)) 23 w' w.heap.size (fun _ => True) v xs) : RowsAt w' w.heap.size w'.heap.size v xs := by
  obtain ⟨A, c, rfl, hlc, hr⟩ := Kd.S_reads h
  have hb := Kd.S_bound h
  obtain ⟨f, hR⟩ := hb
  have each : ∀ j, j < xs.length → ∃ cell : Value, ∃ g, A = some ⟨g, 0, none⟩ ∧ w.heap.size ≤ g ∧ g < w'.heap.size ∧ w'.cell? ⟨g, j, none⟩ = some cell ∧ Kd.R (Kd.int .i64) 3 w' w.heap.size (fun k => w.heap.size ≤ k ∧ k < w'.heap.size ∧ k ≠ g ∧ f k = j) cell (xs.getD j []) := by
    intro j hj
    obtain ⟨ad, e, _⟩ := hr.2.2 (by omega)
    subst e
    obtain ⟨g, rfl⟩ := Kd.R_head hR
    have hg := hR.1 g (by simp [Value.ownBlock])
    obtain ⟨cs, hcl, hM, hcc⟩ := Kd.R_getA (n := xs.length) hR ([], 0) (j : Int) (by omega) (by omega)
    rw [Int.toNat_natCast] at hM hcc
    have hz : xs.zipIdx.getD j ([], 0) = (xs.getD j [], j) := by
      rw [List.getD_eq_getElem?_getD, List.getD_eq_getElem?_getD, List.getElem?_zipIdx, List.getElem?_eq_getElem hj]
      simp
    rw [hz] at hM
    obtain ⟨cell, rfl, hMR⟩ := (show ∃ v, cs = [v] ∧ (Kd.int .i64).R 3 w' w.heap.size _ v (xs.getD j []) from hM)
    refine ⟨cell, g, rfl, hg.2.1, hg.2.2.1, ?_, ?_⟩
    · have h0 := hcc 0 cell rfl
      have e1 : (⟨g, 0, none⟩ : Addr).add (j * (Kd.tag f (Kd.slice 3 (Kd.int .i64))).sz + 0) = ⟨g, j, none⟩ := by
        rw [add_plain, show (Kd.tag f (Kd.slice 3 (Kd.int .i64))).sz = 1 from rfl, Nat.mul_one, Nat.add_zero]
      rwa [e1] at h0
    · exact Kd.R_mono hMR (fun k hk => ⟨hk.1.1.2.1, hk.1.1.2.2.1, fun e => hk.1.2 (by rw [e]; simp [Value.ownBlock]), hk.2⟩)
  obtain ⟨cell, hcell⟩ := Ext.chosen each
  exact ⟨A, c, cell, f, rfl, hlc, hr.2.1, hcell⟩
theorem RowsAt.kept {W W' : World} {lo hi : Nat} {v : Value} {xs : List (List Int)} {S : Nat → Prop} (h : RowsAt W lo hi v xs) (hk : Kept W W' S) (hd : ∀ k, S k → k < lo ∨ hi ≤ k) : RowsAt W' lo hi v xs := by
  obtain ⟨A, c, cell, f, rfl, h1, h2, h3⟩ := h
  refine ⟨A, c, cell, f, rfl, h1, h2, fun j hj => ?_⟩
  obtain ⟨g, e, hlo, hhi, hc, hR⟩ := h3 j hj
  exact ⟨g, e, hlo, hhi, cell_kept hc hk (fun hs => by have := hd _ hs; simp at this; omega), Kd.R_step hR (fun k ho hlt => hk.2 k hlt (fun hs => by have := hd k hs; omega))⟩
theorem RowsAt.below {W W' : World} {lo hi : Nat} {v : Value} {xs : List (List Int)} (h : RowsAt W lo hi v xs) (hb : Below W.heap.size W W') : RowsAt W' lo hi v xs := h.kept (Kept.of_below hb (fun _ => False)) (fun _ hk => hk.elim)
theorem RowsAt.shape {W : World} {lo hi : Nat} {v : Value} {xs : List (List Int)} (h : RowsAt W lo hi v xs) : ∃ A c, v = .slice A xs.length c ∧ xs.length ≤ c ∧ Kd.C (Kd.slice 3 (Kd.int .i64)) W A xs.length xs := by
  obtain ⟨A, c, cell, f, rfl, h1, h2, h3⟩ := h
  refine ⟨A, c, rfl, h1, rfl, h2, fun hp => ?_⟩
  obtain ⟨g, rfl, _⟩ := h3 0 hp
  refine ⟨_, rfl, fun j p hj => ?_⟩
  obtain ⟨hjl, rfl⟩ := List.getElem?_eq_some_iff.1 hj
  obtain ⟨g', e, _, _, hc, hR⟩ := h3 j hjl
  injection e with e
  injection e with e
  subst e
  obtain ⟨A', c', e', hl', hr'⟩ := Kd.R_reads hR
  have hx : xs.getD j [] = xs[j] := by simp [hjl]
  rw [hx] at e' hl' hr'
  refine ⟨[cell j], rfl, ⟨A', c', by rw [e'], hl', hr'⟩, fun i u hu => ?_⟩
  cases i with
  | zero =>
    have : cell j = u := by simpa using hu
    subst this
    rw [add_plain, show (Kd.slice 3 (Kd.int .i64)).sz = 1 from rfl, Nat.mul_one, Nat.add_zero]
    exact hc
  | succ i => simp at hu
theorem RowsAt.reads {W : World} {lo hi : Nat} {A : Option Addr} {n c : Nat} {xs : List (List Int)} (h : RowsAt W lo hi (.slice A n c) xs) : n = xs.length ∧ n ≤ c ∧ Kd.C (Kd.slice 3 (Kd.int .i64)) W A xs.length xs := by
  obtain ⟨A', c', e, h1, h2⟩ := h.shape
  injection e with e1 e2 e3
  subst e1 e3
  exact ⟨e2, by omega, h2⟩
/-- Row j, and what is known once its block alone was written. -/
theorem RowsAt.row {W : World} {lo hi : Nat} {A : Option Addr} {n c : Nat} {xs : List (List Int)} (h : RowsAt W lo hi (.slice A n c) xs) (j : Nat) (hj : j < xs.length) :
    ∃ (ad : Addr) (u : Value), A = some ad ∧ W.cell? (ad.add j) = some u ∧ (∀ k, u.ownBlock = some k → lo ≤ k ∧ k < hi) ∧ Kd.R (Kd.int .i64) 3 W lo (fun k => some k = u.ownBlock) u (xs.getD j []) ∧
      ∀ (W' : World) (r : List Int), Kept W W' (fun k => some k = u.ownBlock) → Kd.R (Kd.int .i64) 3 W' lo (fun k => some k = u.ownBlock) u r → RowsAt W' lo hi (.slice A n c) (xs.set j r) := by
  obtain ⟨A', c', cell, f, e, h1, h2, h3⟩ := h
  injection e with e1 e2 e3
  subst e1 e2 e3
  obtain ⟨g, rfl, hlo, hhi, hc, hR⟩ := h3 j hj
  have hne : ∀ k, (cell j).ownBlock = some k → lo ≤ k ∧ k < hi ∧ k ≠ g ∧ f k = j := fun k hk => hR.1 k hk
  refine ⟨⟨g, 0, none⟩, cell j, rfl, by rw [add_plain]; exact hc, fun k hk => ⟨(hne k hk).1, (hne k hk).2.1⟩, Kd.R_tight rfl hR, fun W' r hk hr => ?_⟩
  refine ⟨some ⟨g, 0, none⟩, c, cell, f, by rw [List.length_set], by rw [List.length_set]; exact h1, by rw [List.length_set]; exact h2, fun i hi' => ?_⟩
  rw [List.length_set] at hi'
  obtain ⟨g', e, hlo', hhi', hc', hR'⟩ := h3 i hi'
  injection e with e
  injection e with e
  subst e
  refine ⟨g, rfl, hlo, hhi, cell_kept hc' hk (fun hs => (hne _ hs.symm).2.2.1 rfl), ?_⟩
  by_cases hij : i = j
  · subst hij
    have : (xs.set i r).getD i [] = r := by rw [List.getD_eq_getElem?_getD, List.getElem?_set_self hj]; rfl
    rw [this]
    exact Kd.R_mono hr (fun k hk => hne k hk.symm)
  · have : (xs.set j r).getD i [] = xs.getD i [] := by rw [List.getD_eq_getElem?_getD, List.getD_eq_getElem?_getD, List.getElem?_set_ne (fun e => hij e.symm)]
    rw [this]
    exact Kd.R_step hR' (fun k ho hlt => hk.2 k hlt (fun hs => hij (by rw [← ho.2.2.2, (hne k hs.symm).2.2.2])))

theorem toIntS_law (A : Option Addr) (c : Nat) (l : List Int) (w : World) (hr : Kd.C (Kd.int .i64) w A l.length l) (hc : l.length ≤ c) (hn : l.length ≤ 1048576) :
    Calls Try.prog 14 #[.slice A l.length c] w fun e w' => ∃ v, e = .returned v ∧ IntsAt w' w.heap.size w'.heap.size v l ∧ Below w.heap.size w w' := by
  obtain ⟨k, hk⟩ := Ev.rounds (ev_toIntS l (by omega))
  exact (laws_toIntS.calls k A c l l w hr hc hk).mono fun e w' ⟨v, he, ho, hb⟩ => ⟨v, he, IntsAt.mk_ ho, hb⟩
theorem toIntSS_law (A : Option Addr) (c : Nat) (l : List (List Int)) (w : World) (hr : Kd.C (Kd.slice 3 (Kd.int .i64)) w A l.length l) (hc : l.length ≤ c) (hn : l.length + tot l ≤ 1048576) :
    Calls Try.prog 13 #[.slice A l.length c] w fun e w' => ∃ v, e = .returned v ∧ RowsAt w' w.heap.size w'.heap.size v l ∧ Below w.heap.size w w' := by
  obtain ⟨k, hk⟩ := Ev.rounds (ev_toIntSS l (by omega) (fun r hr => by have := tot_mem hr; omega))
  exact (laws_toIntSS.calls k A c l l w hr hc hk).mono fun e w' ⟨v, he, ho, hb⟩ => ⟨v, he, RowsAt.mk_ ho, hb⟩
theorem eqIntS_law (A A' : Option Addr) (c c' : Nat) (l : List Int) (w : World) (hr : Kd.C (Kd.int .i64) w A l.length l) (hc : l.length ≤ c) (hr' : Kd.C (Kd.int .i64) w A' l.length l) (hc' : l.length ≤ c') (hn : (l.length : Int) ≤ 140737488355328) :
    Calls Try.prog 17 #[.slice A l.length c, .slice A' l.length c'] w fun e w' => e = .returned (.bool true) ∧ Below w.heap.size w w' := by
  have h0 := ev_eqIntS l l hn
  rw [decide_eq_true rfl] at h0
  obtain ⟨k, hk⟩ := Ev.rounds h0
  exact (laws_eqIntS.calls k A c l A' c' l true w hr hc hr' hc' hk).mono fun e w' ⟨he, hd⟩ => ⟨he, hd.below⟩
theorem eqIntSS_law (A A' : Option Addr) (c c' : Nat) (l : List (List Int)) (w : World) (hr : Kd.C (Kd.slice 3 (Kd.int .i64)) w A l.length l) (hc : l.length ≤ c) (hr' : Kd.C (Kd.slice 3 (Kd.int .i64)) w A' l.length l) (hc' : l.length ≤ c') (hn : l.length + tot l ≤ 140737488355328) :
    Calls Try.prog 16 #[.slice A l.length c, .slice A' l.length c'] w fun e w' => e = .returned (.bool true) ∧ Below w.heap.size w w' := by
  obtain ⟨k, hk⟩ := Ev.rounds (ev_eqIntSS l (by omega) (fun r hr => by have := tot_mem hr; omega))
  exact (laws_eqIntSS.calls k A c l A' c' l true w hr hc hr' hc' hk).mono fun e w' ⟨he, hd⟩ => ⟨he, hd.below⟩
/-- What szIntSS leaves. -/
def szOf (xs : List (List Int)) (left : Int) : Int := if (xs.length : Int) + (tot xs : Int) ≤ left then left - ((xs.length : Int) + (tot xs : Int)) else -1
theorem szIntSS_law (A : Option Addr) (c : Nat) (l : List (List Int)) (left : Int) (w : World) (hr : Kd.C (Kd.slice 3 (Kd.int .i64)) w A l.length l) (hc : l.length ≤ c) (h0 : 0 ≤ left) (h1 : left ≤ 1048576) (hn : (l.length : Int) ≤ 140737488355328) (hrow : ∀ r ∈ l, (r.length : Int) ≤ 9223372036854775807) :
    Calls Try.prog 11 #[.slice A l.length c, .int .i64 left] w fun e w' => e = .returned (.int .i64 (szOf l left)) ∧ Below w.heap.size w w' := by
  obtain ⟨k, hk⟩ := Ev.rounds (ev_szIntSS l left h0 h1 hn hrow)
  exact (laws_szIntSS.calls k A c l left _ w hr hc hk).mono fun e w' ⟨he, hd⟩ => ⟨he, hd.below⟩
theorem markIntS_law0 (P : Nat → Prop) (v : Value) (l : List Int) (a : Int) (w0 w : World) (hB : Below w0.heap.size w0 w) (ho : Kd.R (Kd.int .i64) 3 w w0.heap.size P v l) (h0 : 0 ≤ a) (h1 : a + (l.length : Int) ≤ 140737488355328) :
    Calls Try.prog 19 #[v, .int .i64 a] w fun e w' => e = .returned (.int .i64 (a + (l.length : Int))) ∧ Kd.R (Kd.int .i64) 3 w' w0.heap.size (fun k => some k = v.ownBlock) v (marks a l.length) ∧ Below w0.heap.size w0 w' ∧ Kept w w' P := by
  obtain ⟨k, hk⟩ := Ev.rounds (ev_markIntS l a h0 h1)
  exact (laws_markIntS.calls k P v l a _ _ w0 w hB ho hk).mono fun e w' ⟨he, hr, hb, hkp⟩ => ⟨he, Kd.R_tight rfl hr, hb, hkp⟩
theorem markIntS_law (lo hi : Nat) (v : Value) (l : List Int) (a : Int) (w0 w : World) (hB : Below w0.heap.size w0 w) (ho : IntsAt w lo hi v l) (hlo : w0.heap.size ≤ lo) (h0 : 0 ≤ a) (h1 : a + (l.length : Int) ≤ 140737488355328) :
    Calls Try.prog 19 #[v, .int .i64 a] w fun e w' => e = .returned (.int .i64 (a + (l.length : Int))) ∧ IntsAt w' lo hi v (marks a l.length) ∧ Below w0.heap.size w0 w' ∧ Kept w w' (fun k => lo ≤ k ∧ k < hi) := by
  refine (markIntS_law0 (fun k => lo ≤ k ∧ k < hi) v l a w0 w hB (Kd.R_lower ho hlo) h0 h1).mono ?_
  rintro e w' ⟨he, hr, hb, hk⟩
  refine ⟨he, ?_, hb, hk⟩
  have hb2 : ∀ k, v.ownBlock = some k → lo ≤ k ∧ k < hi := fun k hk => ho.1 k hk
  obtain ⟨_, inner, ho2, hreps⟩ := hr
  refine ⟨fun k hk => hb2 k hk, inner, ?_, hreps⟩
  rcases ho2.2 with h | ⟨g, cap, cur, e1, hg, rest⟩
  · exact ⟨ho2.1, .inl h⟩
  · exact ⟨ho2.1, .inr ⟨g, cap, cur, e1, (hb2 g (by rw [e1]; simp [Value.ownBlock])).1, rest⟩⟩
theorem heldIntSS_law (A : Option Addr) (c : Nat) (a : Int) (xs : List (List Int)) (w : World) (hr : Kd.C (Kd.slice 3 (Kd.int .i64)) w A (marksS a xs).length (marksS a xs)) (hc : (marksS a xs).length ≤ c) (h0 : 0 ≤ a) (h1 : a + (tot xs : Int) ≤ 140737488355328) (h2 : (xs.length : Int) ≤ 140737488355328) :
    Calls Try.prog 20 #[.slice A (marksS a xs).length c, .int .i64 a] w fun e w' => e = .returned (.int .i64 (a + (tot xs : Int))) ∧ Below w.heap.size w w' := by
  obtain ⟨k, hk⟩ := Ev.rounds (ev_heldIntSS a xs h0 h1 h2)
  exact (laws_heldIntSS.calls k A c (marksS a xs) a _ w hr hc hk).mono fun e w' ⟨he, hd⟩ => ⟨he, hd.below⟩

theorem heldIntSS_at {W : World} {lo hi : Nat} {A : Option Addr} {m c : Nat} {a : Int} {xs : List (List Int)} (h : RowsAt W lo hi (.slice A m c) (marksS a xs)) (hb : 0 ≤ a ∧ a + (tot xs : Int) ≤ 140737488355328 ∧ (xs.length : Int) ≤ 140737488355328) :
    Calls Try.prog 20 #[.slice A m c, .int .i64 a] W fun e w' => e = .returned (.int .i64 (a + (tot xs : Int))) ∧ Below W.heap.size W w' := by
  obtain ⟨rfl, h1, h2⟩ := h.reads
  exact heldIntSS_law A c a xs W h2 h1 hb.1 hb.2.1 hb.2.2

theorem marksS_step (a : Int) (xs : List (List Int)) (j : Nat) (hj : j < xs.length) :
    (marksS a (xs.take j) ++ xs.drop j).set j (marks (a + (tot (xs.take j) : Int)) (xs.getD j []).length) = marksS a (xs.take (j + 1)) ++ xs.drop (j + 1) ∧ tot (xs.take (j + 1)) = tot (xs.take j) + (xs.getD j []).length ∧ (marksS a (xs.take j) ++ xs.drop j).getD j [] = xs.getD j [] := by
  have hg : xs.getD j [] = xs[j] := by simp [hj]
  have ht : xs.take (j + 1) = xs.take j ++ [xs[j]] := List.take_succ_eq_append_getElem hj
  have hm : ∀ (ys : List (List Int)) (a : Int) (r : List Int), marksS a (ys ++ [r]) = marksS a ys ++ [marks (a + (tot ys : Int)) r.length] := by
    intro ys
    induction ys with
    | nil => intro a r; simp [marksS, tot]
    | cons y ys ih =>
      intro a r
      simp only [List.cons_append, marksS]
      rw [ih, tot_cons]
      have : a + (y.length : Int) + (tot ys : Int) = a + ((y.length + tot ys : Nat) : Int) := by omega
      rw [this]
  have hl : (marksS a (xs.take j)).length = j := by rw [marksS_length]; simp; omega
  rw [hg]
  refine ⟨?_, ?_, ?_⟩
  · rw [ht, hm, List.drop_eq_getElem_cons hj, List.set_append_right _ _ (by omega), hl, Nat.sub_self, List.set_cons_zero]
    simp
  · rw [ht, tot_append]
    simp [tot]
  · rw [List.getD_eq_getElem?_getD, List.getElem?_append_right (by omega), hl, Nat.sub_self, List.drop_eq_getElem_cons hj]
    rfl
set_option maxHeartbeats 4000000 in
theorem markIntSS_law (lo hi : Nat) (A : Option Addr) (n c : Nat) (xs : List (List Int)) (a : Int) (w0 w : World) (hB : Below w0.heap.size w0 w) (ho : RowsAt w lo hi (.slice A n c) xs) (hlo : w0.heap.size ≤ lo) (h0 : 0 ≤ a) (h1 : a + (tot xs : Int) ≤ 140737488355328) (hn : n ≤ 1048576) :
    Calls Try.prog 18 #[.slice A n c, .int .i64 a] w fun e w' => e = .returned (.int .i64 (a + (tot xs : Int))) ∧ RowsAt w' lo hi (.slice A n c) (marksS a xs) ∧ Below w0.heap.size w0 w' ∧ Kept w w' (fun k => lo ≤ k ∧ k < hi) := by
  have hnx : n = xs.length := ho.reads.1
  have HO := Aside0.mk ho
  have HB0 := Aside0.mk hB
  have HL := Aside0.mk hlo
  have HX := Aside0.mk h1
  have HN := Aside0.mk hnx
  clear ho hB hlo hnx h1
  go_enter Try.func18, Try.ntmps18
  go_wp2
  go_loopg [1, 5] n (fun gg s1 s5 wr => ∃ j : Nat, j ≤ n ∧ n - j ≤ gg ∧ s5 = .int .i64 j ∧ s1 = .int .i64 (a + (tot (xs.take j) : Int)) ∧ Aside0 (RowsAt wr lo hi (.slice A n c) (marksS a (xs.take j) ++ xs.drop j)) ∧ Aside0 (Below w0.heap.size w0 wr) ∧ Aside0 (Kept w wr (fun k => lo ≤ k ∧ k < hi)))
  case atStart => exact ⟨0, Nat.zero_le _, by omega, rfl, by simp [tot], ⟨by simpa [marksS] using HO.out⟩, HB0, ⟨Kept.refl _ _⟩⟩
  case round =>
    clear HO HB0
    obtain ⟨j, hj, hg, rfl, rfl, HR, HB, HK⟩ := hrel
    by_cases hlt : j < n
    · have hltz : (j : Int) < (n : Int) := by omega
      have hjx : j < xs.length := by rw [← HN.out]; exact hlt
      obtain ⟨e1, e2, e3⟩ := marksS_step a xs j hjx
      obtain ⟨ad, u, rfl, hcell, hub, hru, hnext⟩ := HR.out.row j (by rw [List.length_append, marksS_length]; simp; omega)
      rw [e3] at hru
      have hb1 : a + (tot (xs.take j) : Int) + ((xs.getD j []).length : Int) ≤ 140737488355328 := by
        have h2 : tot (xs.take (j + 1)) ≤ tot xs := by
          have := tot_append (xs.take (j + 1)) (xs.drop (j + 1))
          rw [List.take_append_drop] at this
          omega
        have := HX.out
        omega
      have hcall := markIntS_law0 (fun k => some k = u.ownBlock) u (xs.getD j []) (a + (tot (xs.take j) : Int)) w0 wr HB.out (Kd.R_lower hru HL.out) (by omega) hb1
      have E1 := Aside0.mk e1
      have E2 := Aside0.mk e2
      have HU := Aside0.mk hub
      have HNX := Aside0.mk hnext
      have HB1 := Aside0.mk hb1
      clear e1 e2 e3 hub hnext hru hb1 HR
      generalize hla : a + (tot (xs.take j) : Int) = aj at hcall
      have HLA := Aside0.mk hla
      clear hla
      go_wp2_with fail
      refine hcall.mono ?_
      rintro e w1 ⟨rfl, hr1, hb2, hk2⟩
      have HR1 := Aside0.mk (HNX.out w1 _ hk2 (by
        obtain ⟨_, inner, ho2, hreps⟩ := hr1
        refine ⟨fun k hk => hk.symm, inner, ?_, hreps⟩
        rcases ho2.2 with h | ⟨g, cap, cur, e1, hg, rest⟩
        · exact ⟨ho2.1, .inl h⟩
        · exact ⟨ho2.1, .inr ⟨g, cap, cur, e1, (HU.out g (by rw [e1]; simp [Value.ownBlock])).1, rest⟩⟩))
      have HB2 := Aside0.mk hb2
      have HK2 := Aside0.mk (Kept.then_ HK.out hk2 (fun k hk => .inl (HU.out k hk.symm)))
      clear hr1 hb2 hk2 HK HB HNX
      go_wp2
      go_roundg (n - (j + 1))
      case measure => omega
      case rel =>
        refine ⟨j + 1, by omega, by omega, by go_num, ?_, ⟨?_⟩, HB2, HK2⟩
        · have := E2.out
          have h4 := HLA.out
          have h5 : aj + ((xs.getD j []).length : Int) = a + (tot (xs.take (j + 1)) : Int) := by rw [E2.out]; omega
          rw [← h5]
          first | rfl | simp [List.getD_eq_getElem?_getD, hjx]
        · have h3 := HR1.out
          rw [← HLA.out, E1.out] at h3
          exact h3
    · have hltz : ¬ (j : Int) < (n : Int) := by omega
      have : j = n := by omega
      subst this
      have ht : xs.take j = xs := by rw [List.take_of_length_le]; have := HN.out; omega
      have hd : xs.drop j = [] := by rw [List.drop_of_length_le]; have := HN.out; omega
      rw [ht, hd, List.append_nil] at HR
      rw [ht]
      clear ht hd
      go_wp2
      go_ret
      exact ⟨rfl, HR.out, HB.out, HK.out⟩
end Go.Proofs.Ythhfgegdncggcaa.Law

/- Matrices, families, turned matrices, products of rows: what the program's functions come to. Condition: lists no longer than memory allows. -/
namespace Go.Proofs.Ythhfgegdncggcaa.Pure
open Go.RowKit Go.Proofs.Ythhfgegdncggcaa.X Go.Proofs.YthhfgegdncggcaaW.PrintWords Go.Proofs.YthhfgegdncggcaaW.PrintMore
set_option linter.unusedVariables false
set_option linter.unusedSimpArgs false

theorem rrd_get {xs : List (List Int)} {i : Nat} (h : i < xs.length) : rd_L1 xs (i : Int) = xs[i] := by simp [rd_L1, h]
theorem rrd_mem {xs : List (List Int)} {i : Nat} (h : i < xs.length) : rd_L1 xs (i : Int) ∈ xs := by rw [rrd_get h]; exact List.getElem_mem h
theorem drop_rrd {xs : List (List Int)} {i : Nat} (h : i < xs.length) : xs.drop i = rd_L1 xs (i : Int) :: xs.drop (i + 1) := by rw [List.drop_eq_getElem_cons h, rrd_get h]
theorem take_rrd {xs : List (List Int)} {i : Nat} (h : i < xs.length) : xs.take (i + 1) = xs.take i ++ [rd_L1 xs (i : Int)] := by rw [List.take_succ_eq_append_getElem h, rrd_get h]
theorem rrd_zero (xs : List (List Int)) : rd_L1 xs 0 = xs.getD 0 [] := rfl
theorem mn_min' (a b : Int) : mn a b = min a b := by unfold mn; omega

/-- Rows are no longer than memory. -/
def Short (l : List (List Int)) : Prop := (l.length : Int) ≤ 1048576 ∧ ∀ r ∈ l, (r.length : Int) ≤ 1048576
theorem len_le_sum {l : List (List Int)} {r : List Int} (h : r ∈ l) : r.length ≤ (l.map List.length).sum := by
  induction l with
  | nil => cases h
  | cons y ys ih =>
    simp only [List.map_cons, List.sum_cons]
    rcases List.mem_cons.1 h with rfl | h
    · omega
    · have := ih h
      omega
theorem short_of {l : List (List Int)} (h : l.length + (l.map List.length).sum ≤ 1048576) : Short l := by
  refine ⟨by omega, fun r hr => ?_⟩
  have : r.length ≤ (l.map List.length).sum := len_le_sum hr
  omega
/-- A matrix. -/
def matB (l : List (List Int)) : Bool := decide (1 ≤ l.length ∧ l.length ≤ 6) && l.all fun r => vecB r && decide (r.length = (l.getD 0 []).length)
theorem ev_isMatrix (l : List (List Int)) (h : Short l) : Ev (fun k => impl_isMatrix.f k l) (matB l) := by
  unfold impl_isMatrix.f
  refine Ev.bind (ev_const (within_eq _ _ _)) ?_
  by_cases h1 : 1 ≤ l.length ∧ l.length ≤ 6
  · refine ev_pos (by simp; omega) ?_
    have e : Ev (fun k => Ext.anyO (impl_isMatrix.g k l) l) (l.any fun r => !(vecB r && decide (r.length = (l.getD 0 []).length))) := by
      refine Ext.ev_anyO l fun r hr => ?_
      unfold impl_isMatrix.g
      refine Ev.bind (ev_isVector r (by have := h.2 r hr; omega)) ?_
      cases hv : vecB r with
      | false => exact ev_false (ev_const (by simp))
      | true =>
        refine ev_true (ev_const ?_)
        generalize (l.getD 0 []).length = m
        by_cases e : r.length = m
        · simp [e]
        · have e2 : ¬ ((r.length : Int) = (m : Int)) := by omega
          simp [e, e2]
    refine ev_bind0 e ?_
    simp only [matB, h1, and_self, decide_true, Bool.true_and]
    congr 1
    rw [List.any_eq_not_all_not]
    simp
  · refine ev_neg (by simp; omega) (ev_const ?_)
    simp [matB, h1]
/-- All rows have the length m. -/
def Wide (l : List (List Int)) (m : Nat) : Prop := ∀ r ∈ l, r.length = m
theorem matB_parts {l : List (List Int)} (h : matB l = true) : 1 ≤ l.length ∧ l.length ≤ 6 ∧ 1 ≤ (l.getD 0 []).length ∧ (l.getD 0 []).length ≤ 6 ∧ Wide l (l.getD 0 []).length ∧ ∀ r ∈ l, ∀ x ∈ r, numB x = true := by
  simp only [matB, Bool.and_eq_true, decide_eq_true_eq, List.all_eq_true, vecB] at h
  have h0 : l.getD 0 [] ∈ l := by
    cases l with
    | nil => simp at h
    | cons a t => simp
  have h1 := (h.2 _ h0).1.1
  exact ⟨h.1.1, h.1.2, h1.1, h1.2, fun r hr => (h.2 r hr).2, fun r hr x hx => (h.2 r hr).1.2 x hx⟩
theorem wide_rrd {l : List (List Int)} {m i : Nat} (h : Wide l m) (hi : i < l.length) : (rd_L1 l (i : Int)).length = m := h _ (rrd_mem hi)

/-- Column k. -/
def col (l : List (List Int)) (k : Nat) : List Int := l.map fun r => rd r (k : Int)
/-- The turned matrix of m columns. -/
def turned (l : List (List Int)) (m : Nat) : List (List Int) := (List.range m).map fun k => col l k
def trS (l : List (List Int)) (m i kk : Nat) : List (List Int) := (List.range m).map fun k => col (l.take (if k < kk then i + 1 else i)) k
theorem trS_length (l : List (List Int)) (m i kk : Nat) : (trS l m i kk).length = m := by simp [trS]
theorem trS_at (l : List (List Int)) {m i kk k : Nat} (h : k < m) : rd_L1 (trS l m i kk) (k : Int) = col (l.take (if k < kk then i + 1 else i)) k := by
  rw [rrd_get (by rw [trS_length]; exact h)]
  simp [trS]
theorem trS_step (l : List (List Int)) {m i kk : Nat} (h : kk < m) (hi : i < l.length) : (trS l m i kk).set kk (rd_L1 (trS l m i kk) (kk : Int) ++ [rd (rd_L1 l (i : Int)) (kk : Int)]) = trS l m i (kk + 1) := by
  rw [trS_at l h, if_neg (Nat.lt_irrefl _)]
  apply List.ext_getElem
  · simp [trS]
  · intro j h1 h2
    simp only [trS, List.length_set, List.length_map, List.length_range] at h1
    rw [List.getElem_set]
    by_cases e : kk = j
    · subst e
      rw [if_pos rfl]
      simp only [trS, List.getElem_map, List.getElem_range]
      rw [if_pos (by omega), take_rrd hi, col, col, List.map_append]
      rfl
    · rw [if_neg e]
      simp only [trS, List.getElem_map, List.getElem_range]
      by_cases e2 : j < kk
      · rw [if_pos e2, if_pos (by omega)]
      · rw [if_neg e2, if_neg (by omega)]
theorem trS_full (l : List (List Int)) (m i : Nat) : trS l m i m = trS l m (i + 1) 0 := by
  unfold trS
  apply List.map_congr_left
  intro k hk
  rw [if_pos (List.mem_range.1 hk), if_neg (Nat.not_lt_zero k)]
theorem ev_transposed (l : List (List Int)) (h0 : 0 < l.length) (m : Nat) (hm : m = (l.getD 0 []).length) (hw : Wide l m) (hs : Short l) : Ev (fun k => impl_transposed.f k l) (turned l m) := by
  unfold impl_transposed.f
  have hm6 : m ≤ 1048576 := by
    have hx := hs.2 (rd_L1 l ((0 : Nat) : Int)) (rrd_mem h0)
    rw [show rd_L1 l ((0 : Nat) : Int) = l.getD 0 [] from rfl, ← hm] at hx
    omega
  have e0 : ((rd_L1 l 0).length : Int) = (m : Int) := by rw [rrd_zero, hm]
  refine ev_pos (by omega) (ev_pos (by omega) (ev_pos (by rw [e0]; omega) ?_))
  have e1 : (((rd_L1 l 0).length : Int) : Int).toNat = m := by rw [e0]; omega
  rw [e1]
  have key : ∀ i, i ≤ l.length → Ev (fun k => impl_transposed.l0 k (trS l m i 0) l (l.length : Int) (i : Int)) (turned l m) := by
    refine up_to _ ?_ ?_
    · refine Ev.step (fun k => rfl) (ev_neg (by omega) (ev_const ?_))
      simp [trS, turned]
    · intro i hi ih
      have hwi := wide_rrd hw hi
      refine Ev.step (fun k => rfl) (ev_pos (by omega) (ev_pos (by omega) (ev_pos (by omega) ?_)))
      have inner : ∀ kk, kk ≤ m → Ev (fun k => impl_transposed.l1 k (trS l m i kk) l (l.length : Int) (i : Int) (rd_L1 l (i : Int)) ((rd_L1 l (i : Int)).length : Int) (kk : Int)) (turned l m) := by
        refine up_to _ ?_ ?_
        · refine Ev.step (fun k => rfl) (ev_neg (by rw [hwi]; omega) ?_)
          rw [wr1 (by have := hs.1; omega), trS_full]
          exact ih
        · intro kk hkk ih2
          refine Ev.step (fun k => rfl) (ev_pos (by rw [hwi]; omega) (ev_pos (by omega) (ev_pos (by rw [hwi]; omega) (ev_pos (by rw [trS_length]; omega) (ev_pos ?_ ?_)))))
          · rw [trS_at l hkk, if_neg (Nat.lt_irrefl _), col, List.length_map, List.length_take]
            have := hs.1
            omega
          · rw [wr1 (by omega), Int.toNat_natCast, trS_step l hkk hi]
            exact ih2
      exact inner 0 (Nat.zero_le _)
  have := key 0 (Nat.zero_le _)
  refine ev_eq rfl ?_
  have e2 : trS l m 0 0 = List.replicate m [] := by
    apply List.ext_getElem
    · simp [trS]
    · intro j h1 h2
      simp [trS, col]
  rw [e2] at this
  exact this
theorem turned_length (l : List (List Int)) (m : Nat) : (turned l m).length = m := by simp [turned]
theorem turned_mem {l : List (List Int)} {m : Nat} {c : List Int} (h : c ∈ turned l m) : ∃ k, k < m ∧ c = col l k := by
  simp only [turned, List.mem_map, List.mem_range] at h
  obtain ⟨k, hk, rfl⟩ := h
  exact ⟨k, hk, rfl⟩

/-- The product of two numbers, Infinity let in. -/
def prodB (a b : Int) : Int := if a = 1000000000 then 1000000000 else if b = 1000000000 then 1000000000 else a + b
theorem product_eq {a b : Int} (h1 : -9000000000000000 ≤ a) (h2 : a ≤ 9000000000000000) (h3 : -9000000000000000 ≤ b) (h4 : b ≤ 9000000000000000) : impl_product.f a b = some (prodB a b) := by
  unfold impl_product.f prodB
  rw [wr (by omega) (by omega)]
  split
  · rfl
  · split <;> rfl

end Go.Proofs.Ythhfgegdncggcaa.Pure

/- The reference's test of a matrix and of a square one: the same as the program's. Condition: lists no longer than memory allows. -/
namespace Go.Proofs.Ythhfgegdncggcaa.Pure
open Go.RowKit Go.Proofs.Ythhfgegdncggcaa.X Go.Proofs.YthhfgegdncggcaaW.PrintWords Go.Proofs.YthhfgegdncggcaaW.PrintMore
set_option linter.unusedVariables false
set_option linter.unusedSimpArgs false

theorem nuGood_eq (n : Int) : spec_nuGood.f n = some (numB n) := by
  unfold spec_nuGood.f numB finB
  by_cases h : n = 1000000000
  · rw [if_pos h]; simp [h]
  · rw [if_neg h, l1In_eq]; simp [h]
theorem ev_mxVector (l : List Int) (hn : (l.length : Int) ≤ 140737488355328) : Ev (fun k => spec_mxVector.f k l) (vecB l) := by
  unfold spec_mxVector.f
  have key : ∀ i, i ≤ l.length → Ev (fun k => spec_mxVector.l0 k l l (l.length : Int) (i : Int)) (decide (1 ≤ l.length ∧ l.length ≤ 6) && (l.drop i).all numB) := by
    refine up_to _ ?_ ?_
    · rw [drop_all (Nat.le_refl _)]
      refine Ev.step (fun k => rfl) (ev_neg (by omega) (Ev.bind (ev_const (l1In_eq _ _ _)) (ev_const ?_)))
      rw [List.all_nil, Bool.and_true]
      congr 1
      rw [decide_eq_decide]
      omega
    · intro i hi ih
      rw [drop_rd hi, List.all_cons]
      refine Ev.step (fun k => rfl) (ev_pos (by omega) (ev_pos (by omega) (ev_pos (by omega) (Ev.bind (ev_const (nuGood_eq _)) ?_))))
      rw [wr1 (by omega)]
      cases hp : numB (rd l (i : Int)) with
      | true => exact ev_true (by simpa using ih)
      | false => exact ev_false (by simpa using Ev.now false)
  have := key 0 (Nat.zero_le _)
  simpa [vecB] using this
theorem ev_mxGood (l : List (List Int)) (h : Short l) : Ev (fun k => spec_mxGood.f k l) (matB l) := by
  unfold spec_mxGood.f
  refine Ev.bind (ev_const (l1In_eq _ _ _)) ?_
  by_cases h1 : 1 ≤ l.length ∧ l.length ≤ 6
  · refine ev_pos (by simp; omega) (ev_pos (by omega) (Ev.bind (ev_const (l1In_eq _ _ _)) ?_))
    rw [rrd_zero]
    by_cases h2 : 1 ≤ (l.getD 0 []).length ∧ (l.getD 0 []).length ≤ 6
    · refine ev_j (g := fun k x => spec_mxGood.j0 k l x) (fun _ _ => rfl) (fun hb => ?_) (fun _ => ?_)
      · exfalso
        simp at hb
        simp at h2
        omega
      have key : ∀ i, i ≤ l.length → Ev (fun k => spec_mxGood.l0 k l l (l.length : Int) (i : Int)) ((l.drop i).all fun r => vecB r && decide (r.length = (l.getD 0 []).length)) := by
        refine up_to _ ?_ ?_
        · rw [drop_all (Nat.le_refl _)]
          exact Ev.step (fun k => rfl) (ev_neg (by omega) (Ev.now _))
        · intro i hi ih
          rw [drop_rrd hi, List.all_cons]
          have hr := rrd_mem hi
          refine Ev.step (fun k => rfl) (ev_pos (by omega) (ev_pos (by omega) (ev_pos (by omega) (ev_pos (by omega) ?_))))
          by_cases e : (rd_L1 l (i : Int)).length = (l.getD 0 []).length
          · refine ev_pos (by rw [rrd_zero]; omega) (Ev.bind (ev_mxVector _ (by have := h.2 _ hr; omega)) ?_)
            cases hv : vecB (rd_L1 l (i : Int)) with
            | false => exact ev_false (ev_const (by simp))
            | true =>
              refine ev_true ?_
              rw [wr1 (by have := h.1; omega)]
              refine ev_eq ?_ ih
              rw [decide_eq_true e]
              simp
          · refine ev_neg (by rw [rrd_zero]; omega) (ev_const ?_)
            rw [decide_eq_false e]
            simp
      have := key 0 (Nat.zero_le _)
      simpa [matB, h1] using this
    · refine ev_j (g := fun k x => spec_mxGood.j0 k l x) (fun _ _ => rfl) (fun _ => ev_const ?_) (fun hb => ?_)
      rotate_left
      · exfalso
        simp at hb
        simp at h2
        omega
      cases hm : matB l with
      | false => rfl
      | true => have := matB_parts hm; exact absurd ⟨this.2.2.1, this.2.2.2.1⟩ h2
  · refine ev_neg (by simp; omega) (ev_j (g := fun k x => spec_mxGood.j0 k l x) (fun _ _ => rfl) (fun _ => ev_const ?_) (fun hb => nomatch hb))
    simp [matB, h1]

end Go.Proofs.Ythhfgegdncggcaa.Pure

/- Trains, departures, the next round: what the program and the reference come to. Condition: lists no longer than memory allows. -/
namespace Go.Proofs.Ythhfgegdncggcaa.Pure
open Go.RowKit Go.Proofs.Ythhfgegdncggcaa.X Go.Proofs.YthhfgegdncggcaaW.PrintWords Go.Proofs.YthhfgegdncggcaaW.PrintMore
set_option linter.unusedVariables false
set_option linter.unusedSimpArgs false

def neB (n : Int) : Bool := decide (n ≠ 1000000000)
theorem foldl_min_le (r : List Int) : ∀ a, r.foldl min a ≤ a := by
  induction r with
  | nil => intro a; exact Int.le_refl _
  | cons x t ih => intro a; have := ih (min a x); rw [List.foldl_cons]; omega
theorem foldl_min_none {r : List Int} (h : r.any neB = false) : r.foldl min 1000000000 = 1000000000 := by
  induction r with
  | nil => rfl
  | cons x t ih =>
    rw [List.any_cons, Bool.or_eq_false_iff] at h
    have hx : x = 1000000000 := by have := h.1; simp only [neB, decide_eq_false_iff_not] at this; omega
    rw [List.foldl_cons, hx]
    exact ih h.2
theorem foldl_min_some {r : List Int} (hb : ∀ x ∈ r, x ≤ 1000000000) (h : r.any neB = true) : ∀ a, a ≤ 1000000000 → r.foldl min a ≠ 1000000000 := by
  induction r with
  | nil => cases h
  | cons x t ih =>
    intro a ha
    rw [List.foldl_cons]
    have hx := hb x (List.mem_cons_self ..)
    by_cases e : x = 1000000000
    · rw [List.any_cons] at h
      have e2 : neB x = false := by simp [neB, e]
      rw [e2, Bool.false_or] at h
      exact ih (fun y hy => hb y (List.mem_cons_of_mem _ hy)) h _ (by omega)
    · have := foldl_min_le t (min a x)
      omega
theorem ev_sumOf (l : List Int) (hn : (l.length : Int) ≤ 140737488355328) : Ev (fun k => impl_sumOf.f k l) (l.foldl min 1000000000) := by
  unfold impl_sumOf.f
  have key : ∀ i, i ≤ l.length → ∀ a, Ev (fun k => impl_sumOf.l0 k a l (l.length : Int) (i : Int)) ((l.drop i).foldl min a) := by
    refine up_to _ ?_ ?_
    · intro a
      rw [drop_all (Nat.le_refl _)]
      exact Ev.step (fun k => rfl) (ev_neg (by omega) (Ev.now _))
    · intro i hi ih a
      rw [drop_rd hi, List.foldl_cons]
      refine Ev.step (fun k => rfl) (ev_pos (by omega) (ev_pos (by omega) (ev_pos (by omega) ?_)))
      rw [wr1 (by omega), mn_min']
      exact ih _
  have := key 0 (Nat.zero_le _) 1000000000
  simpa using this

end Go.Proofs.Ythhfgegdncggcaa.Pure

/- Systems and their least solutions: the program's and the reference's. Condition: lists no longer than memory allows. -/
namespace Go.Proofs.Ythhfgegdncggcaa.Pure
open Go.RowKit Go.Proofs.Ythhfgegdncggcaa.X Go.Proofs.YthhfgegdncggcaaW.PrintWords Go.Proofs.YthhfgegdncggcaaW.PrintMore
set_option linter.unusedVariables false
set_option linter.unusedSimpArgs false

/-- Column k has a number other than Infinity. -/
def colAny (l : List (List Int)) (k : Nat) : Bool := l.any fun r => neB (rd r (k : Int))
def colsB (l : List (List Int)) : Nat → Nat → Bool
  | 0, _ => true
  | f + 1, k => colAny l k && colsB l f (k + 1)
def sysB (l : List (List Int)) (b : List Int) : Bool := matB l && ((decide (b.length = l.length) && b.all finB) && colsB l (l.getD 0 []).length 0)
/-- A system, as what it is known by. -/
structure Sys (l : List (List Int)) (b : List Int) (m : Nat) : Prop where
  pos : 1 ≤ l.length
  six : l.length ≤ 6
  mpos : 1 ≤ m
  msix : m ≤ 6
  wid : m = (l.getD 0 []).length
  wide : Wide l m
  num : ∀ r ∈ l, ∀ x ∈ r, numB x = true
  len : b.length = l.length
  fin : b.all finB = true
theorem sysB_sys {l : List (List Int)} {b : List Int} (h : sysB l b = true) : Sys l b (l.getD 0 []).length := by
  simp only [sysB, Bool.and_eq_true, decide_eq_true_eq] at h
  obtain ⟨h1, ⟨h2, h3⟩, _⟩ := h
  obtain ⟨a1, a2, a3, a4, a5, a6⟩ := matB_parts h1
  exact ⟨a1, a2, a3, a4, rfl, a5, a6, h2, h3⟩
theorem numB_cases {x : Int} (h : numB x = true) : x = 1000000000 ∨ (-1000000 ≤ x ∧ x ≤ 1000000) := by
  simp only [numB, finB, Bool.or_eq_true, decide_eq_true_eq, beq_iff_eq] at h
  omega
theorem sys_cell {l : List (List Int)} {b : List Int} {m : Nat} (h : Sys l b m) {i k : Nat} (hi : i < l.length) (hk : k < m) : rd (rd_L1 l (i : Int)) (k : Int) = 1000000000 ∨ (-1000000 ≤ rd (rd_L1 l (i : Int)) (k : Int) ∧ rd (rd_L1 l (i : Int)) (k : Int) ≤ 1000000) := by
  have hm := rrd_mem hi
  have hw := h.wide _ hm
  exact numB_cases (h.num _ hm _ (rd_mem (by omega)))
theorem fin_rd {b : List Int} (h : b.all finB = true) {i : Nat} (hi : i < b.length) : -1000000 ≤ rd b (i : Int) ∧ rd b (i : Int) ≤ 1000000 := by
  rw [List.all_eq_true] at h
  exact finB_iff.1 (h _ (rd_mem hi))
theorem col_length (l : List (List Int)) (k : Nat) : (col l k).length = l.length := by simp [col]
theorem rd_col {l : List (List Int)} {k i : Nat} (hi : i < l.length) : rd (col l k) (i : Int) = rd (rd_L1 l (i : Int)) (k : Int) := by
  rw [rd_get (by rw [col_length]; exact hi), rrd_get hi]
  simp [col]

theorem ev_lyGood (l : List (List Int)) (b : List Int) (h : Short l) (hb : (b.length : Int) ≤ 1048576) : Ev (fun k => spec_lyGood.f k l b) (sysB l b) := by
  unfold spec_lyGood.f sysB
  refine Ev.bind (ev_mxGood l h) ?_
  cases hg : matB l with
  | false => exact ev_false (ev_j (g := fun k x => spec_lyGood.j0 k l x) (fun _ _ => rfl) (fun _ => ev_const (by simp)) (fun hb => nomatch hb))
  | true =>
    obtain ⟨a1, a2, a3, a4, a5, a6⟩ := matB_parts hg
    refine ev_true ?_
    rw [Bool.true_and]
    by_cases hl : b.length = l.length
    · refine ev_pos (by omega) (Ev.bind (ev_l1AllFin b (by omega)) (ev_j (g := fun k x => spec_lyGood.j0 k l x) (fun _ _ => rfl) (fun hx => ev_const ?_) (fun hx => ?_)))
      · have : b.all finB = false := by simpa using hx
        simp [this]
      · have hx : b.all finB = true := by simpa using hx
        rw [hx, decide_eq_true hl, Bool.true_and, Bool.true_and]
        refine ev_pos (by omega) ?_
        rw [rrd_zero]
        generalize hm : (l.getD 0 []).length = m at *
        have key : ∀ f k, k + f = m → Ev (fun n => spec_lyGood.l0 n l (m : Int) (k : Int)) (colsB l f k) := by
          intro f
          induction f with
          | zero =>
            intro k hk
            exact Ev.step (fun n => rfl) (ev_neg (by omega) (Ev.now true))
          | succ f ih =>
            intro k hk
            refine Ev.step (fun n => rfl) (ev_pos (by omega) ?_)
            unfold colsB
            have inner : ∀ i, i ≤ l.length → ∀ s : Bool, Ev (fun n => spec_lyGood.l1 n l (k : Int) s (m : Int) (k : Int) l (l.length : Int) (i : Int)) ((s || (l.drop i).any fun r => neB (rd r (k : Int))) && colsB l f (k + 1)) := by
              refine up_to _ ?_ ?_
              · intro s
                rw [drop_all (Nat.le_refl _)]
                refine Ev.step (fun n => rfl) (ev_neg (by omega) ?_)
                cases s with
                | true =>
                  refine ev_true ?_
                  rw [wr1 (by omega)]
                  exact ev_eq (by simp) (ih (k + 1) (by omega))
                | false => exact ev_false (ev_const (by simp))
              · intro i hi ih2 s
                have hw := wide_rrd a5 hi
                rw [drop_rrd hi, List.any_cons]
                refine Ev.step (fun n => rfl) (ev_pos (by omega) (ev_pos (by omega) (ev_pos (by omega) ?_)))
                rw [wr1 (by have := h.1; omega)]
                cases s with
                | true => exact ev_true (ev_eq (by simp) (ih2 true))
                | false =>
                  refine ev_false (ev_pos (by omega) (ev_pos (by omega) (ev_eq ?_ (ih2 _))))
                  by_cases e : rd (rd_L1 l (i : Int)) (k : Int) = 1000000000
                  · simp [neB, e]
                  · simp [neB, e]
            have := inner 0 (Nat.zero_le _) false
            rw [List.drop_zero] at this
            exact ev_eq (by simp [colAny]) this
        exact key m 0 (by omega)
    · refine ev_neg (by omega) (ev_j (g := fun k x => spec_lyGood.j0 k l x) (fun _ _ => rfl) (fun _ => ev_const (by simp [hl])) (fun hb => nomatch hb))
theorem colsB_all {l : List (List Int)} : ∀ (f k : Nat), colsB l f k = true ↔ ∀ j, k ≤ j → j < k + f → colAny l j = true
  | 0, k => by simp [colsB]; intro j h1 h2; omega
  | f + 1, k => by
    rw [colsB, Bool.and_eq_true, colsB_all f (k + 1)]
    constructor
    · rintro ⟨h1, h2⟩ j hj hj2
      by_cases e : j = k
      · rw [e]; exact h1
      · exact h2 j (by omega) (by omega)
    · intro h
      exact ⟨h k (Nat.le_refl _) (by omega), fun j h1 h2 => h j (by omega) (by omega)⟩
theorem colAny_col (l : List (List Int)) (k : Nat) : colAny l k = (col l k).any neB := by
  unfold colAny col
  rw [List.any_map]
  rfl
theorem ev_isSystem (l : List (List Int)) (b : List Int) (h : Short l) (hb : (b.length : Int) ≤ 1048576) : Ev (fun k => impl_isSystem.f k l b) (sysB l b) := by
  unfold impl_isSystem.f sysB
  refine Ev.bind (ev_isMatrix l h) ?_
  cases hg : matB l with
  | false => exact ev_false (ev_const (by simp))
  | true =>
    obtain ⟨a1, a2, a3, a4, a5, a6⟩ := matB_parts hg
    refine ev_true ?_
    rw [Bool.true_and]
    have e1 : Ev (fun k => impl_areOnePerVertex.f k l b) (decide (b.length = l.length) && b.all finB) := by
      unfold impl_areOnePerVertex.f
      by_cases hl : b.length = l.length
      · refine ev_pos (by omega) (ev_bind0 (ev_areFinite b (by omega)) (by simp [hl]))
      · exact ev_neg (by omega) (ev_const (by simp [hl]))
    refine Ev.bind e1 ?_
    cases hc : (decide (b.length = l.length) && b.all finB) with
    | false => exact ev_false (ev_const (by simp))
    | true =>
      refine ev_true (Ev.bind (ev_transposed l (by omega) _ rfl a5 h) ?_)
      rw [Bool.true_and]
      generalize hm : (l.getD 0 []).length = m at *
      have e : Ev (fun k => Ext.anyO (impl_isSystem.g k) (turned l m)) ((turned l m).any fun c => !(c.any neB)) := by
        refine Ext.ev_anyO _ fun c hc => ?_
        obtain ⟨k, hk, rfl⟩ := turned_mem hc
        unfold impl_isSystem.g
        refine ev_bind0 (ev_sumOf (col l k) (by rw [col_length]; omega)) ?_
        cases ha : (col l k).any neB with
        | false => rw [foldl_min_none ha]; rfl
        | true =>
          have hb2 : ∀ x ∈ col l k, x ≤ 1000000000 := by
            intro x hx
            simp only [col, List.mem_map] at hx
            obtain ⟨r, hr, rfl⟩ := hx
            have := numB_cases (a6 r hr _ (rd_mem (by have := a5 r hr; omega : k < r.length)))
            omega
          have := foldl_min_some hb2 ha 1000000000 (Int.le_refl _)
          simp [this]
      refine ev_bind0 e ?_
      congr 1
      rw [Bool.eq_iff_iff, colsB_all]
      simp only [Bool.not_eq_true', List.any_eq_false, turned, List.mem_map, List.mem_range, forall_exists_index, and_imp, forall_apply_eq_imp_iff₂, Bool.not_eq_true, Bool.not_eq_false', Nat.zero_le, Nat.zero_add, true_implies, colAny_col]
      constructor
      · intro h j hj
        simpa using h j hj
      · intro h j hj
        simpa using h j hj

/-- One step to the greatest difference: whether none was met, and the greatest so far. -/
def stepL (s : Bool × Int) (n b : Int) : Bool × Int := if n = 1000000000 then s else if s.1 = true then (false, b - n) else if b - n > s.2 then (false, b - n) else s
def lstF (l : List (List Int)) (b : List Int) (k : Int) : Nat → Nat → Bool × Int → Bool × Int
  | 0, _, s => s
  | f + 1, i, s => lstF l b k f (i + 1) (stepL s (rd (rd_L1 l (i : Int)) k) (rd b (i : Int)))
def leastV (l : List (List Int)) (b : List Int) : List Int := (List.range (l.getD 0 []).length).map fun (k : Nat) => (lstF l b (k : Int) l.length 0 (true, 0)).2
theorem leastV_length (l : List (List Int)) (b : List Int) : (leastV l b).length = (l.getD 0 []).length := by simp [leastV]
theorem leastV_snoc (l : List (List Int)) (b : List Int) (k : Nat) : (List.range (k + 1)).map (fun (k : Nat) => (lstF l b (k : Int) l.length 0 (true, 0)).2) = (List.range k).map (fun (k : Nat) => (lstF l b (k : Int) l.length 0 (true, 0)).2) ++ [(lstF l b (k : Int) l.length 0 (true, 0)).2] := by rw [List.range_succ, List.map_append]; rfl
theorem ev_lyLeast (l : List (List Int)) (b : List Int) {m : Nat} (h : Sys l b m) : Ev (fun k => spec_lyLeast.f k l b) (leastV l b) := by
  unfold spec_lyLeast.f leastV
  have hpos := h.pos
  have hsix := h.six
  have hms := h.msix
  have hlen := h.len
  refine ev_pos (by omega) ?_
  rw [rrd_zero, ← h.wid]
  have key : ∀ f k, k + f = m → Ev (fun n => spec_lyLeast.l0 n l b ((List.range k).map fun (k : Nat) => (lstF l b (k : Int) l.length 0 (true, 0)).2) (m : Int) (k : Int)) ((List.range m).map fun (k : Nat) => (lstF l b (k : Int) l.length 0 (true, 0)).2) := by
    intro f
    induction f with
    | zero =>
      intro k hk
      have : k = m := by omega
      subst this
      exact Ev.step (fun n => rfl) (ev_neg (by omega) (Ev.now _))
    | succ f ih =>
      intro k hk
      have IH := ih (k + 1) (by omega)
      rw [leastV_snoc] at IH
      have hln : ((List.range k).map fun (k : Nat) => (lstF l b (k : Int) l.length 0 (true, 0)).2).length = k := by simp
      generalize (List.range k).map (fun (k : Nat) => (lstF l b (k : Int) l.length 0 (true, 0)).2) = xs at IH hln ⊢
      generalize (List.range m).map (fun (k : Nat) => (lstF l b (k : Int) l.length 0 (true, 0)).2) = ys at IH ⊢
      refine Ev.step (fun n => rfl) (ev_pos (by omega) ?_)
      have inner : ∀ g i, i + g = l.length → ∀ s : Bool × Int, lstF l b (k : Int) g i s = lstF l b (k : Int) l.length 0 (true, 0) → Ev (fun n => spec_lyLeast.l1 n l b xs (k : Int) s.1 s.2 (m : Int) (k : Int) l (l.length : Int) (i : Int)) ys := by
        intro g
        induction g with
        | zero =>
          intro i hi s he
          have he : s = lstF l b (k : Int) l.length 0 (true, 0) := he
          refine Ev.step (fun n => rfl) (ev_neg (by omega) (ev_pos (by omega) ?_))
          rw [wr1 (by omega), he]
          exact IH
        | succ g ih2 =>
          intro i hi s he
          have hw := wide_rrd h.wide (by omega : i < l.length)
          have hcell := sys_cell h (by omega : i < l.length) (by omega : k < m)
          have hbb := fin_rd h.fin (by omega : i < b.length)
          rw [lstF] at he
          have IH2 := ih2 (i + 1) (by omega) _ he
          refine Ev.step (fun n => rfl) (ev_pos (by omega) (ev_pos (by omega) (ev_pos (by omega) (ev_pos (by omega) (ev_pos (by omega) ?_)))))
          rw [wr1 (by omega)]
          unfold stepL at IH2
          by_cases e : rd (rd_L1 l (i : Int)) (k : Int) = 1000000000
          · rw [if_pos e] at IH2
            exact ev_pos e IH2
          · rw [if_neg e] at IH2
            refine ev_neg e ?_
            rw [wr (x := rd b (i : Int) - rd (rd_L1 l (i : Int)) (k : Int)) (by omega) (by omega)]
            by_cases e1 : s.1 = true
            · rw [if_pos e1] at IH2
              exact ev_pos e1 (ev_pos (by omega) IH2)
            · rw [if_neg e1] at IH2
              refine ev_neg e1 (ev_pos (by omega) ?_)
              by_cases e2 : rd b (i : Int) - rd (rd_L1 l (i : Int)) (k : Int) > s.2
              · rw [if_pos e2] at IH2
                exact ev_pos e2 IH2
              · rw [if_neg e2] at IH2
                exact ev_neg e2 IH2
      exact inner l.length 0 (by omega) (true, 0) rfl
  exact key m 0 (by omega)
theorem turned_at {l : List (List Int)} {m k : Nat} (h : k < m) : rd_L1 (turned l m) (k : Int) = col l k := by
  rw [rrd_get (by rw [turned_length]; exact h)]
  simp [turned]
theorem ev_leastSolution (l : List (List Int)) (b : List Int) (hs : Short l) {m : Nat} (h : Sys l b m) : Ev (fun k => impl_leastSolution.f k l b) (leastV l b) := by
  unfold impl_leastSolution.f leastV
  have hpos := h.pos
  have hsix := h.six
  have hms := h.msix
  have hlen := h.len
  refine Ev.bind (ev_transposed l (by omega) m h.wid h.wide hs) ?_
  rw [← h.wid, turned_length]
  have key : ∀ f k, k + f = m → Ev (fun n => impl_leastSolution.l0 n b ((List.range k).map fun (k : Nat) => (lstF l b (k : Int) l.length 0 (true, 0)).2) (turned l m) (m : Int) (k : Int)) ((List.range m).map fun (k : Nat) => (lstF l b (k : Int) l.length 0 (true, 0)).2) := by
    intro f
    induction f with
    | zero =>
      intro k hk
      have : k = m := by omega
      subst this
      exact Ev.step (fun n => rfl) (ev_neg (by omega) (Ev.now _))
    | succ f ih =>
      intro k hk
      have IH := ih (k + 1) (by omega)
      rw [leastV_snoc] at IH
      have hln : ((List.range k).map fun (k : Nat) => (lstF l b (k : Int) l.length 0 (true, 0)).2).length = k := by simp
      generalize (List.range k).map (fun (k : Nat) => (lstF l b (k : Int) l.length 0 (true, 0)).2) = xs at IH hln ⊢
      generalize (List.range m).map (fun (k : Nat) => (lstF l b (k : Int) l.length 0 (true, 0)).2) = ys at IH ⊢
      refine Ev.step (fun n => rfl) (ev_pos (by omega) (ev_pos (by omega) (ev_pos (by rw [turned_length]; omega) ?_)))
      rw [turned_at (by omega : k < m), col_length]
      have inner : ∀ g i, i + g = l.length → ∀ s : Bool × Int, lstF l b (k : Int) g i s = lstF l b (k : Int) l.length 0 (true, 0) → Ev (fun n => impl_leastSolution.l1 n b xs s.2 (!s.1) (turned l m) (m : Int) (k : Int) (col l k) (l.length : Int) (i : Int)) ys := by
        intro g
        induction g with
        | zero =>
          intro i hi s he
          have he : s = lstF l b (k : Int) l.length 0 (true, 0) := he
          refine Ev.step (fun n => rfl) (ev_neg (by omega) (ev_pos (by omega) ?_))
          rw [wr1 (by omega), he]
          exact IH
        | succ g ih2 =>
          intro i hi s he
          have hcell := sys_cell h (by omega : i < l.length) (by omega : k < m)
          have hbb := fin_rd h.fin (by omega : i < b.length)
          rw [lstF] at he
          have IH2 := ih2 (i + 1) (by omega) _ he
          refine Ev.step (fun n => rfl) (ev_pos (by omega) (ev_pos (by omega) (ev_pos (by rw [col_length]; omega) ?_)))
          rw [wr1 (by omega), rd_col (by omega : i < l.length)]
          unfold stepL at IH2
          by_cases e : rd (rd_L1 l (i : Int)) (k : Int) = 1000000000
          · rw [if_pos e] at IH2
            exact ev_pos e IH2
          · rw [if_neg e] at IH2
            refine ev_neg e ?_
            rw [wr (x := rd b (i : Int) - rd (rd_L1 l (i : Int)) (k : Int)) (by omega) (by omega)]
            cases e1 : s.1 with
            | true =>
              rw [if_pos e1] at IH2
              exact ev_neg (by simp) (ev_pos (by omega) IH2)
            | false =>
              rw [if_neg (by simp [e1])] at IH2
              refine ev_pos (by simp) (ev_pos (by omega) ?_)
              by_cases e2 : rd b (i : Int) - rd (rd_L1 l (i : Int)) (k : Int) > s.2
              · rw [if_pos e2] at IH2
                exact ev_pos e2 IH2
              · rw [if_neg e2, e1] at IH2
                exact ev_neg e2 IH2
      exact inner l.length 0 (by omega) (true, 0) rfl
  exact key m 0 (by omega)
theorem stepL_bound {s : Bool × Int} {n b : Int} (hn : n = 1000000000 ∨ (-1000000 ≤ n ∧ n ≤ 1000000)) (hb : -1000000 ≤ b ∧ b ≤ 1000000) (h : -2000000 ≤ s.2 ∧ s.2 ≤ 2000000) : -2000000 ≤ (stepL s n b).2 ∧ (stepL s n b).2 ≤ 2000000 := by
  unfold stepL
  split
  · exact h
  · split
    · dsimp only; omega
    · split
      · dsimp only; omega
      · exact h
theorem lstF_bound {l : List (List Int)} {b : List Int} {m : Nat} (h : Sys l b m) {k : Nat} (hk : k < m) : ∀ (f i : Nat) (s : Bool × Int), i + f = l.length → -2000000 ≤ s.2 ∧ s.2 ≤ 2000000 → -2000000 ≤ (lstF l b (k : Int) f i s).2 ∧ (lstF l b (k : Int) f i s).2 ≤ 2000000
  | 0, _, s, _, hs => hs
  | f + 1, i, s, hf, hs => lstF_bound h hk f (i + 1) _ (by omega) (stepL_bound (sys_cell h (by omega) hk) (fin_rd h.fin (by have := h.len; omega)) hs)
/-- Numbers at most 2 millions. -/
def TwoM (x : List Int) : Prop := ∀ y ∈ x, -2000000 ≤ y ∧ y ≤ 2000000
theorem leastV_two {l : List (List Int)} {b : List Int} {m : Nat} (h : Sys l b m) : TwoM (leastV l b) := by
  intro y hy
  simp only [leastV, List.mem_map, List.mem_range] at hy
  obtain ⟨k, hk, rfl⟩ := hy
  exact lstF_bound h (by rw [h.wid]; exact hk) _ _ _ (by omega) (by dsimp only; omega)
theorem two_num_fin {x : List Int} (h : TwoM x) : x.all numB = x.all finB := by
  rw [Bool.eq_iff_iff, List.all_eq_true, List.all_eq_true]
  constructor
  · intro h1 y hy
    have h2 := numB_cases (h1 y hy)
    have h3 := h y hy
    exact finB_iff.2 (by omega)
  · exact fun h1 y hy => finB_num (h1 y hy)
/-- A system whose least solution are numbers. -/
def askB (l : List (List Int)) (b : List Int) : Bool := sysB l b && (leastV l b).all finB
theorem ev_lyAsked (l : List (List Int)) (b : List Int) (h : Short l) (hb : (b.length : Int) ≤ 1048576) : Ev (fun k => spec_lyAsked.f k l b) (askB l b) := by
  unfold spec_lyAsked.f askB
  refine Ev.bind (ev_lyGood l b h hb) ?_
  cases hg : sysB l b with
  | false => exact ev_false (ev_const (by simp))
  | true =>
    have hs := sysB_sys hg
    have h6 := hs.msix
    refine ev_true (Ev.bind (ev_lyLeast l b hs) (ev_bind0 (ev_l1AllFin _ (by rw [leastV_length]; omega)) (by simp)))
theorem ev_systemOf (l : List (List Int)) (b : List Int) (h : Short l) (hb : (b.length : Int) ≤ 1048576) : Ev (fun k => impl_systemOf.f k l b) (if askB l b = true then (leastV l b, true) else ([], false)) := by
  unfold impl_systemOf.f askB
  refine Ev.bind (ev_isSystem l b h hb) ?_
  cases hg : sysB l b with
  | false => exact ev_false (ev_const (by simp))
  | true =>
    have hs := sysB_sys hg
    have h6 := hs.msix
    refine ev_true (Ev.bind (ev_leastSolution l b h hs) (ev_bind0 (ev_areNumbers _ (by rw [leastV_length]; omega)) ?_))
    rw [two_num_fin (leastV_two hs), Bool.true_and]
    split <;> rfl
theorem askB_sys {l : List (List Int)} {b : List Int} (h : askB l b = true) : Sys l b (l.getD 0 []).length ∧ (leastV l b).all finB = true := by
  simp only [askB, Bool.and_eq_true] at h
  exact ⟨sysB_sys h.1, h.2⟩

theorem nuPlus_eq {a b : Int} (h1 : -9000000000000000 ≤ a) (h2 : a ≤ 9000000000000000) (h3 : -9000000000000000 ≤ b) (h4 : b ≤ 9000000000000000) : spec_nuPlus.f a b = some (prodB a b) := by
  unfold spec_nuPlus.f prodB
  rw [wr (by omega) (by omega)]
  split
  · rfl
  · split <;> rfl

end Go.Proofs.Ythhfgegdncggcaa.Pure

/- Rows that are reached, gaps, tight places: the program and the reference come to the same. Condition: lists no longer than memory allows. -/
namespace Go.Proofs.Ythhfgegdncggcaa.Pure
open Go.RowKit Go.Proofs.Ythhfgegdncggcaa.X Go.Proofs.YthhfgegdncggcaaW.PrintWords Go.Proofs.YthhfgegdncggcaaW.PrintMore
set_option linter.unusedVariables false
set_option linter.unusedSimpArgs false

/-- The tight places of a row, then of all rows. -/
def tightRow (l : List (List Int)) (b x : List Int) (i : Int) : Nat → Nat → List (List Int) → List (List Int)
  | 0, _, s => s
  | f + 1, k, s => tightRow l b x i f (k + 1) (if prodB (rd (rd_L1 l i) (k : Int)) (rd x (k : Int)) = rd b i then s ++ [[i, (k : Int)]] else s)
def tightAll (l : List (List Int)) (b x : List Int) : Nat → Nat → List (List Int) → List (List Int)
  | 0, _, s => s
  | f + 1, i, s => tightAll l b x f (i + 1) (tightRow l b x (i : Int) x.length 0 s)
theorem tightRow_length (l : List (List Int)) (b x : List Int) (i : Int) : ∀ (f k : Nat) (s : List (List Int)), (tightRow l b x i f k s).length ≤ s.length + f
  | 0, _, s => by simp [tightRow]
  | f + 1, k, s => by
    unfold tightRow
    have h1 := tightRow_length l b x i f (k + 1) (if prodB (rd (rd_L1 l i) (k : Int)) (rd x (k : Int)) = rd b i then s ++ [[i, (k : Int)]] else s)
    have h2 : (if prodB (rd (rd_L1 l i) (k : Int)) (rd x (k : Int)) = rd b i then s ++ [[i, (k : Int)]] else s).length ≤ s.length + 1 := by
      split
      · simp
      · omega
    omega
theorem tightAll_length (l : List (List Int)) (b x : List Int) : ∀ (f i : Nat) (s : List (List Int)), (tightAll l b x f i s).length ≤ s.length + f * x.length
  | 0, _, s => by simp [tightAll]
  | f + 1, i, s => by
    unfold tightAll
    have h1 := tightAll_length l b x f (i + 1) (tightRow l b x (i : Int) x.length 0 s)
    have h2 := tightRow_length l b x (i : Int) x.length 0 s
    rw [Nat.succ_mul]
    omega
theorem tightRow_two (l : List (List Int)) (b x : List Int) (i : Int) : ∀ (f k : Nat) (s : List (List Int)), (∀ r ∈ s, r.length ≤ 6) → ∀ r ∈ tightRow l b x i f k s, r.length ≤ 6
  | 0, _, s, h => h
  | f + 1, k, s, h => by
    unfold tightRow
    refine tightRow_two l b x i f (k + 1) _ ?_
    split
    · intro r hr
      rcases List.mem_append.1 hr with hr | hr
      · exact h r hr
      · simp at hr
        subst hr
        simp
    · exact h
theorem tightAll_two (l : List (List Int)) (b x : List Int) : ∀ (f i : Nat) (s : List (List Int)), (∀ r ∈ s, r.length ≤ 6) → ∀ r ∈ tightAll l b x f i s, r.length ≤ 6
  | 0, _, s, h => h
  | f + 1, i, s, h => tightAll_two l b x f (i + 1) _ (tightRow_two l b x (i : Int) x.length 0 s h)
theorem sum_le_six {l : List (List Int)} (h : ∀ r ∈ l, r.length ≤ 6) : (l.map List.length).sum ≤ 6 * l.length := by
  induction l with
  | nil => simp
  | cons r t ih =>
    have h1 := h r (List.mem_cons_self ..)
    have h2 := ih (fun x hx => h x (List.mem_cons_of_mem _ hx))
    simp only [List.map_cons, List.sum_cons, List.length_cons]
    omega
theorem six_sq {n : Nat} (h : n ≤ 6) (f : Nat) (hf : f ≤ 6) : f * n ≤ 36 := Nat.mul_le_mul hf h
def tightR (l : List (List Int)) (b : List Int) : List (List Int) × Bool := if askB l b = true then (tightAll l b (leastV l b) l.length 0 [], true) else ([], false)
theorem ev_specTight (l : List (List Int)) (b x : List Int) {m : Nat} (hs : Sys l b m) (hx : x.length = m) (hf : x.all finB = true) : Ev (fun n => spec_TightPlaces.l0 n b [] x l (l.length : Int) 0) (tightAll l b x l.length 0 [], true) := by
  have h6 := hs.six
  have hm6 := hs.msix
  have hl := hs.len
  have key : ∀ f i, i + f = l.length → ∀ s, s.length ≤ i * x.length → Ev (fun n => spec_TightPlaces.l0 n b s x l (l.length : Int) (i : Int)) (tightAll l b x f i s, true) := by
    intro f
    induction f with
    | zero =>
      intro i hi s hs
      exact Ev.step (fun n => rfl) (ev_neg (by omega) (Ev.now _))
    | succ f ih =>
      intro i hi s hsl
      have hw := wide_rrd hs.wide (by omega : i < l.length)
      have hil := six_sq (by omega : x.length ≤ 6) i (by omega)
      refine Ev.step (fun n => rfl) (ev_pos (by omega) (ev_pos (by omega) (ev_pos (by omega) ?_)))
      unfold tightAll
      have hcl := tightRow_length l b x (i : Int) x.length 0 s
      generalize hR : tightRow l b x (i : Int) x.length 0 s = R at hcl ⊢
      have inner : ∀ g k, k + g = x.length → ∀ t, t.length ≤ i * x.length + k → tightRow l b x (i : Int) g k t = R → Ev (fun n => spec_TightPlaces.l1 n b t x (i : Int) l (l.length : Int) (i : Int) (rd_L1 l (i : Int)) ((rd_L1 l (i : Int)).length : Int) (k : Int)) (tightAll l b x f (i + 1) R, true) := by
        intro g
        induction g with
        | zero =>
          intro k hk t ht he
          have he : t = R := he
          refine Ev.step (fun n => rfl) (ev_neg (by omega) ?_)
          rw [wr1 (by omega), he]
          exact ih (i + 1) (by omega) _ (by rw [Nat.succ_mul]; omega)
        | succ g ih2 =>
          intro k hk t ht he
          have hc := sys_cell hs (by omega : i < l.length) (by omega : k < m)
          have hxx := fin_rd hf (by omega : k < x.length)
          unfold tightRow at he
          refine Ev.step (fun n => rfl) (ev_pos (by omega) (ev_pos (by omega) (ev_pos (by omega) (ev_pos (by omega) (Ev.bind (ev_const (nuPlus_eq (by omega) (by omega) (by omega) (by omega))) (ev_pos (by omega) (ev_pos (by omega) ?_)))))))
          rw [wr1 (by omega)]
          by_cases e : prodB (rd (rd_L1 l (i : Int)) (k : Int)) (rd x (k : Int)) = rd b (i : Int)
          · rw [if_pos e] at he
            exact ev_pos e (ev_pos (by omega) (ih2 (k + 1) (by omega) _ (by simp; omega) he))
          · rw [if_neg e] at he
            exact ev_neg e (ih2 (k + 1) (by omega) t (by omega) he)
      exact inner x.length 0 (by omega) s (by omega) hR
  exact key l.length 0 (by omega) [] (by simp)
theorem ev_implTight (l : List (List Int)) (b x : List Int) {m : Nat} (hs : Sys l b m) (hx : x.length = m) (hf : x.all finB = true) : Ev (fun n => impl_TightPlaces.l0 n b [] x l (l.length : Int) 0) (tightAll l b x l.length 0 [], true) := by
  have h6 := hs.six
  have hm6 := hs.msix
  have hl := hs.len
  have key : ∀ f i, i + f = l.length → ∀ s, s.length ≤ i * x.length → Ev (fun n => impl_TightPlaces.l0 n b s x l (l.length : Int) (i : Int)) (tightAll l b x f i s, true) := by
    intro f
    induction f with
    | zero =>
      intro i hi s hs
      exact Ev.step (fun n => rfl) (ev_neg (by omega) (Ev.now _))
    | succ f ih =>
      intro i hi s hsl
      have hw := wide_rrd hs.wide (by omega : i < l.length)
      have hil := six_sq (by omega : x.length ≤ 6) i (by omega)
      refine Ev.step (fun n => rfl) (ev_pos (by omega) (ev_pos (by omega) (ev_pos (by omega) ?_)))
      unfold tightAll
      have hcl := tightRow_length l b x (i : Int) x.length 0 s
      generalize hR : tightRow l b x (i : Int) x.length 0 s = R at hcl ⊢
      have inner : ∀ g k, k + g = x.length → ∀ t, t.length ≤ i * x.length + k → tightRow l b x (i : Int) g k t = R → Ev (fun n => impl_TightPlaces.l1 n b t x (i : Int) l (l.length : Int) (i : Int) (rd_L1 l (i : Int)) ((rd_L1 l (i : Int)).length : Int) (k : Int)) (tightAll l b x f (i + 1) R, true) := by
        intro g
        induction g with
        | zero =>
          intro k hk t ht he
          have he : t = R := he
          refine Ev.step (fun n => rfl) (ev_neg (by omega) ?_)
          rw [wr1 (by omega), he]
          exact ih (i + 1) (by omega) _ (by rw [Nat.succ_mul]; omega)
        | succ g ih2 =>
          intro k hk t ht he
          have hc := sys_cell hs (by omega : i < l.length) (by omega : k < m)
          have hxx := fin_rd hf (by omega : k < x.length)
          unfold tightRow at he
          refine Ev.step (fun n => rfl) (ev_pos (by omega) (ev_pos (by omega) (ev_pos (by omega) (ev_pos (by omega) (Ev.bind (ev_const (product_eq (by omega) (by omega) (by omega) (by omega))) (ev_pos (by omega) (ev_pos (by omega) ?_)))))))
          rw [wr1 (by omega)]
          by_cases e : prodB (rd (rd_L1 l (i : Int)) (k : Int)) (rd x (k : Int)) = rd b (i : Int)
          · rw [if_pos e] at he
            exact ev_pos e (ev_pos (by omega) (ih2 (k + 1) (by omega) _ (by simp; omega) he))
          · rw [if_neg e] at he
            exact ev_neg e (ih2 (k + 1) (by omega) t (by omega) he)
      exact inner x.length 0 (by omega) s (by omega) hR
  exact key l.length 0 (by omega) [] (by simp)
theorem ev_specTightPlaces (l : List (List Int)) (b : List Int) (h : Short l) (hb : (b.length : Int) ≤ 1048576) : Ev (fun k => spec_TightPlaces.f k l b) (tightR l b) := by
  unfold spec_TightPlaces.f tightR
  refine Ev.bind (ev_lyAsked l b h hb) ?_
  cases hg : askB l b with
  | false => exact ev_false (ev_const (by simp))
  | true =>
    obtain ⟨hs, hf⟩ := askB_sys hg
    rw [if_pos rfl]
    exact ev_true (Ev.bind (ev_lyLeast l b hs) (ev_specTight l b _ hs (leastV_length l b) hf))
theorem ev_implTightPlaces (l : List (List Int)) (b : List Int) (h : Short l) (hb : (b.length : Int) ≤ 1048576) : Ev (fun k => impl_TightPlaces.f k l b) (tightR l b) := by
  unfold impl_TightPlaces.f tightR
  refine Ev.bind (ev_systemOf l b h hb) ?_
  cases hg : askB l b with
  | false => exact ev_neg (by simp) (ev_const (by simp))
  | true =>
    obtain ⟨hs, hf⟩ := askB_sys hg
    rw [if_pos rfl]
    exact ev_pos (by simp) (ev_implTight l b _ hs (leastV_length l b) hf)
theorem tightR_size {l : List (List Int)} {b : List Int} : (tightR l b).1.length + ((tightR l b).1.map List.length).sum ≤ 1048576 := by
  unfold tightR
  split
  · rename_i hg
    have hs := (askB_sys hg).1
    have h6 := hs.six
    have hm := hs.msix
    have hl := leastV_length l b
    have h1 := tightAll_length l b (leastV l b) l.length 0 []
    have h2 := six_sq (by omega : (leastV l b).length ≤ 6) l.length h6
    have := sum_le_six (tightAll_two l b (leastV l b) l.length 0 [] (by simp))
    dsimp only
    simp at h1
    omega
  · simp
end Go.Proofs.Ythhfgegdncggcaa.Pure

/- Rows of whole numbers that come in as data, read as lists. No condition but the kinds of the types. -/
namespace Go.Proofs.Ythhfgegdncggcaa.Law
open Go.RowKit Go.ChangeShapes Go.WideShapes Go.Deep Go.Proofs.YthhfgegdncggcaaW.PrintWords Go.Proofs.YthhfgegdncggcaaW.PrintMore
set_option linter.unusedVariables false
theorem add_add0 (a : Addr) (m : Nat) : a.add (m * 1 + 0) = a.add m := by rw [Nat.mul_one, Nat.add_zero]
theorem open_rows {H : Type} {enc : TypeId × Value → H} {P : Program} {W : World} {base : Nat} {held : Bool} {t e q : TypeId} {a : Option Addr} {len cap : Nat} {d : DataW H} {ps : List MemPlace}
    (ht : P.underlying t = some (.slice e)) (he : P.underlying e = some (.slice q)) (hq : P.underlying q = some (.int .i64)) (ce : P.cellsOf e = 1) (cq : P.cellsOf q = 1)
    (h : DataW.Trod enc P W base (fun _ => true) held t (.slice a len cap) d ps) (m : Nat) :
    ∃ l : List (List Int), len = l.length ∧ l.length ≤ cap ∧ Kd.C (Kd.slice m (Kd.int .i64)) W a l.length l ∧ (∀ r ∈ l, (r.length : Int) ≤ 9223372036854775807) ∧ (∀ r ∈ l, ∀ x ∈ r, -9223372036854775808 ≤ x ∧ x ≤ 9223372036854775807) := by
  have hmax : maxLen = 9223372036854775807 := rfl
  obtain ⟨fuel, hf⟩ := h
  rcases open_int_rows ht he hq ce cq hf with ⟨hcs, _⟩ | ⟨a', len', cap', A, L, C, Z, hcs, _, hl, hm, _, hrow⟩
  · simp [Value.cells] at hcs
    obtain ⟨rfl, rfl, rfl⟩ := hcs
    exact ⟨[], rfl, Nat.le_refl _, Kd.C_nil _ _, fun r hr => (by cases hr), fun r hr => (by cases hr)⟩
  · simp [Value.cells] at hcs
    obtain ⟨rfl, rfl, rfl⟩ := hcs
    have hlen : ((List.range len).map fun r => (Z r).take (L r)).length = len := by simp
    have hget : ∀ (j : Nat) (p : List Int), ((List.range len).map fun r => (Z r).take (L r))[j]? = some p → j < len ∧ p = (Z j).take (L j) := by
      intro j p hj
      rw [List.getElem?_map] at hj
      obtain ⟨x, hx, rfl⟩ := Option.map_eq_some_iff.1 hj
      obtain ⟨h1, h2⟩ := List.getElem?_eq_some_iff.1 hx
      simp at h1 h2
      exact ⟨h1, by rw [← h2]⟩
    have hmem : ∀ r ∈ ((List.range len).map fun r => (Z r).take (L r)), ∃ j, j < len ∧ r = (Z j).take (L j) := by
      intro r hr
      obtain ⟨j, hj, rfl⟩ := List.mem_map.1 hr
      exact ⟨j, List.mem_range.1 hj, rfl⟩
    refine ⟨(List.range len).map fun r => (Z r).take (L r), hlen.symm, by rw [hlen]; exact hl, ?_, ?_, ?_⟩
    · rw [hlen]
      refine ⟨hlen, by rw [hmax] at hm; omega, fun hp => ⟨a', rfl, fun j p hj => ?_⟩⟩
      obtain ⟨hjl, rfl⟩ := hget j p hj
      obtain ⟨hc, hLC, hCm, hZ, hwf, hn, hcells⟩ := hrow j (by omega)
      have hpl : ((Z j).take (L j)).length = L j := by rw [List.length_take, hZ]; omega
      refine ⟨[.slice (A j) (L j) (C j)], rfl, ⟨A j, C j, by rw [hpl], by rw [hpl]; exact hLC, ?_⟩, fun i u hu => ?_⟩
      · refine Kd.C_of_reads (d := (0 : Int)) (h1 := fun _ => rfl) ⟨rfl, by rw [hpl]; rw [hmax] at hCm; omega, fun hp2 => ?_⟩
        rw [hpl] at hp2
        cases hA : A j with
        | none => have := hn hA; omega
        | some a2 =>
          refine ⟨a2, rfl, fun i hi => ?_⟩
          rw [hpl] at hi
          rw [(hcells a2 hA).2 i (by omega)]
          congr 2
          rw [List.getD_eq_getElem?_getD, List.getD_eq_getElem?_getD, List.getElem?_take, if_pos hi]
      · cases i with
        | zero =>
          have : Value.slice (A j) (L j) (C j) = u := by simpa using hu
          subst this
          rw [show (Kd.slice m (Kd.int .i64)).sz = 1 from rfl, add_add0]
          exact hc
        | succ i => simp at hu
    · intro r hr
      obtain ⟨j, hj, rfl⟩ := hmem r hr
      obtain ⟨hc, hLC, hCm, hZ, _⟩ := hrow j (by omega)
      rw [List.length_take, hZ]
      rw [hmax] at hCm
      omega
    · intro r hr x hx
      obtain ⟨j, hj, rfl⟩ := hmem r hr
      obtain ⟨hc, hLC, hCm, hZ, hwf, _⟩ := hrow j (by omega)
      have := hwf x (List.mem_of_mem_take hx)
      have e1 : IntKind.i64.min = -9223372036854775808 := by decide
      have e2 : IntKind.i64.max = 9223372036854775807 := by decide
      simp only [Lit.wf, Bool.and_eq_true, decide_eq_true_eq] at this
      rw [e1, e2] at this
      exact this
/-- A row's slice of rows is no longer than its weight allows. -/
theorem sized_rows {H : Type} {enc : TypeId × Value → H} {P : Program} {W : World} {base : Nat} {held : Bool} {t e q : TypeId} {a : Option Addr} {len cap : Nat} {d : DataW H} {ps : List MemPlace} {ts : List TypeId} {ds : List (DataW H)} {j : Nat}
    (hsz : (DataW.weightsEach P ts ds).all (· ≤ reachBytes) = true) (ht : ts[j]? = some t) (hd : ds[j]? = some d) (hu : P.underlying t = some (.slice e)) (he : P.underlying e = some (.slice q)) (hq : P.underlying q = some (.int .i64)) (ce : P.cellsOf e = 1) (cq : P.cellsOf q = 1) {B : Nat} (hB : P.bytesOf e = B)
    (h : DataW.Trod enc P W base (fun _ => true) held t (.slice a len cap) d ps) : len * B ≤ 140737488351232 := by
  obtain ⟨fuel, hf⟩ := h
  rcases open_int_rows hu he hq ce cq hf with ⟨hcs, _⟩ | ⟨a', len', cap', A, L, C, Z, hcs, _, hl, hm, hx, hrow⟩
  · simp [Value.cells] at hcs
    obtain ⟨rfl, rfl, rfl⟩ := hcs
    simp
  · simp [Value.cells] at hcs
    obtain ⟨rfl, rfl, rfl⟩ := hcs
    obtain ⟨hx, _⟩ := Prod.mk.inj hx
    subst hx
    have z := sized_slice hsz ht hd hu
    rw [hB] at z
    simp only [List.length_map, List.length_range] at z
    exact Nat.le_trans (Nat.mul_le_mul_right _ (by omega)) z
end Go.Proofs.Ythhfgegdncggcaa.Law
