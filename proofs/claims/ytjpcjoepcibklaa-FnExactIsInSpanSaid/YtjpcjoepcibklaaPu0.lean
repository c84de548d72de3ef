/- Small rules for 'from some number of rounds on' (Ev), lists and wraps: what the pure proofs of this seat lean on. No condition. -/
import Derived.Test.YtjpcjoepcibklaaWWords
import Derived.Test.YtjpcjoepcibklaaWMore
namespace Go.Proofs.Ytjpcjoepcibklaa.Pure
open Go.RowKit Go.Proofs.YtjpcjoepcibklaaW.PrintWords Go.Proofs.YtjpcjoepcibklaaW.PrintMore
set_option linter.unusedVariables false
set_option linter.unusedSimpArgs false

theorem ev_pos {α : Type} {c : Prop} [Decidable c] {f g : Nat → Option α} {r : α} (h : c) (k : Ev f r) : Ev (fun n => if c then f n else g n) r := by
  obtain ⟨K, k⟩ := k
  exact ⟨K, fun n hn => (if_pos h).trans (k n hn)⟩
theorem ev_neg {α : Type} {c : Prop} [Decidable c] {f g : Nat → Option α} {r : α} (h : ¬ c) (k : Ev g r) : Ev (fun n => if c then f n else g n) r := by
  obtain ⟨K, k⟩ := k
  exact ⟨K, fun n hn => (if_neg h).trans (k n hn)⟩
theorem ev_true {α : Type} {f g : Nat → Option α} {r : α} (k : Ev f r) : Ev (fun n => if true = true then f n else g n) r := ev_pos rfl k
theorem ev_false {α : Type} {f g : Nat → Option α} {r : α} (k : Ev g r) : Ev (fun n => if false = true then f n else g n) r := ev_neg (by simp) k
theorem ev_eq {α : Type} {f : Nat → Option α} {r q : α} (h : r = q) (k : Ev f q) : Ev f r := h ▸ k
theorem ev_const {α : Type} {a : Option α} {r : α} (h : a = some r) : Ev (fun _ => a) r := ⟨0, fun _ _ => h⟩
theorem ev_one {α : Type} {f : Nat → Option α} {r q : α} (h : Ev f r) (k : Ev f q) : r = q := by
  obtain ⟨K, h⟩ := h
  obtain ⟨K', k⟩ := k
  have h1 := h (max K K') (by omega)
  have h2 := k (max K K') (by omega)
  rw [h1] at h2
  exact Option.some.inj h2
theorem agree1 {α : Type} {g f : Nat → Option α} {r : α} (h : Ev g r) (h' : Ev f r) : ∃ k, g k = some r ∧ f k = some r := by
  obtain ⟨K, h⟩ := h
  obtain ⟨K', h'⟩ := h'
  exact ⟨max K K', h _ (by omega), h' _ (by omega)⟩
theorem agree2 {α β : Type} {g f : Nat → Option (α × β)} {r : α × β} (h : Ev g r) (h' : Ev f r) : ∃ k r1 r2, g k = some (r1, r2) ∧ f k = some (r1, r2) ∧ r = (r1, r2) := by
  obtain ⟨k, h1, h2⟩ := agree1 h h'
  obtain ⟨r1, r2⟩ := r
  exact ⟨k, r1, r2, h1, h2, rfl⟩
theorem agree3 {α β γ : Type} {g f : Nat → Option (α × β × γ)} {r : α × β × γ} (h : Ev g r) (h' : Ev f r) : ∃ k r1 r2 r3, g k = some (r1, r2, r3) ∧ f k = some (r1, r2, r3) ∧ r = (r1, r2, r3) := by
  obtain ⟨k, h1, h2⟩ := agree1 h h'
  obtain ⟨r1, r2, r3⟩ := r
  exact ⟨k, r1, r2, r3, h1, h2, rfl⟩
theorem agree4 {α β γ δ : Type} {g f : Nat → Option (α × β × γ × δ)} {r : α × β × γ × δ} (h : Ev g r) (h' : Ev f r) : ∃ k r1 r2 r3 r4, g k = some (r1, r2, r3, r4) ∧ f k = some (r1, r2, r3, r4) ∧ r = (r1, r2, r3, r4) := by
  obtain ⟨k, h1, h2⟩ := agree1 h h'
  obtain ⟨r1, r2, r3, r4⟩ := r
  exact ⟨k, r1, r2, r3, r4, h1, h2, rfl⟩
theorem ev_bind0 {α β : Type} {g : Nat → Option α} {f : α → Option β} {a : α} {r : β} (h : Ev g a) (k : f a = some r) : Ev (fun n => (g n).bind f) r := Ev.bind (f := fun _ => f) h (ev_const k)

theorem wr {x : Int} (h : -9223372036854775808 ≤ x) (h' : x ≤ 9223372036854775807) : wrap64 x = x := by unfold wrap64; omega
theorem wr1 {i : Nat} (h : (i : Int) < 9223372036854775807) : wrap64 ((i : Int) + 1) = ((i + 1 : Nat) : Int) := by unfold wrap64; omega
theorem wri {i n : Int} (h0 : 0 ≤ i) (h : i < n) (hn : n ≤ 140737488355328) : wrap64 (i + 1) = i + 1 := by unfold wrap64; omega
theorem rd_get {xs : List Int} {i : Nat} (h : i < xs.length) : rd xs (i : Int) = xs[i] := by simp [rd, h]
theorem rd_mem {xs : List Int} {i : Nat} (h : i < xs.length) : rd xs (i : Int) ∈ xs := by rw [rd_get h]; exact List.getElem_mem h
theorem drop_rd {xs : List Int} {i : Nat} (h : i < xs.length) : xs.drop i = rd xs (i : Int) :: xs.drop (i + 1) := by
  rw [List.drop_eq_getElem_cons h, rd_get h]
theorem take_rd {xs : List Int} {i : Nat} (h : i < xs.length) : xs.take (i + 1) = xs.take i ++ [rd xs (i : Int)] := by
  rw [List.take_succ_eq_append_getElem h, rd_get h]
theorem drop_all {α : Type} {xs : List α} {i : Nat} (h : xs.length ≤ i) : xs.drop i = [] := List.drop_of_length_le h
theorem take_all {α : Type} {xs : List α} {i : Nat} (h : xs.length ≤ i) : xs.take i = xs := List.take_of_length_le h
theorem rd_zero {x : Int} {xs : List Int} : rd (x :: xs) 0 = x := rfl
theorem rd_succ {x : Int} {xs : List Int} {i : Nat} : rd (x :: xs) ((i + 1 : Nat) : Int) = rd xs (i : Int) := by simp [rd]

/-- A walk up to n: what holds at each place, from the last one down. -/
theorem up_to {P : Nat → Prop} (n : Nat) (hend : P n) (hround : ∀ i, i < n → P (i + 1) → P i) : ∀ i, i ≤ n → P i := by
  have key : ∀ d i, i + d = n → P i := by
    intro d
    induction d with
    | zero => intro i h; have : i = n := by omega
              subst this; exact hend
    | succ d ih => intro i h; exact hround i (by omega) (ih (i + 1) (by omega))
  intro i hi
  exact key (n - i) i (by omega)

/-- A loop over the places of a list that ends at the first element without p. -/
theorem ev_all {L : Nat → Int → Option Bool} {xs : List Int} {T : Nat → Int → Option Bool} {p : Int → Bool} (hn : (xs.length : Int) ≤ 140737488355328)
    (hL : ∀ k i, L (k + 1) i = if i < (xs.length : Int) then (if 0 ≤ i then (if i < (xs.length : Int) then ((T k (rd xs i)).bind fun t => (if t = true then L k (wrap64 (i + 1)) else some false)) else none) else none) else some true)
    (hT : ∀ x, x ∈ xs → Ev (fun k => T k x) (p x)) : Ev (fun k => L k 0) (xs.all p) := by
  have key : ∀ i, i ≤ xs.length → Ev (fun k => L k (i : Int)) ((xs.drop i).all p) := by
    refine up_to _ ?_ ?_
    · rw [drop_all (Nat.le_refl _)]
      exact Ev.step (fun k => hL k _) (ev_neg (by omega) (Ev.now true))
    · intro i hi ih
      rw [drop_rd hi, List.all_cons]
      refine Ev.step (fun k => hL k _) (ev_pos (by omega) (ev_pos (by omega) (ev_pos (by omega) (Ev.bind (hT _ (rd_mem hi)) ?_))))
      rw [wr1 (by omega)]
      cases hp : p (rd xs (i : Int)) with
      | true => exact ev_true (by simpa using ih)
      | false => exact ev_false (by simpa using Ev.now false)
  have := key 0 (Nat.zero_le _)
  simpa using this

/-- What is copied place by place is the list itself. -/
theorem ev_copy {L : Nat → List Int → Int → Option (List Int)} {xs : List Int} (hn : (xs.length : Int) ≤ 140737488355328)
    (hL : ∀ k ys i, L (k + 1) ys i = if i < (xs.length : Int) then (if 0 ≤ i then (if i < (ys.length : Int) then L k (ys.set i.toNat (rd xs i)) (wrap64 (i + 1)) else none) else none) else some ys)
    : Ev (fun k => L k (List.replicate xs.length 0) 0) xs := by
  have key : ∀ i, i ≤ xs.length → Ev (fun k => L k (xs.take i ++ List.replicate (xs.length - i) 0) (i : Int)) xs := by
    refine up_to _ ?_ ?_
    · rw [take_all (Nat.le_refl _), Nat.sub_self, List.replicate_zero, List.append_nil]
      exact Ev.step (fun k => hL k _ _) (ev_neg (by omega) (Ev.now xs))
    · intro i hi ih
      refine Ev.step (fun k => hL k _ _) (ev_pos (by omega) (ev_pos (by omega) (ev_pos (by simp; omega) ?_)))
      rw [wr1 (by omega)]
      have e : (xs.take i ++ List.replicate (xs.length - i) 0).set ((i : Int).toNat) (rd xs i) = xs.take (i + 1) ++ List.replicate (xs.length - (i + 1)) 0 := by
        rw [take_rd hi]
        have e2 : xs.length - i = (xs.length - (i + 1)) + 1 := by omega
        rw [e2, List.replicate_succ, Int.toNat_natCast, List.set_append_right _ _ (by simp; omega)]
        have e3 : i - (xs.take i).length = 0 := by simp; omega
        rw [e3]
        simp
      rw [e]
      exact ih
  have := key 0 (Nat.zero_le _)
  simpa using this

/-- Two lists of one length, compared place by place. -/
theorem ev_same {L : Nat → Int → Option Bool} {xs ys : List Int} (hn : (xs.length : Int) ≤ 140737488355328) (he : xs.length = ys.length)
    (hL : ∀ k i, L (k + 1) i = if i < (xs.length : Int) then (if 0 ≤ i then (if i < (ys.length : Int) then (if rd xs i = rd ys i then L k (wrap64 (i + 1)) else some false) else none) else none) else some true)
    : Ev (fun k => L k 0) (decide (xs = ys)) := by
  have key : ∀ i, i ≤ xs.length → Ev (fun k => L k (i : Int)) (decide (xs.drop i = ys.drop i)) := by
    refine up_to _ ?_ ?_
    · rw [drop_all (Nat.le_refl _), drop_all (by omega)]
      exact Ev.step (fun k => hL k _) (ev_neg (by omega) (ev_eq (by simp) (Ev.now true)))
    · intro i hi ih
      rw [drop_rd hi, drop_rd (by omega : i < ys.length)]
      refine Ev.step (fun k => hL k _) (ev_pos (by omega) (ev_pos (by omega) (ev_pos (by omega) ?_)))
      rw [wr1 (by omega)]
      by_cases e : rd xs (i : Int) = rd ys (i : Int)
      · refine ev_pos e (ev_eq ?_ ih)
        simp [e]
      · refine ev_neg e (ev_eq ?_ (Ev.now false))
        simp [e]
  have := key 0 (Nat.zero_le _)
  simpa using this
end Go.Proofs.Ytjpcjoepcibklaa.Pure
