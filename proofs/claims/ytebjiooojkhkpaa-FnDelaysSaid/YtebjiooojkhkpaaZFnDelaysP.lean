-- Shaken by wip/gen/shake.py out of this claim's own printed texts. Lean checks it.
import Derived.Lib.VarintBits
import Derived.Test.YtebjiooojkhkpaaZFnDelaysWBExtG
import Derived.Test.YtebjiooojkhkpaaZFnDelaysWMore
import Derived.Test.YtebjiooojkhkpaaZFnDelaysWWords
import Derived.Test.YtebjiooojkhkpaaZFnDelaysWBX0
import Derived.Test.YtebjiooojkhkpaaZFnDelaysX0
import Derived.Test.YtebjiooojkhkpaaZFnDelaysX1
import Derived.Test.YtebjiooojkhkpaaZFnDelaysX2
import Derived.Test.YtebjiooojkhkpaaZFnDelaysX3
import Derived.Test.YtebjiooojkhkpaaZFnDelaysX4
import Derived.Test.YtebjiooojkhkpaaZFnDelaysX5
import Derived.Test.YtebjiooojkhkpaaZFnDelaysX6
import Derived.Test.YtebjiooojkhkpaaZFnDelaysX7
import Derived.Test.YtebjiooojkhkpaaZFnDelaysX8
import Derived.Test.YtebjiooojkhkpaaZFnDelaysX9
import Derived.Test.YtebjiooojkhkpaaZFnDelaysX10
import Derived.Test.YtebjiooojkhkpaaZFnDelaysX11
import Derived.Test.YtebjiooojkhkpaaZFnDelaysX12
import Derived.Test.YtebjiooojkhkpaaZFnDelaysX13
import Derived.Test.YtebjiooojkhkpaaZFnDelaysX14
/- Small rules for 'from some number of rounds on' (Ev), lists and wraps: what the pure proofs of this seat lean on. No condition. -/
namespace Go.Proofs.Ytebjiooojkhkpaa.Pure
open Go.RowKit Go.Proofs.YtebjiooojkhkpaaW.PrintWords Go.Proofs.YtebjiooojkhkpaaW.PrintMore
set_option linter.unusedVariables false
set_option linter.unusedSimpArgs false

theorem ev_pos {α : Type} {c : Prop} [Decidable c] {f g : Nat → Option α} {r : α} (h : c) (k : Ev f r) : Ev (fun n => if c then f n else g n) r := by
  obtain ⟨K, k⟩ := k
  exact ⟨K, fun n hn => (if_pos h).trans (k n hn)⟩
theorem ev_neg {α : Type} {c : Prop} [Decidable c] {f g : Nat → Option α} {r : α} (h : ¬ c) (k : Ev g r) : Ev (fun n => if c then f n else g n) r := by
  obtain ⟨K, k⟩ := k
  exact ⟨K, fun n hn => (if_neg h).trans (k n hn)⟩
theorem ev_true {α : Type} {f g : Nat → Option α} {r : α} (k : Ev f r) : Ev (fun n => if true = true then f n else g n) r := ev_pos rfl k
theorem ev_false {α : Type} {f g : Nat → Option α} {r : α} (k : Ev g r) : Ev (fun n => if false = true then f n else g n) r := ev_neg (by simp) k
theorem ev_eq {α : Type} {f : Nat → Option α} {r q : α} (h : r = q) (k : Ev f q) : Ev f r := h ▸ k
theorem ev_const {α : Type} {a : Option α} {r : α} (h : a = some r) : Ev (fun _ => a) r := ⟨0, fun _ _ => h⟩
theorem ev_bind0 {α β : Type} {g : Nat → Option α} {f : α → Option β} {a : α} {r : β} (h : Ev g a) (k : f a = some r) : Ev (fun n => (g n).bind f) r := Ev.bind (f := fun _ => f) h (ev_const k)

theorem ev_j {α : Type} {g : Nat → Bool → Option α} {f h : Nat → Option α} {r : α} {b : Bool} (hj : ∀ k x, g (k + 1) x = if x = true then f k else h k) (k1 : b = true → Ev f r) (k2 : b = false → Ev h r) : Ev (fun k => g k b) r := by
  cases b with
  | true => exact Ev.step (fun k => (hj k true).trans (if_pos rfl)) (k1 rfl)
  | false => exact Ev.step (fun k => (hj k false).trans (if_neg (by simp))) (k2 rfl)

theorem wr {x : Int} (h : -9223372036854775808 ≤ x) (h' : x ≤ 9223372036854775807) : wrap64 x = x := by unfold wrap64; omega
theorem wr1 {i : Nat} (h : (i : Int) < 9223372036854775807) : wrap64 ((i : Int) + 1) = ((i + 1 : Nat) : Int) := by unfold wrap64; omega
theorem rd_get {xs : List Int} {i : Nat} (h : i < xs.length) : rd xs (i : Int) = xs[i] := by simp [rd, h]
theorem rd_mem {xs : List Int} {i : Nat} (h : i < xs.length) : rd xs (i : Int) ∈ xs := by rw [rd_get h]; exact List.getElem_mem h
theorem drop_rd {xs : List Int} {i : Nat} (h : i < xs.length) : xs.drop i = rd xs (i : Int) :: xs.drop (i + 1) := by
  rw [List.drop_eq_getElem_cons h, rd_get h]
theorem take_rd {xs : List Int} {i : Nat} (h : i < xs.length) : xs.take (i + 1) = xs.take i ++ [rd xs (i : Int)] := by
  rw [List.take_succ_eq_append_getElem h, rd_get h]
theorem drop_all {α : Type} {xs : List α} {i : Nat} (h : xs.length ≤ i) : xs.drop i = [] := List.drop_of_length_le h
theorem take_all {α : Type} {xs : List α} {i : Nat} (h : xs.length ≤ i) : xs.take i = xs := List.take_of_length_le h
theorem rd_zero {x : Int} {xs : List Int} : rd (x :: xs) 0 = x := rfl
/-- A walk up to n: what holds at each place, from the last one down. -/
theorem up_to {P : Nat → Prop} (n : Nat) (hend : P n) (hround : ∀ i, i < n → P (i + 1) → P i) : ∀ i, i ≤ n → P i := by
  have key : ∀ d i, i + d = n → P i := by
    intro d
    induction d with
    | zero => intro i h; have : i = n := by omega
              subst this; exact hend
    | succ d ih => intro i h; exact hround i (by omega) (ih (i + 1) (by omega))
  intro i hi
  exact key (n - i) i (by omega)

/-- A loop over the places of a list that ends at the first element without p. -/
theorem ev_all {L : Nat → Int → Option Bool} {xs : List Int} {T : Nat → Int → Option Bool} {p : Int → Bool} (hn : (xs.length : Int) ≤ 140737488355328)
    (hL : ∀ k i, L (k + 1) i = if i < (xs.length : Int) then (if 0 ≤ i then (if i < (xs.length : Int) then ((T k (rd xs i)).bind fun t => (if t = true then L k (wrap64 (i + 1)) else some false)) else none) else none) else some true)
    (hT : ∀ x, x ∈ xs → Ev (fun k => T k x) (p x)) : Ev (fun k => L k 0) (xs.all p) := by
  have key : ∀ i, i ≤ xs.length → Ev (fun k => L k (i : Int)) ((xs.drop i).all p) := by
    refine up_to _ ?_ ?_
    · rw [drop_all (Nat.le_refl _)]
      exact Ev.step (fun k => hL k _) (ev_neg (by omega) (Ev.now true))
    · intro i hi ih
      rw [drop_rd hi, List.all_cons]
      refine Ev.step (fun k => hL k _) (ev_pos (by omega) (ev_pos (by omega) (ev_pos (by omega) (Ev.bind (hT _ (rd_mem hi)) ?_))))
      rw [wr1 (by omega)]
      cases hp : p (rd xs (i : Int)) with
      | true => exact ev_true (by simpa using ih)
      | false => exact ev_false (by simpa using Ev.now false)
  have := key 0 (Nat.zero_le _)
  simpa using this

/-- Two lists of one length, compared place by place. -/
theorem ev_same {L : Nat → Int → Option Bool} {xs ys : List Int} (hn : (xs.length : Int) ≤ 140737488355328) (he : xs.length = ys.length)
    (hL : ∀ k i, L (k + 1) i = if i < (xs.length : Int) then (if 0 ≤ i then (if i < (ys.length : Int) then (if rd xs i = rd ys i then L k (wrap64 (i + 1)) else some false) else none) else none) else some true)
    : Ev (fun k => L k 0) (decide (xs = ys)) := by
  have key : ∀ i, i ≤ xs.length → Ev (fun k => L k (i : Int)) (decide (xs.drop i = ys.drop i)) := by
    refine up_to _ ?_ ?_
    · rw [drop_all (Nat.le_refl _), drop_all (by omega)]
      exact Ev.step (fun k => hL k _) (ev_neg (by omega) (ev_eq (by simp) (Ev.now true)))
    · intro i hi ih
      rw [drop_rd hi, drop_rd (by omega : i < ys.length)]
      refine Ev.step (fun k => hL k _) (ev_pos (by omega) (ev_pos (by omega) (ev_pos (by omega) ?_)))
      rw [wr1 (by omega)]
      by_cases e : rd xs (i : Int) = rd ys (i : Int)
      · refine ev_pos e (ev_eq ?_ ih)
        simp [e]
      · refine ev_neg e (ev_eq ?_ (Ev.now false))
        simp [e]
  have := key 0 (Nat.zero_le _)
  simpa using this
end Go.Proofs.Ytebjiooojkhkpaa.Pure

/- What the drawing helpers come to at any bytes: they answer, their places stay small, and what is drawn lies where it should. Condition: the bytes are bytes. -/
namespace Go.Proofs.Ytebjiooojkhkpaa.Pure
open Go.RowKit Go.Proofs.Ytebjiooojkhkpaa.X Go.Proofs.YtebjiooojkhkpaaW.PrintWords Go.Proofs.YtebjiooojkhkpaaW.PrintMore
set_option linter.unusedVariables false
set_option linter.unusedSimpArgs false

/-- Bytes, not too many. -/
def Bytes (c : List Int) : Prop := (c.length : Int) ≤ 140737488355328 ∧ ∀ x ∈ c, 0 ≤ x ∧ x ≤ 255
/-- A place to read at that is far from the end of a word. -/
def Spot (a : Int) : Prop := 0 ≤ a ∧ a ≤ 1000000000000
theorem bytes_of {c : List Int} (h1 : c.length * 1 ≤ 140737488351232) (h2 : ∀ x ∈ c, (Lit.int .u8 x).wf = true) : Bytes c := by
  refine ⟨by omega, fun x hx => ?_⟩
  have h := h2 x hx
  have e1 : IntKind.u8.min = 0 := by decide
  have e2 : IntKind.u8.max = 255 := by decide
  simp only [Lit.wf, Bool.and_eq_true, decide_eq_true_eq] at h
  rw [e1, e2] at h
  exact h
theorem u64_and255 (x : Int) (h0 : 0 ≤ x) (h1 : x < 18446744073709551616) : Go.bits .and .u64 x 255 = x % 256 := bits_mask .u64 64 (by decide) wraps_u64 8 (by decide) x h0 h1
theorem u64_wrap_bd (x : Int) : 0 ≤ IntKind.u64.wrap x ∧ IntKind.u64.wrap x < 18446744073709551616 := by rw [IntKind.wrap_u64]; omega
theorem seed_byte (x : Int) : 0 ≤ wrap64 (Go.bits .and .u64 ((IntKind.u64.wrap x) / 1099511627776) 255) ∧ wrap64 (Go.bits .and .u64 ((IntKind.u64.wrap x) / 1099511627776) 255) ≤ 255 := by
  have h := u64_wrap_bd x
  rw [u64_and255 _ (by omega) (by omega), wr (by omega) (by omega)]
  omega
theorem next_ok {c : List Int} (hc : Bytes c) {a : Int} (s : Int) (ha : Spot a) : ∃ v s', spec_l1Cur_next.f c a s = some (v, a + 1, s') ∧ 0 ≤ v ∧ v ≤ 255 := by
  unfold spec_l1Cur_next.f
  obtain ⟨h0, h1⟩ := ha
  have e : wrap64 (a + 1) = a + 1 := wr (by omega) (by omega)
  rw [e]
  by_cases h2 : a < (c.length : Int)
  · have hb : 0 ≤ rd c a ∧ rd c a ≤ 255 := by
      obtain ⟨n, rfl⟩ := Int.eq_ofNat_of_zero_le h0
      exact hc.2 _ (rd_mem (by omega))
    rw [if_pos h2, if_pos h0, if_pos (by omega)]
    exact ⟨_, _, rfl, by rw [wr (by omega) (by omega)]; omega, by rw [wr (by omega) (by omega)]; omega⟩
  · rw [if_neg h2]
    by_cases h3 : a + 1 ≤ (c.length : Int)
    · rw [if_pos h3]
      exact ⟨_, _, rfl, by omega, by omega⟩
    · rw [if_neg h3]
      exact ⟨_, _, rfl, (seed_byte _).1, (seed_byte _).2⟩
theorem tmod_bd {x n : Int} (h : 0 ≤ x) (hn : 0 < n) : 0 ≤ Int.tmod x n ∧ Int.tmod x n < n := ⟨Int.tmod_nonneg _ h, Int.tmod_lt_of_pos _ hn⟩
/-- A number below n (0, where n is at most 1). -/
theorem pick_ok {c : List Int} (hc : Bytes c) {a : Int} (s : Int) (ha : Spot a) (n : Int) : ∃ v a' s', spec_l1Cur_pick.f c a s n = some (v, a', s') ∧ 0 ≤ v ∧ (v < n ∨ v = 0) ∧ (n ≤ 1 → v = 0) ∧ (n ≤ 256 → v ≤ 255) ∧ a ≤ a' ∧ a' ≤ a + 2 := by
  unfold spec_l1Cur_pick.f
  by_cases h1 : n ≤ 1
  · rw [if_pos h1]
    exact ⟨0, a, s, rfl, by omega, by omega, by omega, by omega, by omega, by omega⟩
  · rw [if_neg h1]
    obtain ⟨v, s', e, h2, h3⟩ := next_ok hc s ha
    rw [e, Option.bind_some]
    dsimp only
    by_cases h4 : n > 200
    · have hs : a + 1 ≤ 1000000000000 ∨ 1000000000000 < a + 1 := by omega
      rw [if_pos h4]
      have ha2 : ∃ v2 s2, spec_l1Cur_next.f c (a + 1) s' = some (v2, a + 1 + 1, s2) ∧ 0 ≤ v2 ∧ v2 ≤ 255 := by
        rcases hs with hs | hs
        · exact next_ok hc s' ⟨by have := ha.1; omega, hs⟩
        · unfold spec_l1Cur_next.f
          have := ha.1
          have := ha.2
          have e : wrap64 (a + 1 + 1) = a + 1 + 1 := wr (by omega) (by omega)
          rw [e]
          by_cases h2 : a + 1 < (c.length : Int)
          · have hb : 0 ≤ rd c (a + 1) ∧ rd c (a + 1) ≤ 255 := by
              obtain ⟨n, hn⟩ := Int.eq_ofNat_of_zero_le (by omega : 0 ≤ a + 1)
              rw [hn]
              exact hc.2 _ (rd_mem (by omega))
            rw [if_pos h2, if_pos (by omega), if_pos (by omega)]
            exact ⟨_, _, rfl, by rw [wr (by omega) (by omega)]; omega, by rw [wr (by omega) (by omega)]; omega⟩
          · rw [if_neg h2]
            by_cases h3 : a + 1 + 1 ≤ (c.length : Int)
            · rw [if_pos h3]
              exact ⟨_, _, rfl, by omega, by omega⟩
            · rw [if_neg h3]
              exact ⟨_, _, rfl, (seed_byte _).1, (seed_byte _).2⟩
      obtain ⟨v2, s2, e2, h5, h6⟩ := ha2
      rw [e2, Option.bind_some]
      dsimp only
      rw [if_neg (by omega : ¬ n = 0), wr (x := v * 256) (by omega) (by omega), wr (by omega) (by omega)]
      have h7 := tmod_bd (x := v * 256 + v2) (n := n) (by omega) (by omega)
      exact ⟨_, _, _, rfl, h7.1, by omega, by omega, by omega, by omega, by omega⟩
    · rw [if_neg h4, if_neg (by omega : ¬ n = 0)]
      have h7 := tmod_bd (x := v) (n := n) (by omega) (by omega)
      exact ⟨_, _, _, rfl, h7.1, by omega, by omega, by omega, by omega, by omega⟩
theorem among_ok {c : List Int} (hc : Bytes c) {a : Int} (s : Int) (ha : Spot a) (l : List Int) (hl : 0 < l.length) : ∃ v a' s', spec_l1Cur_among.f c a s l = some (v, a', s') ∧ v ∈ l ∧ a ≤ a' ∧ a' ≤ a + 2 := by
  unfold spec_l1Cur_among.f
  obtain ⟨v, a', s', e, h1, h2, h3, _, h4, h5⟩ := pick_ok hc s ha (l.length : Int)
  rw [e, Option.bind_some]
  dsimp only
  rw [if_pos h1, if_pos (by omega)]
  obtain ⟨n, rfl⟩ := Int.eq_ofNat_of_zero_le h1
  exact ⟨_, _, _, rfl, rd_mem (by omega), h4, h5⟩
theorem one_ok {c : List Int} (hc : Bytes c) {a : Int} (s : Int) (ha : Spot a) (n : Int) : ∃ b a' s', spec_l1Cur_one.f c a s n = some (b, a', s') ∧ a ≤ a' ∧ a' ≤ a + 2 := by
  unfold spec_l1Cur_one.f
  obtain ⟨v, a', s', e, _, _, _, _, h4, h5⟩ := pick_ok hc s ha n
  rw [e, Option.bind_some]
  exact ⟨_, _, _, rfl, h4, h5⟩
theorem small_ok {c : List Int} (hc : Bytes c) {a : Int} (s : Int) (ha : Spot a) : ∃ v a' s', spec_l1Cur_small.f c a s = some (v, a', s') ∧ -4 ≤ v ∧ v ≤ 8 ∧ a ≤ a' ∧ a' ≤ a + 2 := by
  unfold spec_l1Cur_small.f
  obtain ⟨v, a', s', e, h1, h2, _, _, h4, h5⟩ := pick_ok hc s ha 13
  rw [e, Option.bind_some]
  dsimp only
  rw [wr (by omega) (by omega)]
  exact ⟨_, _, _, rfl, by omega, by omega, h4, h5⟩
/-- n small numbers. -/
theorem plain_ok {c : List Int} (hc : Bytes c) {a : Int} (s : Int) (n : Int) (hn : n ≤ 1000) (h0 : 0 ≤ a) (h1 : a ≤ 1000000000) : ∃ xs a' s', Ev (fun k => spec_l1Cur_plain.f k c a s n) (xs, a', s') ∧ (xs.length : Int) = max n 0 ∧ (∀ x ∈ xs, -4 ≤ x ∧ x ≤ 8) ∧ a ≤ a' ∧ a' ≤ a + 2000 := by
  unfold spec_l1Cur_plain.f
  have key : ∀ f : Nat, ∀ (xs : List Int) (a s : Int), (f : Int) = max n 0 - (xs.length : Int) → (∀ x ∈ xs, -4 ≤ x ∧ x ≤ 8) → 0 ≤ a → a ≤ 1000000000 + 2 * (xs.length : Int) → ∃ ys a' s', Ev (fun k => spec_l1Cur_plain.l0 k n xs c a s) (ys, a', s') ∧ (ys.length : Int) = max n 0 ∧ (∀ x ∈ ys, -4 ≤ x ∧ x ≤ 8) ∧ a ≤ a' ∧ a' ≤ a + 2 * (f : Int) := by
    intro f
    induction f with
    | zero =>
      intro xs a s hf hx h0 h1
      exact ⟨xs, a, s, Ev.step (fun k => rfl) (ev_neg (by omega) (Ev.now _)), by omega, hx, by omega, by omega⟩
    | succ f ih =>
      intro xs a s hf hx h0 h1
      obtain ⟨v, a1, s1, e, h2, h3, h4, h5⟩ := small_ok hc s (⟨h0, by omega⟩ : Spot a)
      obtain ⟨ys, a', s', he, h6, h7, h8, h9⟩ := ih (xs ++ [v]) a1 s1 (by simp; omega) (by
        intro x hx2
        rcases List.mem_append.1 hx2 with hx2 | hx2
        · exact hx x hx2
        · simp at hx2
          omega) (by omega) (by simp; omega)
      exact ⟨ys, a', s', Ev.step (fun k => rfl) (ev_pos (by omega) (Ev.bind (ev_const e) (ev_pos (by omega) he))), h6, h7, by omega, by omega⟩
  obtain ⟨ys, a', s', he, h6, h7, h8, h9⟩ := key (max n 0).toNat [] a s (by simp only [List.length_nil]; omega) (by simp) h0 (by simp only [List.length_nil]; omega)
  exact ⟨ys, a', s', he, h6, h7, h8, by omega⟩
end Go.Proofs.Ytebjiooojkhkpaa.Pure

/- What the small tests of numbers and vectors come to, the program's and the reference's. Condition: lists no longer than memory allows. -/
namespace Go.Proofs.Ytebjiooojkhkpaa.Pure
open Go.RowKit Go.Proofs.Ytebjiooojkhkpaa.X Go.Proofs.YtebjiooojkhkpaaW.PrintWords Go.Proofs.YtebjiooojkhkpaaW.PrintMore
set_option linter.unusedVariables false
set_option linter.unusedSimpArgs false

/-- A number other than Infinity. -/
def finB (n : Int) : Bool := decide (-1000000 ≤ n ∧ n ≤ 1000000)
def numB (n : Int) : Bool := finB n || n == 1000000000
def vecB (l : List Int) : Bool := decide (1 ≤ l.length ∧ l.length ≤ 6) && l.all numB
theorem within_eq (a b c : Int) : impl_within.f a b c = some (decide (b ≤ a ∧ a ≤ c)) := by
  unfold impl_within.f
  by_cases h : a ≥ b
  · rw [if_pos h]; simp; omega
  · rw [if_neg h]; simp; omega
theorem l1In_eq (a b c : Int) : spec_l1In.f a b c = some (decide (b ≤ a ∧ a ≤ c)) := by
  unfold spec_l1In.f
  by_cases h : a ≥ b
  · rw [if_pos h]; simp; omega
  · rw [if_neg h]; simp; omega
theorem isFinite_eq (n : Int) : impl_isFinite.f n = some (finB n) := by
  unfold impl_isFinite.f finB
  by_cases h : n ≥ -1000000
  · rw [if_pos h]; simp; omega
  · rw [if_neg h]; simp; omega
theorem isNumber_eq (n : Int) : impl_isNumber.f n = some (numB n) := by
  unfold impl_isNumber.f numB
  rw [isFinite_eq, Option.bind_some]
  cases finB n <;> simp
theorem ev_areNumbers (l : List Int) (hn : (l.length : Int) ≤ 140737488355328) : Ev (fun k => impl_areNumbers.f k l) (l.all numB) :=
  ev_all hn (T := fun _ x => impl_isNumber.f x) (fun _ _ => rfl) (fun x _ => ev_const (isNumber_eq x))
theorem ev_isVector (l : List Int) (hn : (l.length : Int) ≤ 140737488355328) : Ev (fun k => impl_isVector.f k l) (vecB l) := by
  unfold impl_isVector.f
  refine Ev.bind (ev_const (within_eq _ _ _)) ?_
  by_cases h : 1 ≤ l.length ∧ l.length ≤ 6
  · refine ev_pos (by simp; omega) (ev_bind0 (ev_areNumbers l hn) ?_)
    simp [vecB, h]
  · refine ev_neg (by simp; omega) (ev_const ?_)
    simp [vecB, h]
theorem ev_l1All (l : List Int) (lo hi : Int) (hn : (l.length : Int) ≤ 140737488355328) : Ev (fun k => spec_l1All.f k l lo hi) (l.all fun n => decide (lo ≤ n ∧ n ≤ hi)) :=
  ev_all hn (L := fun k i => spec_l1All.l0 k lo hi l (l.length : Int) i) (T := fun _ x => spec_l1In.f x lo hi) (fun _ _ => rfl) (fun x _ => ev_const (l1In_eq x lo hi))

end Go.Proofs.Ytebjiooojkhkpaa.Pure

/- Matrices, families, turned matrices, products of rows: what the program's functions come to. Condition: lists no longer than memory allows. -/
namespace Go.Proofs.Ytebjiooojkhkpaa.Pure
open Go.RowKit Go.Proofs.Ytebjiooojkhkpaa.X Go.Proofs.YtebjiooojkhkpaaW.PrintWords Go.Proofs.YtebjiooojkhkpaaW.PrintMore
set_option linter.unusedVariables false
set_option linter.unusedSimpArgs false

theorem rrd_get {xs : List (List Int)} {i : Nat} (h : i < xs.length) : rd_L1 xs (i : Int) = xs[i] := by simp [rd_L1, h]
theorem rrd_mem {xs : List (List Int)} {i : Nat} (h : i < xs.length) : rd_L1 xs (i : Int) ∈ xs := by rw [rrd_get h]; exact List.getElem_mem h
theorem drop_rrd {xs : List (List Int)} {i : Nat} (h : i < xs.length) : xs.drop i = rd_L1 xs (i : Int) :: xs.drop (i + 1) := by rw [List.drop_eq_getElem_cons h, rrd_get h]
theorem take_rrd {xs : List (List Int)} {i : Nat} (h : i < xs.length) : xs.take (i + 1) = xs.take i ++ [rd_L1 xs (i : Int)] := by rw [List.take_succ_eq_append_getElem h, rrd_get h]
theorem rrd_zero (xs : List (List Int)) : rd_L1 xs 0 = xs.getD 0 [] := rfl
theorem mx_max' (a b : Int) : mx a b = max a b := by unfold mx; omega
theorem mn_min' (a b : Int) : mn a b = min a b := by unfold mn; omega

/-- Rows are no longer than memory. -/
def Short (l : List (List Int)) : Prop := (l.length : Int) ≤ 1048576 ∧ ∀ r ∈ l, (r.length : Int) ≤ 1048576
/-- A matrix. -/
def matB (l : List (List Int)) : Bool := decide (1 ≤ l.length ∧ l.length ≤ 6) && l.all fun r => vecB r && decide (r.length = (l.getD 0 []).length)
theorem ev_isMatrix (l : List (List Int)) (h : Short l) : Ev (fun k => impl_isMatrix.f k l) (matB l) := by
  unfold impl_isMatrix.f
  refine Ev.bind (ev_const (within_eq _ _ _)) ?_
  by_cases h1 : 1 ≤ l.length ∧ l.length ≤ 6
  · refine ev_pos (by simp; omega) ?_
    have e : Ev (fun k => Ext.anyO (impl_isMatrix.g k l) l) (l.any fun r => !(vecB r && decide (r.length = (l.getD 0 []).length))) := by
      refine Ext.ev_anyO l fun r hr => ?_
      unfold impl_isMatrix.g
      refine Ev.bind (ev_isVector r (by have := h.2 r hr; omega)) ?_
      cases hv : vecB r with
      | false => exact ev_false (ev_const (by simp))
      | true =>
        refine ev_true (ev_const ?_)
        generalize (l.getD 0 []).length = m
        by_cases e : r.length = m
        · simp [e]
        · have e2 : ¬ ((r.length : Int) = (m : Int)) := by omega
          simp [e, e2]
    refine ev_bind0 e ?_
    simp only [matB, h1, and_self, decide_true, Bool.true_and]
    congr 1
    rw [List.any_eq_not_all_not]
    simp
  · refine ev_neg (by simp; omega) (ev_const ?_)
    simp [matB, h1]
/-- All rows have the length m. -/
def Wide (l : List (List Int)) (m : Nat) : Prop := ∀ r ∈ l, r.length = m
theorem matB_parts {l : List (List Int)} (h : matB l = true) : 1 ≤ l.length ∧ l.length ≤ 6 ∧ 1 ≤ (l.getD 0 []).length ∧ (l.getD 0 []).length ≤ 6 ∧ Wide l (l.getD 0 []).length ∧ ∀ r ∈ l, ∀ x ∈ r, numB x = true := by
  simp only [matB, Bool.and_eq_true, decide_eq_true_eq, List.all_eq_true, vecB] at h
  have h0 : l.getD 0 [] ∈ l := by
    cases l with
    | nil => simp at h
    | cons a t => simp
  have h1 := (h.2 _ h0).1.1
  exact ⟨h.1.1, h.1.2, h1.1, h1.2, fun r hr => (h.2 r hr).2, fun r hr x hx => (h.2 r hr).1.2 x hx⟩
theorem wide_rrd {l : List (List Int)} {m i : Nat} (h : Wide l m) (hi : i < l.length) : (rd_L1 l (i : Int)).length = m := h _ (rrd_mem hi)


end Go.Proofs.Ytebjiooojkhkpaa.Pure

/- The reference's test of a matrix and of a square one: the same as the program's. Condition: lists no longer than memory allows. -/
namespace Go.Proofs.Ytebjiooojkhkpaa.Pure
open Go.RowKit Go.Proofs.Ytebjiooojkhkpaa.X Go.Proofs.YtebjiooojkhkpaaW.PrintWords Go.Proofs.YtebjiooojkhkpaaW.PrintMore
set_option linter.unusedVariables false
set_option linter.unusedSimpArgs false

theorem nuGood_eq (n : Int) : spec_nuGood.f n = some (numB n) := by
  unfold spec_nuGood.f numB finB
  by_cases h : n = 1000000000
  · rw [if_pos h]; simp [h]
  · rw [if_neg h, l1In_eq]; simp [h]
theorem ev_mxVector (l : List Int) (hn : (l.length : Int) ≤ 140737488355328) : Ev (fun k => spec_mxVector.f k l) (vecB l) := by
  unfold spec_mxVector.f
  have key : ∀ i, i ≤ l.length → Ev (fun k => spec_mxVector.l0 k l l (l.length : Int) (i : Int)) (decide (1 ≤ l.length ∧ l.length ≤ 6) && (l.drop i).all numB) := by
    refine up_to _ ?_ ?_
    · rw [drop_all (Nat.le_refl _)]
      refine Ev.step (fun k => rfl) (ev_neg (by omega) (Ev.bind (ev_const (l1In_eq _ _ _)) (ev_const ?_)))
      rw [List.all_nil, Bool.and_true]
      congr 1
      rw [decide_eq_decide]
      omega
    · intro i hi ih
      rw [drop_rd hi, List.all_cons]
      refine Ev.step (fun k => rfl) (ev_pos (by omega) (ev_pos (by omega) (ev_pos (by omega) (Ev.bind (ev_const (nuGood_eq _)) ?_))))
      rw [wr1 (by omega)]
      cases hp : numB (rd l (i : Int)) with
      | true => exact ev_true (by simpa using ih)
      | false => exact ev_false (by simpa using Ev.now false)
  have := key 0 (Nat.zero_le _)
  simpa [vecB] using this
theorem ev_mxGood (l : List (List Int)) (h : Short l) : Ev (fun k => spec_mxGood.f k l) (matB l) := by
  unfold spec_mxGood.f
  refine Ev.bind (ev_const (l1In_eq _ _ _)) ?_
  by_cases h1 : 1 ≤ l.length ∧ l.length ≤ 6
  · refine ev_pos (by simp; omega) (ev_pos (by omega) (Ev.bind (ev_const (l1In_eq _ _ _)) ?_))
    rw [rrd_zero]
    by_cases h2 : 1 ≤ (l.getD 0 []).length ∧ (l.getD 0 []).length ≤ 6
    · refine ev_j (g := fun k x => spec_mxGood.j0 k l x) (fun _ _ => rfl) (fun hb => ?_) (fun _ => ?_)
      · exfalso
        simp at hb
        simp at h2
        omega
      have key : ∀ i, i ≤ l.length → Ev (fun k => spec_mxGood.l0 k l l (l.length : Int) (i : Int)) ((l.drop i).all fun r => vecB r && decide (r.length = (l.getD 0 []).length)) := by
        refine up_to _ ?_ ?_
        · rw [drop_all (Nat.le_refl _)]
          exact Ev.step (fun k => rfl) (ev_neg (by omega) (Ev.now _))
        · intro i hi ih
          rw [drop_rrd hi, List.all_cons]
          have hr := rrd_mem hi
          refine Ev.step (fun k => rfl) (ev_pos (by omega) (ev_pos (by omega) (ev_pos (by omega) (ev_pos (by omega) ?_))))
          by_cases e : (rd_L1 l (i : Int)).length = (l.getD 0 []).length
          · refine ev_pos (by rw [rrd_zero]; omega) (Ev.bind (ev_mxVector _ (by have := h.2 _ hr; omega)) ?_)
            cases hv : vecB (rd_L1 l (i : Int)) with
            | false => exact ev_false (ev_const (by simp))
            | true =>
              refine ev_true ?_
              rw [wr1 (by have := h.1; omega)]
              refine ev_eq ?_ ih
              rw [decide_eq_true e]
              simp
          · refine ev_neg (by rw [rrd_zero]; omega) (ev_const ?_)
            rw [decide_eq_false e]
            simp
      have := key 0 (Nat.zero_le _)
      simpa [matB, h1] using this
    · refine ev_j (g := fun k x => spec_mxGood.j0 k l x) (fun _ _ => rfl) (fun _ => ev_const ?_) (fun hb => ?_)
      rotate_left
      · exfalso
        simp at hb
        simp at h2
        omega
      cases hm : matB l with
      | false => rfl
      | true => have := matB_parts hm; exact absurd ⟨this.2.2.1, this.2.2.2.1⟩ h2
  · refine ev_neg (by simp; omega) (ev_j (g := fun k x => spec_mxGood.j0 k l x) (fun _ _ => rfl) (fun _ => ev_const ?_) (fun hb => nomatch hb))
    simp [matB, h1]
/-- A square matrix. -/
def sqB (l : List (List Int)) : Bool := matB l && decide (l.length = (l.getD 0 []).length)
theorem ev_mxSquare (l : List (List Int)) (h : Short l) : Ev (fun k => spec_mxSquare.f k l) (sqB l) := by
  unfold spec_mxSquare.f
  refine Ev.bind (ev_mxGood l h) ?_
  unfold sqB
  cases hm : matB l with
  | false => exact ev_false (ev_const rfl)
  | true =>
    have := matB_parts hm
    refine ev_true (ev_pos (by omega) (ev_const ?_))
    rw [rrd_zero]
    congr 1
    rw [Bool.eq_iff_iff]
    simp
    omega
theorem ev_isSquare (l : List (List Int)) (h : Short l) : Ev (fun k => impl_isSquare.f k l) (sqB l) := by
  unfold impl_isSquare.f
  refine Ev.bind (ev_isMatrix l h) ?_
  unfold sqB
  cases hm : matB l with
  | false => exact ev_false (ev_const rfl)
  | true =>
    have := matB_parts hm
    refine ev_true (ev_pos (by omega) (ev_const ?_))
    rw [rrd_zero]
    congr 1
    rw [Bool.eq_iff_iff]
    simp
    omega
theorem sqB_parts {l : List (List Int)} (h : sqB l = true) : 1 ≤ l.length ∧ l.length ≤ 6 ∧ Wide l l.length ∧ ∀ r ∈ l, ∀ x ∈ r, numB x = true := by
  simp only [sqB, Bool.and_eq_true, decide_eq_true_eq] at h
  have := matB_parts h.1
  refine ⟨this.1, this.2.1, ?_, this.2.2.2.2.2⟩
  rw [h.2]
  exact this.2.2.2.2.1
end Go.Proofs.Ytebjiooojkhkpaa.Pure

/- Trains, departures, the next round: what the program and the reference come to. Condition: lists no longer than memory allows. -/
namespace Go.Proofs.Ytebjiooojkhkpaa.Pure
open Go.RowKit Go.Proofs.Ytebjiooojkhkpaa.X Go.Proofs.YtebjiooojkhkpaaW.PrintWords Go.Proofs.YtebjiooojkhkpaaW.PrintMore
set_option linter.unusedVariables false
set_option linter.unusedSimpArgs false

def tokB (n : Int) : Bool := decide (n = 1000000000 ∨ (0 ≤ n ∧ n ≤ 1000))
def neB (n : Int) : Bool := decide (n ≠ 1000000000)
def trowB (r : List Int) : Bool := r.all tokB && r.any neB
/-- Trains. -/
def trB (l : List (List Int)) : Bool := sqB l && l.all trowB
theorem ev_trGood (l : List (List Int)) (h : Short l) : Ev (fun k => spec_trGood.f k l) (trB l) := by
  unfold spec_trGood.f
  refine Ev.bind (ev_mxSquare l h) ?_
  unfold trB
  cases hm : sqB l with
  | false => exact ev_false (ev_const rfl)
  | true =>
    refine ev_true ?_
    have key : ∀ i, i ≤ l.length → Ev (fun k => spec_trGood.l0 k l (l.length : Int) (i : Int)) ((l.drop i).all trowB) := by
      refine up_to _ ?_ ?_
      · rw [drop_all (Nat.le_refl _)]
        exact Ev.step (fun k => rfl) (ev_neg (by omega) (Ev.now _))
      · intro i hi ih
        rw [drop_rrd hi, List.all_cons]
        have hr := rrd_mem hi
        generalize he : rd_L1 l (i : Int) = r at hr
        have hl := h.2 r hr
        refine Ev.step (fun k => rfl) (ev_pos (by omega) (ev_pos (by omega) (ev_pos (by omega) ?_)))
        rw [he]
        have inner : ∀ j, j ≤ r.length → ∀ wb : Bool, Ev (fun k => spec_trGood.l1 k wb l (l.length : Int) (i : Int) r (r.length : Int) (j : Int)) (((r.drop j).all tokB && (wb || (r.drop j).any neB)) && (l.drop (i + 1)).all trowB) := by
          refine up_to _ ?_ ?_
          · intro wb
            rw [drop_all (Nat.le_refl _)]
            refine Ev.step (fun k => rfl) (ev_neg (by omega) ?_)
            cases wb with
            | true =>
              refine ev_true ?_
              rw [wr1 (by have := h.1; omega)]
              exact ev_eq (by simp) ih
            | false => exact ev_false (ev_const (by simp))
          · intro j hj ih2 wb
            rw [drop_rd hj, List.all_cons, List.any_cons]
            refine Ev.step (fun k => rfl) (ev_pos (by omega) (ev_pos (by omega) (ev_pos (by omega) ?_)))
            rw [wr1 (by omega)]
            generalize rd r (j : Int) = x
            by_cases hx : x = 1000000000
            · refine ev_pos hx ?_
              have e1 : tokB x = true := by simp [tokB, hx]
              have e2 : neB x = false := by simp [neB, hx]
              have e3 : (x != 1000000000) = false := by simp [hx]
              rw [e1, e2, e3]
              cases wb with
              | true => exact ev_true (ev_eq (by simp) (ih2 true))
              | false => exact ev_false (ev_eq (by simp) (ih2 false))
            · refine ev_neg hx (Ev.bind (ev_const (l1In_eq _ _ _)) ?_)
              have e2 : neB x = true := by simp [neB, hx]
              have e3 : (x != 1000000000) = true := by simp [hx]
              rw [e2, e3]
              by_cases h3 : 0 ≤ x ∧ x ≤ 1000
              · have e1 : tokB x = true := by simp [tokB, h3]
                rw [e1]
                refine ev_pos (by rw [decide_eq_true_eq]; exact h3) ?_
                cases wb with
                | true => exact ev_true (ev_eq (by simp) (ih2 true))
                | false => exact ev_false (ev_eq (by simp) (ih2 true))
              · have e1 : tokB x = false := by simp only [tokB, decide_eq_false_iff_not]; omega
                rw [e1]
                exact ev_neg (by rw [decide_eq_true_eq]; exact h3) (ev_const (by simp))
        have := inner 0 (Nat.zero_le _) false
        simpa [trowB] using this
    have := key 0 (Nat.zero_le _)
    simpa using this
theorem foldl_min_le (r : List Int) : ∀ a, r.foldl min a ≤ a := by
  induction r with
  | nil => intro a; exact Int.le_refl _
  | cons x t ih => intro a; have := ih (min a x); rw [List.foldl_cons]; omega
theorem foldl_min_none {r : List Int} (h : r.any neB = false) : r.foldl min 1000000000 = 1000000000 := by
  induction r with
  | nil => rfl
  | cons x t ih =>
    rw [List.any_cons, Bool.or_eq_false_iff] at h
    have hx : x = 1000000000 := by have := h.1; simp only [neB, decide_eq_false_iff_not] at this; omega
    rw [List.foldl_cons, hx]
    exact ih h.2
theorem foldl_min_some {r : List Int} (hb : ∀ x ∈ r, x ≤ 1000000000) (h : r.any neB = true) : ∀ a, a ≤ 1000000000 → r.foldl min a ≠ 1000000000 := by
  induction r with
  | nil => cases h
  | cons x t ih =>
    intro a ha
    rw [List.foldl_cons]
    have hx := hb x (List.mem_cons_self ..)
    by_cases e : x = 1000000000
    · rw [List.any_cons] at h
      have e2 : neB x = false := by simp [neB, e]
      rw [e2, Bool.false_or] at h
      exact ih (fun y hy => hb y (List.mem_cons_of_mem _ hy)) h _ (by omega)
    · have := foldl_min_le t (min a x)
      omega
theorem ev_sumOf (l : List Int) (hn : (l.length : Int) ≤ 140737488355328) : Ev (fun k => impl_sumOf.f k l) (l.foldl min 1000000000) := by
  unfold impl_sumOf.f
  have key : ∀ i, i ≤ l.length → ∀ a, Ev (fun k => impl_sumOf.l0 k a l (l.length : Int) (i : Int)) ((l.drop i).foldl min a) := by
    refine up_to _ ?_ ?_
    · intro a
      rw [drop_all (Nat.le_refl _)]
      exact Ev.step (fun k => rfl) (ev_neg (by omega) (Ev.now _))
    · intro i hi ih a
      rw [drop_rd hi, List.foldl_cons]
      refine Ev.step (fun k => rfl) (ev_pos (by omega) (ev_pos (by omega) (ev_pos (by omega) ?_)))
      rw [wr1 (by omega), mn_min']
      exact ih _
  have := key 0 (Nat.zero_le _) 1000000000
  simpa using this
theorem ev_areTrains (l : List (List Int)) (h : Short l) : Ev (fun k => impl_areTrains.f k l) (trB l) := by
  unfold impl_areTrains.f
  refine Ev.bind (ev_isSquare l h) ?_
  unfold trB
  cases hm : sqB l with
  | false => exact ev_false (ev_const rfl)
  | true =>
    have hp := sqB_parts hm
    refine ev_true ?_
    have key : ∀ i, i ≤ l.length → Ev (fun k => impl_areTrains.l0 k l (l.length : Int) (i : Int)) ((l.drop i).all trowB) := by
      refine up_to _ ?_ ?_
      · rw [drop_all (Nat.le_refl _)]
        exact Ev.step (fun k => rfl) (ev_neg (by omega) (Ev.now _))
      · intro i hi ih
        rw [drop_rrd hi, List.all_cons]
        have hr := rrd_mem hi
        generalize he : rd_L1 l (i : Int) = r at hr
        have hl := h.2 r hr
        refine Ev.step (fun k => rfl) (ev_pos (by omega) (ev_pos (by omega) (ev_pos (by omega) ?_)))
        rw [he]
        have hb : ∀ x ∈ r, x ≤ 1000000000 := by
          intro x hx
          have := hp.2.2.2 r hr x hx
          simp [numB, finB] at this
          omega
        refine Ev.bind (ev_sumOf r (by omega)) ?_
        cases ha : r.any neB with
        | false =>
          refine ev_pos (foldl_min_none ha) (ev_const ?_)
          simp [trowB, ha]
        | true =>
          refine ev_neg (foldl_min_some hb ha _ (Int.le_refl _)) ?_
          have inner : ∀ j, j ≤ r.length → Ev (fun k => impl_areTrains.l1 k l (l.length : Int) (i : Int) r (r.length : Int) (j : Int)) ((r.drop j).all tokB && (l.drop (i + 1)).all trowB) := by
            refine up_to _ ?_ ?_
            · rw [drop_all (Nat.le_refl _)]
              refine Ev.step (fun k => rfl) (ev_neg (by omega) ?_)
              rw [wr1 (by have := h.1; omega)]
              exact ev_eq (by simp) ih
            · intro j hj ih2
              rw [drop_rd hj, List.all_cons]
              refine Ev.step (fun k => rfl) (ev_pos (by omega) (ev_pos (by omega) (ev_pos (by omega) ?_)))
              rw [wr1 (by omega)]
              generalize rd r (j : Int) = x
              by_cases hx : x = 1000000000
              · have e1 : tokB x = true := by simp [tokB, hx]
                rw [e1]
                exact ev_pos hx (ev_eq (by simp) ih2)
              · refine ev_neg hx (Ev.bind (ev_const (within_eq _ _ _)) ?_)
                by_cases h3 : 0 ≤ x ∧ x ≤ 1000
                · have e1 : tokB x = true := by simp [tokB, h3]
                  rw [e1]
                  exact ev_pos (by rw [decide_eq_true_eq]; exact h3) (ev_eq (by simp) ih2)
                · have e1 : tokB x = false := by simp only [tokB, decide_eq_false_iff_not]; omega
                  rw [e1]
                  exact ev_neg (by rw [decide_eq_true_eq]; exact h3) (ev_const (by simp))
          have := inner 0 (Nat.zero_le _)
          simpa [trowB, ha] using this
    have := key 0 (Nat.zero_le _)
    simpa using this
/-- What trains are. -/
structure Trains (l : List (List Int)) : Prop where
  pos : 1 ≤ l.length
  six : l.length ≤ 6
  wide : Wide l l.length
  ok : ∀ r ∈ l, ∀ x ∈ r, x = 1000000000 ∨ (0 ≤ x ∧ x ≤ 1000)
theorem trB_trains {l : List (List Int)} (h : trB l = true) : Trains l := by
  simp only [trB, Bool.and_eq_true, List.all_eq_true, trowB] at h
  have hp := sqB_parts h.1
  exact ⟨hp.1, hp.2.1, hp.2.2.1, fun r hr x hx => by simpa [tokB] using (h.2 r hr).1 x hx⟩

/-- Departures. -/
def timesB (d : List Int) : Bool := d.all fun n => decide (0 ≤ n ∧ n ≤ 100000)
theorem areTimes_eq (d : List Int) : impl_areTimes.f d = some (timesB d) := by
  unfold impl_areTimes.f
  obtain ⟨K, hK⟩ := (Ext.ev_anyO d (fun n _ => ev_const (by unfold impl_areTimes.g; rw [within_eq, Option.bind_some])) : Ev (fun _ => Ext.anyO impl_areTimes.g d) (d.any fun n => !decide (0 ≤ n ∧ n ≤ 100000)))
  have : Ext.anyO impl_areTimes.g d = _ := hK K (Nat.le_refl _)
  rw [this, Option.bind_some]
  congr 1
  unfold timesB
  rw [List.any_eq_not_all_not]
  simp
def bothB (l : List (List Int)) (d : List Int) : Bool := trB l && (decide (d.length = l.length) && timesB d)
theorem ev_trTimes (n : Nat) (d : List Int) (hd : (d.length : Int) ≤ 1048576) : Ev (fun k => spec_trTimes.f k (n : Int) d) (decide (d.length = n) && timesB d) := by
  unfold spec_trTimes.f
  by_cases h : d.length = n
  · refine ev_pos (by omega) (ev_bind0 (ev_l1All d 0 100000 (by omega)) ?_)
    simp [h, timesB]
  · exact ev_neg (by omega) (ev_const (by simp [h]))
theorem ev_trBoth (l : List (List Int)) (d : List Int) (h : Short l) (hd : (d.length : Int) ≤ 1048576) : Ev (fun k => spec_trBoth.f k l d) (bothB l d) := by
  unfold spec_trBoth.f bothB
  refine Ev.bind (ev_trGood l h) ?_
  cases trB l with
  | false => exact ev_false (ev_const rfl)
  | true => exact ev_true (ev_bind0 (ev_trTimes _ d hd) rfl)
theorem ev_areDepartures (l : List (List Int)) (d : List Int) (h : Short l) : Ev (fun k => impl_areDepartures.f k l d) (bothB l d) := by
  unfold impl_areDepartures.f bothB
  refine Ev.bind (ev_areTrains l h) ?_
  cases trB l with
  | false => exact ev_false (ev_const rfl)
  | true =>
    refine ev_true ?_
    by_cases e : d.length = l.length
    · exact ev_pos (by omega) (ev_const (by rw [areTimes_eq, Option.bind_some]; simp [e]))
    · exact ev_neg (by omega) (ev_const (by simp [e]))
/-- Numbers from 0 on. -/
def Upto (B : Int) (d : List Int) : Prop := ∀ x ∈ d, 0 ≤ x ∧ x ≤ B
theorem upto_rd {B : Int} {d : List Int} (h : Upto B d) {i : Nat} (hi : i < d.length) : 0 ≤ rd d (i : Int) ∧ rd d (i : Int) ≤ B := h _ (rd_mem hi)
theorem timesB_upto {d : List Int} (h : timesB d = true) : Upto 100000 d := by
  intro x hx
  simp only [timesB, List.all_eq_true] at h
  simpa using h x hx
theorem bothB_parts {l : List (List Int)} {d : List Int} (h : bothB l d = true) : Trains l ∧ d.length = l.length ∧ timesB d = true := by
  simp only [bothB, Bool.and_eq_true, decide_eq_true_eq] at h
  exact ⟨trB_trains h.1, h.2.1, h.2.2⟩

theorem l1Most_eq (a b : Int) : spec_l1Most.f a b = some (max a b) := by
  unfold spec_l1Most.f
  by_cases h : a > b
  · rw [if_pos h]; congr 1; omega
  · rw [if_neg h]; congr 1; omega
def stepM (a : Int) (p : Int × Int) : Int := if p.1 = 1000000000 then a else max a (p.2 + p.1)
/-- When a train may depart. -/
def mostB (a : Int) (r d : List Int) : Int := (List.zip r d).foldl stepM a
def nextB (l : List (List Int)) (d : List Int) : List Int := l.map fun r => mostB 0 r d
theorem nextB_length (l : List (List Int)) (d : List Int) : (nextB l d).length = l.length := by simp [nextB]
theorem most_step {r d : List Int} {i : Nat} (a : Int) (h1 : i < r.length) (h2 : i < d.length) : mostB a (r.drop i) (d.drop i) = mostB (stepM a (rd r (i : Int), rd d (i : Int))) (r.drop (i + 1)) (d.drop (i + 1)) := by
  rw [mostB, mostB, drop_rd h1, drop_rd h2, List.zip_cons_cons, List.foldl_cons]
theorem most_bound {B : Int} (hB : 0 ≤ B) {r : List Int} : ∀ {d : List Int}, (∀ x ∈ r, x = 1000000000 ∨ (0 ≤ x ∧ x ≤ 1000)) → Upto B d → ∀ a, 0 ≤ a → a ≤ B + 1000 → 0 ≤ mostB a r d ∧ mostB a r d ≤ B + 1000 := by
  induction r with
  | nil => intro d _ _ a h1 h2; exact ⟨h1, h2⟩
  | cons x t ih =>
    intro d hr hd a h1 h2
    cases d with
    | nil => exact ⟨h1, h2⟩
    | cons y s =>
      have hx := hr x (List.mem_cons_self ..)
      have hy := hd y (List.mem_cons_self ..)
      have hs : 0 ≤ stepM a (x, y) ∧ stepM a (x, y) ≤ B + 1000 := by
        unfold stepM
        split
        · omega
        · rename_i e
          have e' : ¬ x = 1000000000 := e
          show 0 ≤ max a (y + x) ∧ max a (y + x) ≤ B + 1000
          omega
      exact ih (d := s) (fun z hz => hr z (List.mem_cons_of_mem _ hz)) (fun z hz => hd z (List.mem_cons_of_mem _ hz)) (stepM a (x, y)) hs.1 hs.2
theorem next_upto {l : List (List Int)} (ht : Trains l) {B : Int} (hB : 0 ≤ B) {d : List Int} (hd : Upto B d) : Upto (B + 1000) (nextB l d) := by
  intro x hx
  simp only [nextB, List.mem_map] at hx
  obtain ⟨r, hr, rfl⟩ := hx
  exact most_bound hB (ht.ok r hr) hd 0 (by omega) (by omega)
theorem rd_next {l : List (List Int)} {d : List Int} {i : Nat} (hi : i < l.length) : rd (nextB l d) (i : Int) = mostB 0 (rd_L1 l (i : Int)) d := by
  rw [rd_get (by rw [nextB_length]; exact hi), rrd_get hi]
  simp [nextB]
theorem ev_trNext (l : List (List Int)) (d : List Int) (ht : Trains l) (hd : d.length = l.length) {B : Int} (hB : B ≤ 1000000000) (hu : Upto B d) : Ev (fun k => spec_trNext.f k l d) (nextB l d) := by
  unfold spec_trNext.f
  have h6 := ht.six
  have key : ∀ i, i ≤ l.length → Ev (fun k => spec_trNext.l0 k d ((l.take i).map fun r => mostB 0 r d) l (l.length : Int) (i : Int)) (nextB l d) := by
    refine up_to _ ?_ ?_
    · rw [take_all (Nat.le_refl _)]
      exact Ev.step (fun k => rfl) (ev_neg (by omega) (Ev.now _))
    · intro i hi ih
      have hr := rrd_mem hi
      have hl := wide_rrd ht.wide hi
      refine Ev.step (fun k => rfl) (ev_pos (by omega) (ev_pos (by omega) (ev_pos (by omega) ?_)))
      rw [take_rrd hi, List.map_append] at ih
      generalize he : rd_L1 l (i : Int) = r at hr hl ih
      have hok := ht.ok r hr
      have inner : ∀ j, j ≤ r.length → ∀ a, mostB a (r.drop j) (d.drop j) = mostB 0 r d → Ev (fun k => spec_trNext.l1 k d ((l.take i).map fun r => mostB 0 r d) a l (l.length : Int) (i : Int) r (r.length : Int) (j : Int)) (nextB l d) := by
        refine up_to _ ?_ ?_
        · intro a ha
          rw [drop_all (Nat.le_refl _)] at ha
          have ha : a = mostB 0 r d := ha
          refine Ev.step (fun k => rfl) (ev_neg (by omega) (ev_pos (by simp; omega) ?_))
          rw [wr1 (by omega), ha]
          exact ih
        · intro j hj ih2 a ha
          rw [most_step a hj (by omega)] at ha
          have b1 := hok _ (rd_mem hj)
          have b2 := upto_rd hu (by omega : j < d.length)
          refine Ev.step (fun k => rfl) (ev_pos (by omega) (ev_pos (by omega) (ev_pos (by omega) ?_)))
          rw [wr1 (by omega)]
          by_cases hx : rd r (j : Int) = 1000000000
          · rw [stepM, if_pos hx] at ha
            exact ev_pos hx (ih2 _ ha)
          · rw [stepM, if_neg hx] at ha
            refine ev_neg hx (ev_pos (by omega) (Ev.bind (ev_const (l1Most_eq _ _)) ?_))
            rw [wr (by omega) (by omega)]
            exact ih2 _ ha
      exact inner 0 (Nat.zero_le _) 0 rfl
  exact key 0 (Nat.zero_le _)
theorem ev_nextTimes (l : List (List Int)) (d : List Int) (ht : Trains l) (hd : d.length = l.length) {B : Int} (hB : B ≤ 1000000000) (hu : Upto B d) : Ev (fun k => impl_nextTimes.f k l d) (nextB l d) := by
  unfold impl_nextTimes.f
  have h6 := ht.six
  have key : ∀ i, i ≤ l.length → Ev (fun k => impl_nextTimes.l0 k d ((l.take i).map fun r => mostB 0 r d) l (l.length : Int) (i : Int)) (nextB l d) := by
    refine up_to _ ?_ ?_
    · rw [take_all (Nat.le_refl _)]
      exact Ev.step (fun k => rfl) (ev_neg (by omega) (Ev.now _))
    · intro i hi ih
      have hr := rrd_mem hi
      have hl := wide_rrd ht.wide hi
      refine Ev.step (fun k => rfl) (ev_pos (by omega) (ev_pos (by omega) (ev_pos (by omega) ?_)))
      rw [take_rrd hi, List.map_append] at ih
      generalize he : rd_L1 l (i : Int) = r at hr hl ih
      have hok := ht.ok r hr
      have inner : ∀ j, j ≤ r.length → ∀ a, mostB a (r.drop j) (d.drop j) = mostB 0 r d → Ev (fun k => impl_nextTimes.l1 k d ((l.take i).map fun r => mostB 0 r d) a l (l.length : Int) (i : Int) r (r.length : Int) (j : Int)) (nextB l d) := by
        refine up_to _ ?_ ?_
        · intro a ha
          rw [drop_all (Nat.le_refl _)] at ha
          have ha : a = mostB 0 r d := ha
          refine Ev.step (fun k => rfl) (ev_neg (by omega) (ev_pos (by simp; omega) ?_))
          rw [wr1 (by omega), ha]
          exact ih
        · intro j hj ih2 a ha
          rw [most_step a hj (by omega)] at ha
          have b1 := hok _ (rd_mem hj)
          have b2 := upto_rd hu (by omega : j < d.length)
          refine Ev.step (fun k => rfl) (ev_pos (by omega) (ev_pos (by omega) (ev_pos (by omega) ?_)))
          rw [wr1 (by omega)]
          by_cases hx : rd r (j : Int) = 1000000000
          · rw [stepM, if_pos hx] at ha
            exact ev_pos hx (ih2 _ ha)
          · rw [stepM, if_neg hx] at ha
            refine ev_neg hx (ev_pos (by omega) ?_)
            rw [wr (by omega) (by omega), mx_max']
            exact ih2 _ ha
      exact inner 0 (Nat.zero_le _) 0 rfl
  exact key 0 (Nat.zero_le _)
end Go.Proofs.Ytebjiooojkhkpaa.Pure

/- Periods, rounds, steady starts, waits: the program and the reference come to the same. Condition: lists no longer than memory allows. -/
namespace Go.Proofs.Ytebjiooojkhkpaa.Pure
open Go.RowKit Go.Proofs.Ytebjiooojkhkpaa.X Go.Proofs.YtebjiooojkhkpaaW.PrintWords Go.Proofs.YtebjiooojkhkpaaW.PrintMore
set_option linter.unusedVariables false
set_option linter.unusedSimpArgs false

def leastStep (a : Int) (q : Int × Int) : Int := max a (q.1 - q.2)
/-- The least period. -/
def leastB (a : Int) (n d : List Int) : Int := (List.zip n d).foldl leastStep a
theorem least_step {n d : List Int} {i : Nat} (a : Int) (h1 : i < n.length) (h2 : i < d.length) : leastB a (n.drop i) (d.drop i) = leastB (max a (rd n (i : Int) - rd d (i : Int))) (n.drop (i + 1)) (d.drop (i + 1)) := by
  rw [leastB, leastB, drop_rd h1, drop_rd h2, List.zip_cons_cons, List.foldl_cons]
  rfl
theorem trPeriod_eq (n : Int) : spec_trPeriod.f n = some (decide (0 ≤ n ∧ n ≤ 100000)) := by
  unfold spec_trPeriod.f
  rw [l1In_eq, Option.bind_some]
theorem isPeriod_eq (n : Int) : impl_isPeriod.f n = some (decide (0 ≤ n ∧ n ≤ 100000)) := by
  unfold impl_isPeriod.f
  rw [within_eq, Option.bind_some]
theorem ev_leastPeriod (l : List (List Int)) (d : List Int) (ht : Trains l) (hd : d.length = l.length) (hu : Upto 100000 d) : Ev (fun k => impl_leastPeriod.f k l d) (leastB 0 (nextB l d) d) := by
  unfold impl_leastPeriod.f
  refine Ev.bind (ev_nextTimes l d ht hd (by omega : (100000 : Int) ≤ 1000000000) hu) ?_
  have hn := nextB_length l d
  have hnu := next_upto ht (by omega) hu
  have h6 := ht.six
  generalize hN : nextB l d = n at hn hnu
  have key : ∀ i, i ≤ n.length → ∀ a, Ev (fun k => impl_leastPeriod.l0 k d a n (n.length : Int) (i : Int)) (leastB a (n.drop i) (d.drop i)) := by
    refine up_to _ ?_ ?_
    · intro a
      rw [drop_all (Nat.le_refl _)]
      exact Ev.step (fun k => rfl) (ev_neg (by omega) (Ev.now _))
    · intro i hi ih a
      have b1 := upto_rd hnu hi
      have b2 := upto_rd hu (by omega : i < d.length)
      refine Ev.step (fun k => rfl) (ev_pos (by omega) (ev_pos (by omega) (ev_pos (by omega) (ev_pos (by omega) ?_))))
      rw [wr1 (by omega), wr (by omega) (by omega), mx_max', least_step a hi (by omega)]
      exact ih _
  have := key 0 (Nat.zero_le _) 0
  simpa using this
/-- What IsSteady answers. -/
def steadyR (l : List (List Int)) (d : List Int) (p : Int) : Bool × Bool := if bothB l d = true ∧ 0 ≤ p ∧ p ≤ 100000 then (decide (leastB 0 (nextB l d) d ≤ p), true) else (false, false)
theorem ev_implIsSteady (l : List (List Int)) (d : List Int) (p : Int) (h : Short l) : Ev (fun k => impl_IsSteady.f k l d p) (steadyR l d p) := by
  unfold impl_IsSteady.f steadyR
  refine Ev.bind (ev_areDepartures l d h) ?_
  cases hb : bothB l d with
  | false => exact ev_false (ev_const (by simp))
  | true =>
    obtain ⟨ht, hd, htm⟩ := bothB_parts hb
    refine ev_true (Ev.bind (ev_const (isPeriod_eq p)) ?_)
    by_cases hp : 0 ≤ p ∧ p ≤ 100000
    · refine ev_pos (by rw [decide_eq_true_eq]; exact hp) (ev_bind0 (ev_leastPeriod l d ht hd (timesB_upto htm)) ?_)
      rw [if_pos ⟨rfl, hp⟩]
    · refine ev_neg (by rw [decide_eq_true_eq]; exact hp) (ev_const ?_)
      rw [if_neg (fun h => hp h.2)]
theorem ev_l1Own (d : List Int) (h : d.length < 17592186044416) : spec_l1Own.f d = some d := by
  unfold spec_l1Own.f
  rw [Option.bind_some, if_pos (by simp; omega)]
  simp

end Go.Proofs.Ytebjiooojkhkpaa.Pure

/- Steady starts, the shortest period, waits: the program and the reference come to the same. Condition: lists no longer than memory allows. -/
namespace Go.Proofs.Ytebjiooojkhkpaa.Pure
open Go.RowKit Go.Proofs.Ytebjiooojkhkpaa.X Go.Proofs.YtebjiooojkhkpaaW.PrintWords Go.Proofs.YtebjiooojkhkpaaW.PrintMore
set_option linter.unusedVariables false
set_option linter.unusedSimpArgs false

def laterStep (p x n : Int) : Int := max x (n - p)
/-- What the departures must at least be. -/
def laterB (l : List (List Int)) (p : Int) (d : List Int) : List Int := List.zipWith (laterStep p) d (nextB l d)
theorem laterB_length {l : List (List Int)} {p : Int} {d : List Int} (h : d.length = l.length) : (laterB l p d).length = l.length := by simp [laterB, nextB_length, h]
theorem rd_later {l : List (List Int)} {p : Int} {d : List Int} (h : d.length = l.length) {i : Nat} (hi : i < l.length) : rd (laterB l p d) (i : Int) = max (rd d (i : Int)) (rd (nextB l d) (i : Int) - p) := by
  rw [rd_get (by rw [laterB_length h]; exact hi), rd_get (by omega), rd_get (by rw [nextB_length]; exact hi)]
  simp [laterB, laterStep]
theorem later_upto {l : List (List Int)} (ht : Trains l) {B p : Int} (hB : 0 ≤ B) (hp : 0 ≤ p) {d : List Int} (hd : d.length = l.length) (hu : Upto B d) : Upto (B + 1000) (laterB l p d) := by
  have hn := next_upto ht hB hu
  intro x hx
  obtain ⟨i, hi, rfl⟩ := List.mem_iff_getElem.1 hx
  have hi' : i < l.length := by rw [laterB_length hd] at hi; exact hi
  rw [← rd_get hi, rd_later hd hi']
  have b1 := upto_rd hu (by omega : i < d.length)
  have b2 := upto_rd hn (by rw [nextB_length]; exact hi' : i < (nextB l d).length)
  omega
/-- Steady starts, in some rounds. -/
def startsB (l : List (List Int)) (p : Int) : Nat → List Int → List Int × Bool
  | 0, _ => ([], false)
  | n + 1, d => if laterB l p d = d then (d, true) else startsB l p n (laterB l p d)
theorem ev_l1Same (a b : List Int) (hn : (a.length : Int) ≤ 140737488355328) : Ev (fun k => spec_l1Same.f k a b) (decide (a = b)) := by
  unfold spec_l1Same.f
  by_cases h : a.length = b.length
  · refine ev_pos (by omega) ?_
    have key : ∀ i, i ≤ a.length → Ev (fun k => spec_l1Same.l0 k a b (a.length : Int) (i : Int)) (decide (a.drop i = b.drop i)) := by
      refine up_to _ ?_ ?_
      · rw [drop_all (Nat.le_refl _), drop_all (by omega)]
        exact Ev.step (fun k => rfl) (ev_neg (by omega) (ev_eq (by simp) (Ev.now true)))
      · intro i hi ih
        rw [drop_rd hi, drop_rd (by omega : i < b.length)]
        refine Ev.step (fun k => rfl) (ev_pos (by omega) (ev_pos (by omega) (ev_pos (by omega) (ev_pos (by omega) ?_))))
        rw [wr1 (by omega)]
        by_cases e : rd a (i : Int) = rd b (i : Int)
        · refine ev_pos e (ev_eq ?_ ih)
          simp [e]
        · refine ev_neg e (ev_eq ?_ (Ev.now false))
          simp [e]
    have := key 0 (Nat.zero_le _)
    simpa using this
  · refine ev_neg (by omega) (ev_const ?_)
    have : ¬ a = b := fun e => h (by rw [e])
    simp [this]
theorem ev_trStarts (l : List (List Int)) (p : Int) (ht : Trains l) (hp : 0 ≤ p) (hp2 : p ≤ 100000) : Ev (fun k => spec_trStarts.f k l p) (startsB l p (l.length + 1) (List.replicate l.length 0)) := by
  unfold spec_trStarts.f
  have h6 := ht.six
  refine ev_pos (by omega) (ev_pos (by omega) ?_)
  rw [show ((l.length : Int) : Int).toNat = l.length by omega]
  have key : ∀ m : Nat, ∀ i : Nat, i + m = l.length + 1 → ∀ d, d.length = l.length → Upto (1000 * (i : Int)) d → Ev (fun k => spec_trStarts.l0 k l p d (i : Int)) (startsB l p m d) := by
    intro m
    induction m with
    | zero =>
      intro i hi d hd hu
      exact Ev.step (fun k => rfl) (ev_neg (by omega) (Ev.now _))
    | succ m ih =>
      intro i hi d hd hu
      refine Ev.step (fun k => rfl) (ev_pos (by omega) (Ev.bind (ev_trNext l d ht hd (by omega : 1000 * (i : Int) ≤ 1000000000) hu) ?_))
      have hn := nextB_length l d
      have hnu := next_upto ht (by omega) hu
      have hll := laterB_length (p := p) hd
      have inner : ∀ j, j ≤ (nextB l d).length → Ev (fun k => spec_trStarts.l1 k l p d (i : Int) ((laterB l p d).take j) (nextB l d) ((nextB l d).length : Int) (j : Int)) (startsB l p (m + 1) d) := by
        refine up_to _ ?_ ?_
        · rw [take_all (by omega)]
          refine Ev.step (fun k => rfl) (ev_neg (by omega) (Ev.bind (ev_l1Same _ d (by omega)) ?_))
          unfold startsB
          by_cases e : laterB l p d = d
          · refine ev_pos (by simp [e]) (ev_const ?_)
            rw [if_pos e]
          · refine ev_neg (by simp [e]) ?_
            rw [if_neg e, wr1 (by omega)]
            refine ih (i + 1) (by omega) _ hll ?_
            have := later_upto ht (by omega) hp hd hu
            intro x hx
            have := this x hx
            omega
        · intro j hj ih2
          have b1 := upto_rd hnu hj
          have b2 := upto_rd hu (by omega : j < d.length)
          refine Ev.step (fun k => rfl) (ev_pos (by omega) (ev_pos (by omega) (ev_pos (by omega) (ev_pos (by omega) (Ev.bind (ev_const (l1Most_eq _ _)) (ev_pos (by simp; omega) ?_))))))
          rw [wr1 (by omega), wr (by omega) (by omega), ← rd_later hd (by omega), ← take_rd (by omega)]
          exact ih2
      exact inner 0 (Nat.zero_le _)
  refine key (l.length + 1) 0 (by omega) _ (by simp) ?_
  intro x hx
  have := List.eq_of_mem_replicate hx
  omega
/-- What SteadyStarts answers. -/
def startsR (l : List (List Int)) (p : Int) : List Int × Bool := if trB l = true ∧ 0 ≤ p ∧ p ≤ 100000 then startsB l p (l.length + 1) (List.replicate l.length 0) else ([], false)
theorem ev_specSteadyStarts (l : List (List Int)) (p : Int) (h : Short l) : Ev (fun k => spec_SteadyStarts.f k l p) (startsR l p) := by
  unfold spec_SteadyStarts.f startsR
  refine Ev.bind (ev_trGood l h) ?_
  cases hb : trB l with
  | false => exact ev_false (ev_const (by simp))
  | true =>
    have ht := trB_trains hb
    refine ev_true (Ev.bind (ev_const (trPeriod_eq p)) ?_)
    by_cases hp : 0 ≤ p ∧ p ≤ 100000
    · refine ev_pos (by rw [decide_eq_true_eq]; exact hp) (ev_bind0 (ev_trStarts l p ht hp.1 hp.2) ?_)
      rw [if_pos ⟨rfl, hp⟩]
    · refine ev_neg (by rw [decide_eq_true_eq]; exact hp) (ev_const ?_)
      rw [if_neg (fun h => hp h.2)]

end Go.Proofs.Ytebjiooojkhkpaa.Pure

/- Timetables and delays that are drawn: they are small. Condition: the bytes are bytes. -/
namespace Go.Proofs.Ytebjiooojkhkpaa.Pure
open Go.RowKit Go.Proofs.Ytebjiooojkhkpaa.X Go.Proofs.YtebjiooojkhkpaaW.PrintWords Go.Proofs.YtebjiooojkhkpaaW.PrintMore
set_option linter.unusedVariables false
set_option linter.unusedSimpArgs false

theorem startsB_full (l : List (List Int)) (p : Int) : ∀ (n : Nat) (d : List Int), d.length = l.length → (startsB l p n d).2 = true → (startsB l p n d).1.length = l.length
  | 0, d, _, h => by simp [startsB] at h
  | n + 1, d, hd, h => by
    unfold startsB at h ⊢
    split at h
    · rename_i e
      rw [if_pos e]
      exact hd
    · rename_i e
      rw [if_neg e]
      exact startsB_full l p n _ (laterB_length hd) h
theorem startsR_full {l : List (List Int)} {p : Int} (h : (startsR l p).2 = true) : (startsR l p).1.length = l.length := by
  unfold startsR at h ⊢
  split at h
  · rename_i e
    rw [if_pos e]
    exact startsB_full l p _ _ (by simp) h
  · simp at h
/-- What a drawn timetable is known by: its rows, its departures, where the reading stands. -/
def Planned (r : List (List Int) × List Int × Int × Int × Int) : Prop := Short r.1 ∧ r.1.length ≤ 6 ∧ r.2.1.length ≤ 6 ∧ 0 ≤ r.2.2.2.1 ∧ r.2.2.2.1 ≤ 100000
theorem planned_j6 {c : List Int} (hc : Bytes c) {m : List (List Int)} {d : List Int} (p : Int) {a : Int} (s : Int) (hm : Short m) (hm6 : m.length ≤ 6) (hd1 : 1 ≤ d.length) (hd6 : d.length ≤ 6) (h0 : 0 ≤ a) (h1 : a ≤ 50000) : ∃ r, Ev (fun k => spec_l1Cur_planned.j6 k m p d c a s) r ∧ Planned r := by
  obtain ⟨v, a1, s1, e, h2, h3, h4, h5, h6, h7⟩ := pick_ok hc s (⟨h0, by omega⟩ : Spot a) 24
  by_cases v0 : v = 0
  · obtain ⟨p', a2, s2, e2, _, h8, h9⟩ := among_ok hc s1 (⟨by omega, by omega⟩ : Spot a1) [0, 100000, 100001, (-1)] (by simp)
    exact ⟨(m, d, p', a2, s2), Ev.step (fun k => rfl) (Ev.bind (ev_const e) (ev_pos v0 (ev_bind0 (ev_const e2) rfl))), hm, hm6, hd6, by dsimp only; omega, by dsimp only; omega⟩
  · by_cases v1 : v = 1
    · obtain ⟨p', a2, s2, e2, _, h8, h9⟩ := among_ok hc s1 (⟨by omega, by omega⟩ : Spot a1) [100000, 100001, (-1)] (by simp)
      exact ⟨(m, d.set (0 : Int).toNat p', p, a2, s2), Ev.step (fun k => rfl) (Ev.bind (ev_const e) (ev_neg v0 (ev_pos v1 (Ev.bind (ev_const e2) (ev_pos (by omega) (Ev.now _)))))), hm, hm6, by simp; omega, by dsimp only; omega, by dsimp only; omega⟩
    · by_cases v2 : v = 2
      · exact ⟨(m, d.drop (1 : Int).toNat, p, a1, s1), Ev.step (fun k => rfl) (Ev.bind (ev_const e) (ev_neg v0 (ev_neg v1 (ev_pos v2 (ev_pos (by omega) (Ev.now _)))))), hm, hm6, by simp; omega, by dsimp only; omega, by dsimp only; omega⟩
      · exact ⟨(m, d, p, a1, s1), Ev.step (fun k => rfl) (Ev.bind (ev_const e) (ev_neg v0 (ev_neg v1 (ev_neg v2 (Ev.now _))))), hm, hm6, hd6, by dsimp only; omega, by dsimp only; omega⟩
theorem planned_j4 {c : List Int} (hc : Bytes c) {n : Nat} (hn1 : 1 ≤ n) (hn6 : n ≤ 6) {m : List (List Int)} {d : List Int} (p : Int) (ok : Bool) {a : Int} (s : Int) (hm : Short m) (hm6 : m.length ≤ 6) (hd : ok = true → d.length = n) (h0 : 0 ≤ a) (h1 : a ≤ 40000) : ∃ r, Ev (fun k => spec_l1Cur_planned.j4 k (n : Int) m p d ok c a s) r ∧ Planned r := by
  by_cases hok : ok = true
  rotate_left
  · obtain ⟨xs, a1, s1, e, h2, _, h4, h5⟩ := plain_ok hc s (n : Int) (by omega) h0 (by omega)
    exact ⟨(m, xs, p, a1, s1), Ev.step (fun k => rfl) (ev_neg hok (ev_bind0 e rfl)), hm, hm6, by dsimp only; omega, by dsimp only; omega, by dsimp only; omega⟩
  · have hd := hd hok
    obtain ⟨b, a1, s1, e, h2, h3⟩ := one_ok hc s (⟨h0, by omega⟩ : Spot a) 3
    cases b with
    | false =>
      obtain ⟨r, hr, hp⟩ := planned_j6 hc p s1 hm hm6 (by omega : 1 ≤ d.length) (by omega) (by omega : 0 ≤ a1) (by omega)
      exact ⟨r, Ev.step (fun k => rfl) (ev_pos hok (Ev.bind (ev_const e) (ev_false hr))), hp⟩
    | true =>
      obtain ⟨by_, a2, s2, e2, _, _, _, _, h4, h5⟩ := pick_ok hc s1 (⟨by omega, by omega⟩ : Spot a1) 4
      have key : ∀ f i : Nat, i + f = n → ∀ d : List Int, d.length = n → ∃ r, Ev (fun k => spec_l1Cur_planned.l2 k (n : Int) m p d by_ (n : Int) (i : Int) c a2 s2) r ∧ Planned r := by
        intro f
        induction f with
        | zero =>
          intro i hi d hd
          obtain ⟨v, a3, s3, e3, g1, g2, _, _, g3, g4⟩ := pick_ok hc s2 (⟨by omega, by omega⟩ : Spot a2) (n : Int)
          obtain ⟨v2, a4, s4, e4, _, _, _, _, g5, g6⟩ := pick_ok hc s3 (⟨by omega, by omega⟩ : Spot a3) 2
          obtain ⟨r, hr, hp⟩ := planned_j6 hc (d := d.set v.toNat (wrap64 (rd d v + v2))) p s4 hm hm6 (by simp; omega) (by simp; omega) (by omega : 0 ≤ a4) (by omega)
          exact ⟨r, Ev.step (fun k => rfl) (ev_neg (by omega) (Ev.bind (ev_const e3) (ev_pos g1 (ev_pos (by omega) (Ev.bind (ev_const e4) hr))))), hp⟩
        | succ f ih =>
          intro i hi d hd
          obtain ⟨r, hr, hp⟩ := ih (i + 1) (by omega) (d.set (i : Int).toNat (wrap64 (rd d (i : Int) + by_))) (by simp; omega)
          refine ⟨r, Ev.step (fun k => rfl) (ev_pos (by omega) (ev_pos (by omega) (ev_pos (by omega) ?_))), hp⟩
          rw [wr1 (by omega)]
          exact hr
      obtain ⟨r, hr, hp⟩ := key n 0 (by omega) d hd
      refine ⟨r, Ev.step (fun k => rfl) (ev_pos hok (Ev.bind (ev_const e) (ev_true (Ev.bind (ev_const e2) ?_)))), hp⟩
      have e : (d.length : Int) = (n : Int) := by omega
      rw [e]
      exact hr
theorem planned_j3 {c : List Int} (hc : Bytes c) {n : Nat} (hn1 : 1 ≤ n) (hn6 : n ≤ 6) {m : List (List Int)} (p : Int) {a : Int} (s : Int) (hm : Short m) (hmn : m.length = n) (h0 : 0 ≤ a) (h1 : a ≤ 40000) : ∃ r, Ev (fun k => spec_l1Cur_planned.j3 k (n : Int) m p c a s) r ∧ Planned r := by
  have e1 := ev_specSteadyStarts m p hm
  by_cases h : (startsR m p).2 = true
  · obtain ⟨r, hr, hp⟩ := planned_j4 hc hn1 hn6 (d := (startsR m p).1) p (startsR m p).2 s hm (by omega) (fun h => by rw [startsR_full h, hmn]) h0 h1
    exact ⟨r, Ev.step (fun k => rfl) (Ev.bind e1 (ev_pos h hr)), hp⟩
  · obtain ⟨r, hr, hp⟩ := planned_j4 hc hn1 hn6 (d := (startsR m 1000).1) 1000 (startsR m 1000).2 s hm (by omega) (fun h => by rw [startsR_full h, hmn]) h0 h1
    exact ⟨r, Ev.step (fun k => rfl) (Ev.bind e1 (ev_neg h (Ev.bind (ev_specSteadyStarts m 1000 hm) hr))), hp⟩
theorem short_rows {m : List (List Int)} {n : Nat} (h : ∀ r ∈ m, r.length = n) (hn : n ≤ 6) (hm : m.length ≤ 6) : Short m := ⟨by omega, fun r hr => by have := h r hr; omega⟩
theorem planned_j0 {c : List Int} (hc : Bytes c) {n : Nat} (hn1 : 1 ≤ n) (hn6 : n ≤ 6) {a : Int} (s : Int) (h0 : 0 ≤ a) (h1 : a ≤ 100) : ∃ r, Ev (fun k => spec_l1Cur_planned.j0 k (n : Int) c a s) r ∧ Planned r := by
  have outer : ∀ f i : Nat, i + f = n → ∀ (m : List (List Int)) (a s : Int), m.length = i → (∀ r ∈ m, r.length = n) → 0 ≤ a → a ≤ 100 + 4 * (6 * (i : Int)) → ∃ r, Ev (fun k => spec_l1Cur_planned.l0 k (n : Int) m (i : Int) c a s) r ∧ Planned r := by
    intro f
    induction f with
    | zero =>
      intro i hi m a s hmi hmr h0 h1
      obtain ⟨p, a1, s1, e, _, g1, g2⟩ := among_ok hc s (⟨by omega, by omega⟩ : Spot a) [6, 8, 10, 12, 14, 20] (by simp)
      obtain ⟨b, a2, s2, e2, g3, g4⟩ := one_ok hc s1 (⟨by omega, by omega⟩ : Spot a1) 24
      cases b with
      | false =>
        obtain ⟨r, hr, hp⟩ := planned_j3 hc hn1 hn6 p s2 (short_rows hmr hn6 (by omega)) (by omega) (by omega : 0 ≤ a2) (by omega)
        exact ⟨r, Ev.step (fun k => rfl) (ev_neg (by omega) (Ev.bind (ev_const e) (Ev.bind (ev_const e2) (ev_false hr)))), hp⟩
      | true =>
        obtain ⟨v, a3, s3, e3, _, g5, g6⟩ := among_ok hc s2 (⟨by omega, by omega⟩ : Spot a2) [1000, 1001, (-1), 0] (by simp)
        have hw : (rd_L1 m 0).length = n := hmr _ (rrd_mem (by omega : 0 < m.length))
        have hm2 : ∀ r ∈ m.set (0 : Int).toNat ((rd_L1 m 0).set (0 : Int).toNat v), r.length = n := by
          intro r hr
          rcases List.mem_or_eq_of_mem_set hr with hr | hr
          · exact hmr r hr
          · rw [hr, List.length_set, hw]
        obtain ⟨r, hr, hp⟩ := planned_j3 hc hn1 hn6 p s3 (short_rows hm2 hn6 (by simp; omega)) (by simp; omega) (by omega : 0 ≤ a3) (by omega)
        exact ⟨r, Ev.step (fun k => rfl) (ev_neg (by omega) (Ev.bind (ev_const e) (Ev.bind (ev_const e2) (ev_true (ev_pos (by omega) (Ev.bind (ev_const e3) (ev_pos (by omega) hr))))))), hp⟩
    | succ f ih =>
      intro i hi m a s hmi hmr h0 h1
      have inner : ∀ g j : Nat, j + g = n → ∀ (row : List Int) (a s : Int), row.length = j → 0 ≤ a → a ≤ 100 + 4 * (6 * (i : Int) + (j : Int)) → ∃ r, Ev (fun k => spec_l1Cur_planned.l1 k (n : Int) m (i : Int) row (j : Int) c a s) r ∧ Planned r := by
        intro g
        induction g with
        | zero =>
          intro j hj row a s hrow h0 h1
          obtain ⟨r, hr, hp⟩ := ih (i + 1) (by omega) (m ++ [row]) a s (by simp; omega) (by
            intro r hr
            rcases List.mem_append.1 hr with hr | hr
            · exact hmr r hr
            · simp at hr
              subst hr
              omega) h0 (by omega)
          refine ⟨r, Ev.step (fun k => rfl) (ev_neg (by omega) (ev_pos (by omega) ?_)), hp⟩
          rw [wr1 (by omega)]
          exact hr
        | succ g ih2 =>
          intro j hj row a s hrow h0 h1
          obtain ⟨v, a1, s1, e, g1, g2, _, _, g3, g4⟩ := pick_ok hc s (⟨by omega, by omega⟩ : Spot a) 12
          by_cases hd : (j : Int) = Int.tmod (wrap64 ((i : Int) + 1)) (n : Int)
          · have HD := Aside0.mk hd
            clear hd
            obtain ⟨r, hr, hp⟩ := ih2 (j + 1) (by omega) (row ++ [wrap64 (1 + v)]) a1 s1 (by simp; omega) (by omega) (by omega)
            refine ⟨r, Ev.step (fun k => rfl) (ev_pos (by omega) (Ev.bind (ev_const e) (ev_neg (by omega) (ev_pos HD.out (ev_pos (by omega) ?_))))), hp⟩
            rw [wr1 (by omega)]
            exact hr
          · have HD := Aside0.mk hd
            clear hd
            obtain ⟨b, a2, s2, e2, g5, g6⟩ := one_ok hc s1 (⟨by omega, by omega⟩ : Spot a1) 2
            cases b with
            | true =>
              obtain ⟨r, hr, hp⟩ := ih2 (j + 1) (by omega) (row ++ [1000000000]) a2 s2 (by simp; omega) (by omega) (by omega)
              refine ⟨r, Ev.step (fun k => rfl) (ev_pos (by omega) (Ev.bind (ev_const e) (ev_neg (by omega) (ev_neg HD.out (Ev.bind (ev_const e2) (ev_true (ev_pos (by omega) ?_))))))), hp⟩
              rw [wr1 (by omega)]
              exact hr
            | false =>
              obtain ⟨r, hr, hp⟩ := ih2 (j + 1) (by omega) (row ++ [wrap64 (1 + v)]) a2 s2 (by simp; omega) (by omega) (by omega)
              refine ⟨r, Ev.step (fun k => rfl) (ev_pos (by omega) (Ev.bind (ev_const e) (ev_neg (by omega) (ev_neg HD.out (Ev.bind (ev_const e2) (ev_false (ev_pos (by omega) ?_))))))), hp⟩
              rw [wr1 (by omega)]
              exact hr
      obtain ⟨r, hr, hp⟩ := inner n 0 (by omega) [] a s rfl h0 (by omega)
      exact ⟨r, Ev.step (fun k => rfl) (ev_pos (by omega) hr), hp⟩
  obtain ⟨r, hr, hp⟩ := outer n 0 (by omega) [] a s rfl (by simp) h0 (by omega)
  exact ⟨r, Ev.step (fun k => rfl) hr, hp⟩
theorem planned_ok {c : List Int} (hc : Bytes c) : ∃ r, Ev (fun k => spec_l1Cur_planned.f k c 0 0) r ∧ Planned r := by
  unfold spec_l1Cur_planned.f
  obtain ⟨v, a1, s1, e, g1, g2, _, _, g3, g4⟩ := pick_ok hc 0 (⟨by omega, by omega⟩ : Spot 0) 4
  obtain ⟨b, a2, s2, e2, g5, g6⟩ := one_ok hc s1 (⟨by omega, by omega⟩ : Spot a1) 16
  cases b with
  | true =>
    obtain ⟨r, hr, hp⟩ := planned_j0 hc (n := 6) (by omega) (by omega) s2 (by omega : 0 ≤ a2) (by omega)
    exact ⟨r, Ev.bind (ev_const e) (Ev.bind (ev_const e2) (ev_true hr)), hp⟩
  | false =>
    obtain ⟨n, hn⟩ := Int.eq_ofNat_of_zero_le g1
    obtain ⟨r, hr, hp⟩ := planned_j0 hc (n := 1 + n) (by omega) (by omega) s2 (by omega : 0 ≤ a2) (by omega)
    have e5 : wrap64 (1 + v) = ((1 + n : Nat) : Int) := by rw [wr (by omega) (by omega)]; omega
    refine ⟨r, Ev.bind (ev_const e) (Ev.bind (ev_const e2) (ev_false ?_)), hp⟩
    rw [e5]
    exact hr
theorem delays_ok {c : List Int} (hc : Bytes c) {a : Int} (s : Int) (n : Nat) (hn : n ≤ 6) (h0 : 0 ≤ a) (h1 : a ≤ 200000) : ∃ x a' s', Ev (fun k => spec_l1Cur_delays.f k c a s (n : Int)) (x, a', s') ∧ x.length ≤ 7 ∧ 0 ≤ a' ∧ a' ≤ 300000 := by
  unfold spec_l1Cur_delays.f
  have key : ∀ f i : Nat, i + f = n → ∀ (x : List Int) (a s : Int), x.length = i → 0 ≤ a → a ≤ 200000 + 2 * (i : Int) → ∃ x' a' s', Ev (fun k => spec_l1Cur_delays.l0 k (n : Int) x c a s) (x', a', s') ∧ x'.length ≤ 7 ∧ 0 ≤ a' ∧ a' ≤ 300000 := by
    intro f
    induction f with
    | zero =>
      intro i hi x a s hx h0 h1
      obtain ⟨v, a1, s1, e, g1, g2, _, _, g3, g4⟩ := pick_ok hc s (⟨by omega, by omega⟩ : Spot a) 24
      by_cases v0 : v = 0
      · exact ⟨x ++ [0], a1, s1, Ev.step (fun k => rfl) (ev_neg (by omega) (Ev.bind (ev_const e) (ev_pos v0 (ev_pos (by omega) (Ev.now _))))), by simp; omega, by omega, by omega⟩
      · by_cases v1 : v = 1
        · by_cases hp : (n : Int) > 0
          · obtain ⟨v2, a2, s2, e2, g5, g6, _, _, g7, g8⟩ := pick_ok hc s1 (⟨by omega, by omega⟩ : Spot a1) (n : Int)
            obtain ⟨v3, a3, s3, e3, _, g9, g10⟩ := among_ok hc s2 (⟨by omega, by omega⟩ : Spot a2) [10000, 10001, (-1)] (by simp)
            exact ⟨x.set v2.toNat v3, a3, s3, Ev.step (fun k => rfl) (ev_neg (by omega) (Ev.bind (ev_const e) (ev_neg v0 (ev_pos v1 (ev_pos hp (Ev.bind (ev_const e2) (Ev.bind (ev_const e3) (ev_pos g5 (ev_pos (by omega) (Ev.now _)))))))))), by simp; omega, by omega, by omega⟩
          · exact ⟨x, a1, s1, Ev.step (fun k => rfl) (ev_neg (by omega) (Ev.bind (ev_const e) (ev_neg v0 (ev_pos v1 (ev_neg hp (Ev.now _)))))), by omega, by omega, by omega⟩
        · exact ⟨x, a1, s1, Ev.step (fun k => rfl) (ev_neg (by omega) (Ev.bind (ev_const e) (ev_neg v0 (ev_neg v1 (Ev.now _))))), by omega, by omega, by omega⟩
    | succ f ih =>
      intro i hi x a s hx h0 h1
      obtain ⟨v, a1, s1, e, _, g3, g4⟩ := among_ok hc s (⟨by omega, by omega⟩ : Spot a) [0, 0, 1, 3, 8, 20] (by simp)
      obtain ⟨x', a', s', he, h2, h3, h4⟩ := ih (i + 1) (by omega) (x ++ [v]) a1 s1 (by simp; omega) (by omega) (by omega)
      exact ⟨x', a', s', Ev.step (fun k => rfl) (ev_pos (by omega) (Ev.bind (ev_const e) (ev_pos (by omega) he))), h2, h3, h4⟩
  exact key n 0 (by omega) [] a s rfl h0 (by omega)
theorem drawNextDelays_ok {c : List Int} (hc : Bytes c) : ∃ m d p x, Ev (fun k => spec_DrawNextDelays.f k c) (m, d, p, x) ∧ Short m ∧ d.length ≤ 6 ∧ x.length ≤ 7 := by
  unfold spec_DrawNextDelays.f
  obtain ⟨⟨m, d, p, a, s⟩, hr, h1, h2, h3, h4, h5⟩ := planned_ok hc
  obtain ⟨x, a', s', he, h6, h7, h8⟩ := delays_ok hc s m.length h2 h4 (by dsimp only at h5 ⊢; omega)
  exact ⟨m, d, p, x, Ev.bind hr (ev_bind0 he rfl), h1, h3, h6⟩
theorem drawDelaysAfter_ok {c : List Int} (hc : Bytes c) : ∃ m d p x n, Ev (fun k => spec_DrawDelaysAfter.f k c) (m, d, p, x, n) ∧ Short m ∧ d.length ≤ 6 ∧ x.length ≤ 7 := by
  unfold spec_DrawDelaysAfter.f
  obtain ⟨⟨m, d, p, a, s⟩, hr, h1, h2, h3, h4, h5⟩ := planned_ok hc
  obtain ⟨x, a', s', he, h6, h7, h8⟩ := delays_ok hc s m.length h2 h4 (by dsimp only at h5 ⊢; omega)
  obtain ⟨v, a1, s1, e, _, g1, g2⟩ := among_ok hc s' (⟨by omega, by omega⟩ : Spot a') [3, 51, (-1)] (by simp)
  obtain ⟨v2, a2, s2, e2, _, _, _⟩ := among_ok hc s1 (⟨by omega, by omega⟩ : Spot a1) [0, 1, 2, 5, 50, v] (by simp)
  exact ⟨m, d, p, x, v2, Ev.bind hr (Ev.bind he (Ev.bind (ev_const e) (ev_bind0 (ev_const e2) rfl))), h1, h3, h6⟩
end Go.Proofs.Ytebjiooojkhkpaa.Pure

/- Circuits of trains: their time, as the program and the reference tell it. Condition: lists no longer than memory allows. -/
namespace Go.Proofs.Ytebjiooojkhkpaa.Pure
open Go.RowKit Go.Proofs.Ytebjiooojkhkpaa.X Go.Proofs.YtebjiooojkhkpaaW.PrintWords Go.Proofs.YtebjiooojkhkpaaW.PrintMore
set_option linter.unusedVariables false
set_option linter.unusedSimpArgs false

theorem rrd_memI {l : List (List Int)} {x : Int} (h0 : 0 ≤ x) (h1 : x < (l.length : Int)) : rd_L1 l x ∈ l := by
  obtain ⟨n, rfl⟩ := Int.eq_ofNat_of_zero_le h0
  exact rrd_mem (by omega)

end Go.Proofs.Ytebjiooojkhkpaa.Pure

/- Plans, buffers, delays: the program and the reference come to the same. Condition: lists no longer than memory allows. -/
namespace Go.Proofs.Ytebjiooojkhkpaa.Pure
open Go.RowKit Go.Proofs.Ytebjiooojkhkpaa.X Go.Proofs.YtebjiooojkhkpaaW.PrintWords Go.Proofs.YtebjiooojkhkpaaW.PrintMore
set_option linter.unusedVariables false
set_option linter.unusedSimpArgs false

def bufB (l : List (List Int)) (d : List Int) (p i j : Int) : Int := rd d i + p - rd d j - rd (rd_L1 l i) j
def cellB (l : List (List Int)) (d : List Int) (p : Int) (i j : Nat) : Bool := decide (rd (rd_L1 l (i : Int)) (j : Int) = 1000000000 ∨ 0 ≤ bufB l d p (i : Int) (j : Int))
def allF (p : Nat → Bool) : Nat → Nat → Bool
  | 0, _ => true
  | f + 1, n => p n && allF p f (n + 1)
theorem allF_iff (p : Nat → Bool) : ∀ f n, allF p f n = true ↔ ∀ j, n ≤ j → j < n + f → p j = true
  | 0, n => by simp [allF]; intro j h1 h2; omega
  | f + 1, n => by
    unfold allF
    rw [Bool.and_eq_true, allF_iff p f (n + 1)]
    constructor
    · rintro ⟨h1, h2⟩ j h3 h4
      by_cases e : j = n
      · rw [e]; exact h1
      · exact h2 j (by omega) (by omega)
    · intro h
      exact ⟨h n (by omega) (by omega), fun j h1 h2 => h j (by omega) (by omega)⟩
def steadyOk (l : List (List Int)) (d : List Int) (p : Int) : Bool := allF (fun i => allF (cellB l d p i) l.length 0) l.length 0
/-- A plan. -/
def goodB (l : List (List Int)) (d : List Int) (p : Int) : Bool := bothB l d && (decide (0 ≤ p ∧ p ≤ 100000) && steadyOk l d p)
theorem cell_entry {l : List (List Int)} (ht : Trains l) {i j : Int} (h0 : 0 ≤ i) (h1 : i < (l.length : Int)) (h2 : 0 ≤ j) (h3 : j < (l.length : Int)) : rd (rd_L1 l i) j = 1000000000 ∨ (0 ≤ rd (rd_L1 l i) j ∧ rd (rd_L1 l i) j ≤ 1000) := by
  have hm := rrd_memI h0 h1
  have hw := ht.wide _ hm
  obtain ⟨n, rfl⟩ := Int.eq_ofNat_of_zero_le h2
  exact ht.ok _ hm _ (rd_mem (by omega))
theorem upto_rdI {B : Int} {d : List Int} (h : Upto B d) {i : Int} (h0 : 0 ≤ i) (h1 : i < (d.length : Int)) : 0 ≤ rd d i ∧ rd d i ≤ B := by
  obtain ⟨n, rfl⟩ := Int.eq_ofNat_of_zero_le h0
  exact upto_rd h (by omega)
/-- A plan, as what it is known by. -/
structure Plan (l : List (List Int)) (d : List Int) (p : Int) : Prop where
  tr : Trains l
  len : d.length = l.length
  up : Upto 100000 d
  per : 0 ≤ p ∧ p ≤ 100000
theorem dlBuffer_eq {l : List (List Int)} {d : List Int} {p i j : Int} (h : Plan l d p) (h0 : 0 ≤ i) (h1 : i < (l.length : Int)) (h2 : 0 ≤ j) (h3 : j < (l.length : Int)) : spec_dlBuffer.f l d p i j = some (bufB l d p i j) := by
  unfold spec_dlBuffer.f bufB
  have hl := h.len
  have hm := rrd_memI h0 h1
  have hw := h.tr.wide _ hm
  have b1 := cell_entry h.tr h0 h1 h2 h3
  have b2 := upto_rdI h.up h0 (by omega)
  have b3 := upto_rdI h.up h2 (by omega)
  have hp := h.per
  rw [if_pos h0, if_pos (by omega), if_pos h2, if_pos (by omega), if_pos h1, if_pos (by omega), wr (x := rd d i + p) (by omega) (by omega), wr (x := rd d i + p - rd d j) (by omega) (by omega), wr (by omega) (by omega)]
theorem planBuffer_eq {l : List (List Int)} {d : List Int} {p i j : Int} (h : Plan l d p) (h0 : 0 ≤ i) (h1 : i < (l.length : Int)) (h2 : 0 ≤ j) (h3 : j < (l.length : Int)) : impl_plan_buffer.f l d p i j = some (bufB l d p i j) := by
  unfold impl_plan_buffer.f bufB
  have hl := h.len
  have hm := rrd_memI h0 h1
  have hw := h.tr.wide _ hm
  have b1 := cell_entry h.tr h0 h1 h2 h3
  have b2 := upto_rdI h.up h0 (by omega)
  have b3 := upto_rdI h.up h2 (by omega)
  have hp := h.per
  rw [if_pos h0, if_pos (by omega), if_pos h2, if_pos (by omega), if_pos h1, if_pos (by omega), wr (x := rd d i + p) (by omega) (by omega), wr (x := rd d i + p - rd d j) (by omega) (by omega), wr (by omega) (by omega)]
theorem waits_eq {l : List (List Int)} {d : List Int} {p i j : Int} (ht : Trains l) (h0 : 0 ≤ i) (h1 : i < (l.length : Int)) (h2 : 0 ≤ j) (h3 : j < (l.length : Int)) : impl_plan_waits.f l d p i j = some (rd (rd_L1 l i) j != 1000000000) := by
  unfold impl_plan_waits.f
  have hm := rrd_memI h0 h1
  have hw := ht.wide _ hm
  rw [if_pos h0, if_pos h1, if_pos h2, if_pos (by omega)]
theorem goodB_plan {l : List (List Int)} {d : List Int} {p : Int} (h : goodB l d p = true) : Plan l d p := by
  simp only [goodB, Bool.and_eq_true, decide_eq_true_eq] at h
  obtain ⟨h1, h2, h3⟩ := bothB_parts h.1
  exact ⟨h1, h2, timesB_upto h3, h.2.1⟩
theorem good_cell {l : List (List Int)} {d : List Int} {p : Int} (h : goodB l d p = true) {i j : Int} (h0 : 0 ≤ i) (h1 : i < (l.length : Int)) (h2 : 0 ≤ j) (h3 : j < (l.length : Int)) (hne : rd (rd_L1 l i) j ≠ 1000000000) : 0 ≤ bufB l d p i j := by
  simp only [goodB, Bool.and_eq_true, steadyOk] at h
  obtain ⟨a, rfl⟩ := Int.eq_ofNat_of_zero_le h0
  obtain ⟨b, rfl⟩ := Int.eq_ofNat_of_zero_le h2
  have := (allF_iff _ _ _).1 h.2.2 a (by omega) (by omega)
  have := (allF_iff _ _ _).1 this b (by omega) (by omega)
  simp only [cellB, decide_eq_true_eq] at this
  rcases this with h | h
  · exact absurd h hne
  · exact h
theorem ev_dlGood (l : List (List Int)) (d : List Int) (p : Int) (h : Short l) (hdl : (d.length : Int) ≤ 1048576) : Ev (fun k => spec_dlGood.f k l d p) (goodB l d p) := by
  unfold spec_dlGood.f goodB
  refine Ev.bind (ev_trBoth l d h hdl) ?_
  cases hb : bothB l d with
  | false => exact ev_false (ev_j (g := fun k x => spec_dlGood.j0 k l d p x) (fun _ _ => rfl) (fun _ => ev_const (by simp)) (fun hb => nomatch hb))
  | true =>
    obtain ⟨ht, hd, htm⟩ := bothB_parts hb
    refine ev_true (Ev.bind (ev_const (trPeriod_eq p)) ?_)
    refine ev_j (g := fun k x => spec_dlGood.j0 k l d p x) (fun _ _ => rfl) (fun hp => ev_const ?_) (fun hp => ?_)
    · have : decide (0 ≤ p ∧ p ≤ 100000) = false := by cases h : decide (0 ≤ p ∧ p ≤ 100000) <;> simp_all
      rw [this]
      rfl
    · have hp : decide (0 ≤ p ∧ p ≤ 100000) = true := by cases h : decide (0 ≤ p ∧ p ≤ 100000) <;> simp_all
      rw [hp, Bool.true_and, Bool.true_and]
      have hpl : Plan l d p := ⟨ht, hd, timesB_upto htm, by simpa using hp⟩
      have h6 := ht.six
      have key : ∀ f i, i + f = l.length → Ev (fun k => spec_dlGood.l0 k l d p l (l.length : Int) (i : Int)) (allF (fun i => allF (cellB l d p i) l.length 0) f i) := by
        intro f
        induction f with
        | zero =>
          intro i hi
          exact Ev.step (fun k => rfl) (ev_neg (by omega) (Ev.now _))
        | succ f ih =>
          intro i hi
          have hw := wide_rrd ht.wide (by omega : i < l.length)
          refine Ev.step (fun k => rfl) (ev_pos (by omega) (ev_pos (by omega) (ev_pos (by omega) ?_)))
          unfold allF
          have inner : ∀ g j, j + g = l.length → Ev (fun k => spec_dlGood.l1 k l d p (i : Int) (rd_L1 l (i : Int)) l (l.length : Int) (i : Int) ((rd_L1 l (i : Int)).length : Int) (j : Int)) (allF (cellB l d p i) g j && allF (fun i => allF (cellB l d p i) l.length 0) f (i + 1)) := by
            intro g
            induction g with
            | zero =>
              intro j hj
              refine Ev.step (fun k => rfl) (ev_neg (by omega) ?_)
              rw [wr1 (by omega)]
              exact ev_eq (by simp [allF]) (ih (i + 1) (by omega))
            | succ g ih2 =>
              intro j hj
              refine Ev.step (fun k => rfl) (ev_pos (by omega) (ev_pos (by omega) (ev_pos (by omega) ?_)))
              rw [wr1 (by omega)]
              have e : allF (cellB l d p i) (g + 1) j = (cellB l d p i j && allF (cellB l d p i) g (j + 1)) := rfl
              rw [e]
              by_cases hx : rd (rd_L1 l (i : Int)) (j : Int) = 1000000000
              · have : cellB l d p i j = true := by simp [cellB, hx]
                rw [this]
                exact ev_pos hx (ev_eq (by simp) (ih2 (j + 1) (by omega)))
              · refine ev_neg hx (Ev.bind (ev_const (dlBuffer_eq hpl (by omega) (by omega) (by omega) (by omega))) ?_)
                by_cases hb : bufB l d p (i : Int) (j : Int) < 0
                · have : cellB l d p i j = false := by simp only [cellB, decide_eq_false_iff_not]; omega
                  rw [this]
                  exact ev_pos hb (ev_const (by simp))
                · have : cellB l d p i j = true := by simp only [cellB, decide_eq_true_eq]; omega
                  rw [this]
                  exact ev_neg hb (ev_eq (by simp) (ih2 (j + 1) (by omega)))
          exact inner l.length 0 (by omega)
      exact key l.length 0 (by omega)
theorem zip_forall {P : Int → Int → Prop} {n d : List Int} : (∀ x ∈ List.zip n d, P x.1 x.2) ↔ ∀ i, i < n.length → i < d.length → P (rd n (i : Int)) (rd d (i : Int)) := by
  constructor
  · intro h i h1 h2
    have := h (n[i], d[i]) (by
      rw [List.mem_iff_getElem]
      exact ⟨i, by simp; omega, by simp⟩)
    rw [rd_get h1, rd_get h2]
    exact this
  · intro h x hx
    obtain ⟨i, hi, rfl⟩ := List.mem_iff_getElem.1 hx
    simp only [List.length_zip] at hi
    have := h i (by omega) (by omega)
    rw [rd_get (by omega), rd_get (by omega)] at this
    simpa using this
theorem leastB_le (q : List (Int × Int)) (p : Int) : ∀ a, q.foldl leastStep a ≤ p ↔ a ≤ p ∧ ∀ x ∈ q, x.1 - x.2 ≤ p := by
  induction q with
  | nil => intro a; simp
  | cons y t ih =>
    intro a
    rw [List.foldl_cons, ih]
    unfold leastStep
    constructor
    · rintro ⟨h1, h2⟩
      refine ⟨by omega, fun x hx => ?_⟩
      rcases List.mem_cons.1 hx with rfl | hx
      · omega
      · exact h2 x hx
    · rintro ⟨h1, h2⟩
      have := h2 y (List.mem_cons_self ..)
      exact ⟨by omega, fun x hx => h2 x (List.mem_cons_of_mem _ hx)⟩
theorem mostB_le (q : List (Int × Int)) (t : Int) : ∀ a, q.foldl stepM a ≤ t ↔ a ≤ t ∧ ∀ x ∈ q, x.1 ≠ 1000000000 → x.2 + x.1 ≤ t := by
  induction q with
  | nil => intro a; simp
  | cons y r ih =>
    intro a
    rw [List.foldl_cons, ih]
    unfold stepM
    constructor
    · rintro ⟨h1, h2⟩
      refine ⟨by split at h1 <;> omega, fun x hx hne => ?_⟩
      rcases List.mem_cons.1 hx with rfl | hx
      · rw [if_neg hne] at h1
        omega
      · exact h2 x hx hne
    · rintro ⟨h1, h2⟩
      refine ⟨?_, fun x hx => h2 x (List.mem_cons_of_mem _ hx)⟩
      split
      · exact h1
      · rename_i e
        have := h2 y (List.mem_cons_self ..) e
        omega
theorem steady_iff {l : List (List Int)} {d : List Int} {p : Int} (h : Plan l d p) : decide (leastB 0 (nextB l d) d ≤ p) = steadyOk l d p := by
  have hl := h.len
  have hp := h.per
  rw [Bool.eq_iff_iff, decide_eq_true_eq]
  unfold steadyOk leastB
  rw [leastB_le, allF_iff, zip_forall (P := fun a b => a - b ≤ p)]
  have hn := nextB_length l d
  constructor
  · rintro ⟨_, h2⟩ i _ hi
    rw [allF_iff]
    intro j _ hj
    have h3 := h2 i (by omega) (by omega)
    rw [rd_next (by omega)] at h3
    have h4 : mostB 0 (rd_L1 l (i : Int)) d ≤ rd d (i : Int) + p := by omega
    unfold mostB at h4
    rw [mostB_le, zip_forall (P := fun a b => a ≠ 1000000000 → b + a ≤ rd d (i : Int) + p)] at h4
    have hw := wide_rrd h.tr.wide (by omega : i < l.length)
    have h5 := h4.2 j (by omega) (by omega)
    have h6 : rd (rd_L1 l (i : Int)) (j : Int) = 1000000000 ∨ 0 ≤ bufB l d p (i : Int) (j : Int) := by
      by_cases e : rd (rd_L1 l (i : Int)) (j : Int) = 1000000000
      · exact .inl e
      · have := h5 e
        exact .inr (by unfold bufB; omega)
    exact decide_eq_true h6
  · intro h2
    refine ⟨hp.1, fun i h3 h4 => ?_⟩
    rw [rd_next (by omega)]
    have hw := wide_rrd h.tr.wide (by omega : i < l.length)
    have hui := upto_rd h.up h4
    have h5 : mostB 0 (rd_L1 l (i : Int)) d ≤ rd d (i : Int) + p := by
      unfold mostB
      rw [mostB_le, zip_forall (P := fun a b => a ≠ 1000000000 → b + a ≤ rd d (i : Int) + p)]
      refine ⟨by omega, fun j h6 h7 hne => ?_⟩
      have h8 := (allF_iff _ _ _).1 (h2 i (by omega) (by omega)) j (by omega) (by omega)
      have h9 : rd (rd_L1 l (i : Int)) (j : Int) = 1000000000 ∨ 0 ≤ bufB l d p (i : Int) (j : Int) := of_decide_eq_true h8
      unfold bufB at h9
      omega
    omega
theorem ev_planOf (l : List (List Int)) (d : List Int) (p : Int) (h : Short l) : Ev (fun k => impl_planOf.f k l d p) (l, d, p, goodB l d p) := by
  unfold impl_planOf.f
  refine Ev.bind (ev_implIsSteady l d p h) (ev_const ?_)
  unfold steadyR goodB
  cases hb : bothB l d with
  | false => simp
  | true =>
    obtain ⟨ht, hd, htm⟩ := bothB_parts hb
    by_cases hp : 0 ≤ p ∧ p ≤ 100000
    · have := steady_iff ⟨ht, hd, timesB_upto htm, hp⟩
      have e : (if true = true ∧ 0 ≤ p ∧ p ≤ 100000 then (decide (leastB 0 (nextB l d) d ≤ p), true) else (false, false)) = (steadyOk l d p, true) := by rw [if_pos ⟨rfl, hp⟩, this]
      rw [e, decide_eq_true hp]
      simp
    · have e : (if true = true ∧ 0 ≤ p ∧ p ≤ 100000 then (decide (leastB 0 (nextB l d) d ≤ p), true) else (false, false)) = (false, false) := if_neg (fun h => hp h.2)
      rw [e, decide_eq_false hp]
      simp

end Go.Proofs.Ytebjiooojkhkpaa.Pure

/- Harmless delays, the next delays, rounds of delays, their sums: the program and the reference come to the same. Condition: lists no longer than memory allows. -/
namespace Go.Proofs.Ytebjiooojkhkpaa.Pure
open Go.RowKit Go.Proofs.Ytebjiooojkhkpaa.X Go.Proofs.YtebjiooojkhkpaaW.PrintWords Go.Proofs.YtebjiooojkhkpaaW.PrintMore
set_option linter.unusedVariables false
set_option linter.unusedSimpArgs false

/-- The delay of train i in the next round, behind a place. -/
def lateF (l : List (List Int)) (d : List Int) (p : Int) (x : List Int) (i : Int) : Nat → Nat → Int → Int
  | 0, _, a => a
  | f + 1, j, a => lateF l d p x i f (j + 1) (if rd (rd_L1 l i) (j : Int) = 1000000000 then a else max a (rd x (j : Int) - bufB l d p i (j : Int)))
def delB (l : List (List Int)) (d : List Int) (p : Int) (x : List Int) : List Int := (List.range l.length).map fun (i : Nat) => lateF l d p x (i : Int) l.length 0 0
theorem delB_length (l : List (List Int)) (d : List Int) (p : Int) (x : List Int) : (delB l d p x).length = l.length := by simp [delB]
theorem lateF_bound {l : List (List Int)} {d : List Int} {p : Int} (hg : goodB l d p = true) {x : List Int} (hx : x.length = l.length) (hu : Upto 10000 x) {i : Int} (h0 : 0 ≤ i) (h1 : i < (l.length : Int)) : ∀ (f j : Nat) (a : Int), j + f = l.length → 0 ≤ a → a ≤ 10000 → 0 ≤ lateF l d p x i f j a ∧ lateF l d p x i f j a ≤ 10000
  | 0, _, a, _, h2, h3 => ⟨h2, h3⟩
  | f + 1, j, a, hf, h2, h3 => by
    unfold lateF
    have b := upto_rd hu (by omega : j < x.length)
    by_cases e : rd (rd_L1 l i) (j : Int) = 1000000000
    · rw [if_pos e]
      exact lateF_bound hg hx hu h0 h1 f (j + 1) a (by omega) h2 h3
    · rw [if_neg e]
      have := good_cell hg h0 h1 (by omega : (0 : Int) ≤ (j : Int)) (by omega) e
      exact lateF_bound hg hx hu h0 h1 f (j + 1) _ (by omega) (by omega) (by omega)
theorem delB_upto {l : List (List Int)} {d : List Int} {p : Int} (hg : goodB l d p = true) {x : List Int} (hx : x.length = l.length) (hu : Upto 10000 x) : Upto 10000 (delB l d p x) := by
  intro y hy
  simp only [delB, List.mem_map, List.mem_range] at hy
  obtain ⟨i, hi, rfl⟩ := hy
  exact lateF_bound hg hx hu (by omega) (by omega) l.length 0 0 (by omega) (by omega) (by omega)
theorem rd_delB {l : List (List Int)} {d : List Int} {p : Int} {x : List Int} {i : Nat} (h : i < l.length) : rd (delB l d p x) (i : Int) = lateF l d p x (i : Int) l.length 0 0 := by
  rw [rd_get (by rw [delB_length]; exact h)]
  simp [delB]
theorem bufB_bound {l : List (List Int)} {d : List Int} {p i j : Int} (h : Plan l d p) (h0 : 0 ≤ i) (h1 : i < (l.length : Int)) (h2 : 0 ≤ j) (h3 : j < (l.length : Int)) : -2000000000 ≤ bufB l d p i j ∧ bufB l d p i j ≤ 2000000000 := by
  have hl := h.len
  have b1 := cell_entry h.tr h0 h1 h2 h3
  have b2 := upto_rdI h.up h0 (by omega)
  have b3 := upto_rdI h.up h2 (by omega)
  have hp := h.per
  unfold bufB
  omega
theorem ev_dlNext (l : List (List Int)) (d : List Int) (p : Int) (x : List Int) (h : Plan l d p) (hx : x.length = l.length) (hu : Upto 10000 x) : Ev (fun k => spec_dlNext.f k l d p x) (delB l d p x) := by
  unfold spec_dlNext.f
  have h6 := h.tr.six
  have hlen := delB_length l d p x
  have key : ∀ i, i ≤ l.length → Ev (fun k => spec_dlNext.l0 k l d p x ((delB l d p x).take i) l (l.length : Int) (i : Int)) (delB l d p x) := by
    refine up_to _ ?_ ?_
    · rw [take_all (by omega)]
      exact Ev.step (fun k => rfl) (ev_neg (by omega) (Ev.now _))
    · intro i hi ih
      have hw := wide_rrd h.tr.wide hi
      refine Ev.step (fun k => rfl) (ev_pos (by omega) (ev_pos (by omega) (ev_pos (by omega) ?_)))
      have inner : ∀ f j, j + f = l.length → ∀ a, lateF l d p x (i : Int) f j a = rd (delB l d p x) (i : Int) → Ev (fun k => spec_dlNext.l1 k l d p x ((delB l d p x).take i) (i : Int) a l (l.length : Int) (i : Int) (rd_L1 l (i : Int)) ((rd_L1 l (i : Int)).length : Int) (j : Int)) (delB l d p x) := by
        intro f
        induction f with
        | zero =>
          intro j hj a ha
          have ha : a = rd (delB l d p x) (i : Int) := ha
          refine Ev.step (fun k => rfl) (ev_neg (by omega) (ev_pos (by simp; omega) ?_))
          rw [wr1 (by omega), ha, ← take_rd (by omega)]
          exact ih
        | succ f ih2 =>
          intro j hj a ha
          have b := upto_rd hu (by omega : j < x.length)
          have bb := bufB_bound h (i := (i : Int)) (j := (j : Int)) (by omega) (by omega) (by omega) (by omega)
          unfold lateF at ha
          refine Ev.step (fun k => rfl) (ev_pos (by omega) (ev_pos (by omega) (ev_pos (by omega) ?_)))
          rw [wr1 (by omega)]
          by_cases e : rd (rd_L1 l (i : Int)) (j : Int) = 1000000000
          · rw [if_pos e] at ha
            exact ev_pos e (ih2 (j + 1) (by omega) a ha)
          · rw [if_neg e] at ha
            refine ev_neg e (ev_pos (by omega) (Ev.bind (ev_const (dlBuffer_eq h (by omega) (by omega) (by omega) (by omega))) (Ev.bind (ev_const (l1Most_eq _ _)) ?_)))
            rw [wr (by omega) (by omega)]
            exact ih2 (j + 1) (by omega) _ ha
      exact inner l.length 0 (by omega) 0 (by rw [rd_delB hi])
  exact key 0 (Nat.zero_le _)
theorem rd_setI {s : List Int} {i : Nat} {v : Int} (h : i < s.length) : rd (s.set i v) (i : Int) = v := by
  rw [rd_get (by simp; exact h)]
  simp
theorem planRow_eq {l : List (List Int)} {d : List Int} {p : Int} {x : List Int} (h : Plan l d p) (hx : x.length = l.length) (hu : Upto 10000 x) {i : Nat} (hi : i < l.length) : ∀ (f j : Nat) (s : List Int), j + f = l.length → s.length = l.length →
    impl_plan_next.row (fun i j => impl_plan_waits.f l d p i j) (fun s i j => impl_plan_next.step l d p x s i j) (i : Int) f j s = some (s.set i (lateF l d p x (i : Int) f j (rd s (i : Int))))
  | 0, j, s, _, hs => by
    unfold impl_plan_next.row lateF
    rw [rd_get (by omega), List.set_getElem_self]
  | f + 1, j, s, hf, hs => by
    unfold impl_plan_next.row lateF
    have b := upto_rd hu (by omega : j < x.length)
    have bb := bufB_bound h (i := (i : Int)) (j := (j : Int)) (by omega) (by omega) (by omega) (by omega)
    rw [waits_eq h.tr (by omega) (by omega) (by omega) (by omega), Option.bind_some]
    by_cases e : rd (rd_L1 l (i : Int)) (j : Int) = 1000000000
    · rw [if_neg (by simp [e]), Option.bind_some, if_pos e]
      exact planRow_eq h hx hu hi f (j + 1) s (by omega) hs
    · rw [if_pos (by simp [e]), if_neg e]
      have hst : impl_plan_next.step l d p x s (i : Int) (j : Int) = some (s.set i (max (rd s (i : Int)) (rd x (j : Int) - bufB l d p (i : Int) (j : Int)))) := by
        unfold impl_plan_next.step
        rw [if_pos (by omega), if_pos (by omega), if_pos (by omega), if_pos (by omega), planBuffer_eq h (by omega) (by omega) (by omega) (by omega), Option.bind_some, wr (by omega) (by omega), mx_max', Int.toNat_natCast]
      rw [hst, Option.bind_some, planRow_eq h hx hu hi f (j + 1) _ (by omega) (by simp; exact hs), rd_setI (by omega), List.set_set]
theorem planAll_eq {l : List (List Int)} {d : List Int} {p : Int} {x : List Int} (h : Plan l d p) (hx : x.length = l.length) (hu : Upto 10000 x) : ∀ (f i : Nat), i + f = l.length →
    impl_plan_next.all (fun i j => impl_plan_waits.f l d p i j) (fun s i j => impl_plan_next.step l d p x s i j) l.length f i ((delB l d p x).take i ++ List.replicate f 0) = some (delB l d p x)
  | 0, i, hf => by
    have hlen := delB_length l d p x
    unfold impl_plan_next.all
    rw [take_all (by omega)]
    simp
  | f + 1, i, hf => by
    have hlen := delB_length l d p x
    unfold impl_plan_next.all
    have hr : rd ((delB l d p x).take i ++ List.replicate (f + 1) 0) (i : Int) = 0 := by
      rw [rd_get (by simp; omega), List.getElem_append_right (by simp; omega)]
      simp
    rw [planRow_eq h hx hu (by omega) l.length 0 _ (by omega) (by simp; omega), Option.bind_some, hr, ← rd_delB (by omega)]
    have e : ((delB l d p x).take i ++ List.replicate (f + 1) 0).set i (rd (delB l d p x) (i : Int)) = (delB l d p x).take (i + 1) ++ List.replicate f 0 := by
      rw [take_rd (by omega), List.replicate_succ, List.set_append_right _ _ (by simp; omega)]
      have e3 : i - ((delB l d p x).take i).length = 0 := by simp; omega
      rw [e3]
      simp
    rw [e]
    exact planAll_eq h hx hu f (i + 1) (by omega)
theorem planNext_eq (l : List (List Int)) (d : List Int) (p : Int) (x : List Int) (h : Plan l d p) (hx : x.length = l.length) (hu : Upto 10000 x) : impl_plan_next.f l d p x = some (delB l d p x) := by
  unfold impl_plan_next.f
  have h6 := h.tr.six
  rw [if_pos (by omega), hx]
  exact planAll_eq h hx hu l.length 0 (by omega)
/-- Delays. -/
def lateOk (l : List (List Int)) (x : List Int) : Bool := decide (x.length = l.length) && x.all fun n => decide (0 ≤ n ∧ n ≤ 10000)
theorem ev_dlAsked (l : List (List Int)) (d : List Int) (p : Int) (x : List Int) (h : Short l) (hdl : (d.length : Int) ≤ 1048576) (hxl : (x.length : Int) ≤ 1048576) : Ev (fun k => spec_dlAsked.f k l d p x) (goodB l d p && lateOk l x) := by
  unfold spec_dlAsked.f lateOk
  refine Ev.bind (ev_dlGood l d p h hdl) ?_
  cases goodB l d p with
  | false => exact ev_false (ev_const rfl)
  | true =>
    refine ev_true ?_
    by_cases e : x.length = l.length
    · exact ev_pos (by omega) (ev_bind0 (ev_l1All x 0 10000 (by omega)) (by simp [e]))
    · exact ev_neg (by omega) (ev_const (by simp [e]))
theorem areDelays_eq (l : List (List Int)) (d : List Int) (p : Int) (x : List Int) : impl_plan_areDelays.f l d p x = some (lateOk l x) := by
  unfold impl_plan_areDelays.f lateOk
  by_cases e : x.length = l.length
  · rw [if_pos (by omega), decide_eq_true e, Bool.true_and]
    obtain ⟨K, hK⟩ := (Ext.ev_anyO x (fun n _ => ev_const (by unfold impl_plan_areDelays.g; rw [within_eq, Option.bind_some])) : Ev (fun _ => Ext.anyO impl_plan_areDelays.g x) (x.any fun n => !decide (0 ≤ n ∧ n ≤ 10000)))
    have : Ext.anyO impl_plan_areDelays.g x = _ := hK K (Nat.le_refl _)
    rw [this, Option.bind_some]
    congr 1
    rw [List.any_eq_not_all_not]
    simp
  · rw [if_neg (by omega), decide_eq_false e]
    rfl
theorem ev_delayed (l : List (List Int)) (d : List Int) (p : Int) (x : List Int) (h : Short l) : Ev (fun k => impl_delayed.f k l d p x) (l, d, p, goodB l d p && lateOk l x) := by
  unfold impl_delayed.f
  refine Ev.bind (ev_planOf l d p h) ?_
  dsimp only
  cases goodB l d p with
  | false => exact ev_false (ev_const rfl)
  | true => exact ev_true (ev_bind0 (ev_const (areDelays_eq l d p x)) rfl)
theorem lateOk_parts {l : List (List Int)} {x : List Int} (h : lateOk l x = true) : x.length = l.length ∧ Upto 10000 x := by
  simp only [lateOk, Bool.and_eq_true, decide_eq_true_eq, List.all_eq_true] at h
  exact ⟨h.1, fun n hn => by simpa using h.2 n hn⟩
/-- What NextDelays answers. -/
def delR (l : List (List Int)) (d : List Int) (p : Int) (x : List Int) : List Int × Bool := if (goodB l d p && lateOk l x) = true then (delB l d p x, true) else ([], false)
theorem asked_parts {l : List (List Int)} {d : List Int} {p : Int} {x : List Int} (h : (goodB l d p && lateOk l x) = true) : goodB l d p = true ∧ Plan l d p ∧ x.length = l.length ∧ Upto 10000 x := by
  rw [Bool.and_eq_true] at h
  exact ⟨h.1, goodB_plan h.1, lateOk_parts h.2⟩
theorem ev_specNextDelays (l : List (List Int)) (d : List Int) (p : Int) (x : List Int) (h : Short l) (hdl : (d.length : Int) ≤ 1048576) (hxl : (x.length : Int) ≤ 1048576) : Ev (fun k => spec_NextDelays.f k l d p x) (delR l d p x) := by
  unfold spec_NextDelays.f delR
  refine Ev.bind (ev_dlAsked l d p x h hdl hxl) ?_
  cases hg : (goodB l d p && lateOk l x) with
  | false => exact ev_false (ev_const (by simp))
  | true =>
    obtain ⟨h1, h2, h3, h4⟩ := asked_parts hg
    exact ev_true (ev_bind0 (ev_dlNext l d p x h2 h3 h4) (by simp))
theorem ev_implNextDelays (l : List (List Int)) (d : List Int) (p : Int) (x : List Int) (h : Short l) : Ev (fun k => impl_NextDelays.f k l d p x) (delR l d p x) := by
  unfold impl_NextDelays.f delR
  refine Ev.bind (ev_delayed l d p x h) ?_
  dsimp only
  cases hg : (goodB l d p && lateOk l x) with
  | false => exact ev_false (ev_const (by simp))
  | true =>
    obtain ⟨h1, h2, h3, h4⟩ := asked_parts hg
    exact ev_true (ev_bind0 (ev_const (planNext_eq l d p x h2 h3 h4)) (by simp))
theorem delR_length {l : List (List Int)} {d : List Int} {p : Int} {x : List Int} : (delR l d p x).1.length ≤ 6 := by
  unfold delR
  split
  · rename_i h
    have := (asked_parts h).2.1.tr.six
    rw [delB_length]
    exact this
  · simp
/-- Rounds of delays. -/
def delsB (l : List (List Int)) (d : List Int) (p : Int) : Nat → List Int → List Int
  | 0, x => x
  | n + 1, x => delsB l d p n (delB l d p x)
def delsR (l : List (List Int)) (d : List Int) (p : Int) (x : List Int) (n : Int) : List Int × Bool := if (goodB l d p && lateOk l x) = true ∧ 0 ≤ n ∧ n ≤ 50 then (delsB l d p n.toNat x, true) else ([], false)
theorem delsB_length {l : List (List Int)} {d : List Int} {p : Int} : ∀ (n : Nat) (x : List Int), x.length = l.length → (delsB l d p n x).length = l.length
  | 0, x, h => h
  | n + 1, x, h => delsB_length n _ (delB_length l d p x)
theorem ev_specDelaysAfter (l : List (List Int)) (d : List Int) (p : Int) (x : List Int) (n : Int) (h : Short l) (hdl : (d.length : Int) ≤ 1048576) (hxl : (x.length : Int) ≤ 1048576) : Ev (fun k => spec_DelaysAfter.f k l d p x n) (delsR l d p x n) := by
  unfold spec_DelaysAfter.f delsR
  refine Ev.bind (ev_dlAsked l d p x h hdl hxl) ?_
  cases hg : (goodB l d p && lateOk l x) with
  | false => exact ev_false (ev_j (g := fun k b => spec_DelaysAfter.j0 k l d p x n b) (fun _ _ => rfl) (fun _ => ev_const (by simp)) (fun hb => nomatch hb))
  | true =>
    obtain ⟨h1, h2, h3, h4⟩ := asked_parts hg
    refine ev_true (Ev.bind (ev_const (l1In_eq n 0 50)) ?_)
    refine ev_j (g := fun k b => spec_DelaysAfter.j0 k l d p x n b) (fun _ _ => rfl) (fun hp => ev_const ?_) (fun hp => ?_)
    · rw [if_neg (fun h => by simp at hp; omega)]
    · have hp : 0 ≤ n ∧ n ≤ 50 := by simp at hp; omega
      rw [if_pos ⟨rfl, hp⟩]
      have h6 := h2.tr.six
      refine Ev.bind (ev_const (ev_l1Own x (by omega))) ?_
      have key : ∀ m : Nat, m ≤ 50 → ∀ x, x.length = l.length → Upto 10000 x → Ev (fun k => spec_DelaysAfter.l0 k l d p (m : Int) x) (delsB l d p m x, true) := by
        intro m
        induction m with
        | zero =>
          intro _ x hx hu
          exact Ev.step (fun k => rfl) (ev_neg (by omega) (Ev.now _))
        | succ m ih =>
          intro hm x hx hu
          refine Ev.step (fun k => rfl) (ev_pos (by omega) (Ev.bind (ev_dlNext l d p x h2 hx hu) ?_))
          have e : wrap64 (((m + 1 : Nat) : Int) - 1) = (m : Int) := by rw [wr (by omega) (by omega)]; omega
          rw [e]
          exact ih (by omega) _ (delB_length l d p x) (delB_upto h1 hx hu)
      have := key n.toNat (by omega) x h3 h4
      rw [show (n.toNat : Int) = n by omega] at this
      exact this
theorem ev_implDelaysAfter (l : List (List Int)) (d : List Int) (p : Int) (x : List Int) (n : Int) (h : Short l) : Ev (fun k => impl_DelaysAfter.f k l d p x n) (delsR l d p x n) := by
  unfold impl_DelaysAfter.f delsR
  refine Ev.bind (ev_delayed l d p x h) ?_
  dsimp only
  cases hg : (goodB l d p && lateOk l x) with
  | false => exact ev_false (ev_j (g := fun k b => impl_DelaysAfter.j0 k x n b l d p) (fun _ _ => rfl) (fun _ => ev_const (by simp)) (fun hb => nomatch hb))
  | true =>
    obtain ⟨h1, h2, h3, h4⟩ := asked_parts hg
    refine ev_true (Ev.bind (ev_const (within_eq n 0 50)) ?_)
    refine ev_j (g := fun k b => impl_DelaysAfter.j0 k x n b l d p) (fun _ _ => rfl) (fun hp => ev_const ?_) (fun hp => ?_)
    · rw [if_neg (fun h => by simp at hp; omega)]
    · have hp : 0 ≤ n ∧ n ≤ 50 := by simp at hp; omega
      rw [if_pos ⟨rfl, hp⟩]
      have h6 := h2.tr.six
      have hc : slices_Clone_int_int.f x = some x := by unfold slices_Clone_int_int.f; rw [if_pos (by omega)]
      refine Ev.bind (ev_const hc) ?_
      have key : ∀ m : Nat, m ≤ 50 → ∀ i : Nat, (i : Int) + (m : Int) = n → ∀ x, x.length = l.length → Upto 10000 x → Ev (fun k => impl_DelaysAfter.l0 k x n (i : Int) l d p) (delsB l d p m x, true) := by
        intro m
        induction m with
        | zero =>
          intro _ i hi x hx hu
          exact Ev.step (fun k => rfl) (ev_neg (by omega) (Ev.now _))
        | succ m ih =>
          intro hm i hi x hx hu
          refine Ev.step (fun k => rfl) (ev_pos (by omega) (Ev.bind (ev_const (planNext_eq l d p x h2 hx hu)) ?_))
          rw [wr1 (by omega)]
          exact ih (by omega) (i + 1) (by omega) _ (delB_length l d p x) (delB_upto h1 hx hu)
      exact key n.toNat (by omega) 0 (by omega) x h3 h4
theorem delsR_length {l : List (List Int)} {d : List Int} {p : Int} {x : List Int} {n : Int} : (delsR l d p x n).1.length ≤ 6 := by
  unfold delsR
  split
  · rename_i h
    obtain ⟨h1, h2, h3, h4⟩ := asked_parts h.1
    have := h2.tr.six
    have := delsB_length (d := d) (p := p) n.toNat x h3
    dsimp only
    omega
  · simp
/-- Until all is calm. -/
def calmB (l : List (List Int)) (d : List Int) (p : Int) : Nat → Int → Int → List Int → Int × Int × Bool
  | 0, _, _, _ => (0, 0, false)
  | n + 1, r, t, x => if x.all (fun y => decide (y = 0)) = true then (r, t, true) else calmB l d p n (r + 1) (t + x.sum) (delB l d p x)
theorem sum_bound {x : List Int} : Upto 10000 x → x.length ≤ 6 → 0 ≤ x.sum ∧ x.sum ≤ 10000 * (x.length : Int) := by
  induction x with
  | nil => intro _ _; simp
  | cons y t ih =>
    intro hu hl
    have h1 := hu y (List.mem_cons_self ..)
    have h2 := ih (fun z hz => hu z (List.mem_cons_of_mem _ hz)) (by simp at hl; omega)
    rw [List.sum_cons, List.length_cons]
    omega
theorem ev_max0 (x : List Int) (h0 : 0 < x.length) (h1 : (x.length : Int) ≤ 1048576) (hu : Upto 10000 x) : ∃ m, Ev (fun k => slices_Max_int_int.f k x) m ∧ (m = 0 ↔ x.all (fun y => decide (y = 0)) = true) := by
  refine ⟨(x.drop 1).foldl max (rd x 0), ?_, ?_⟩
  · unfold slices_Max_int_int.f
    refine ev_neg (by omega) (ev_pos (by omega) ?_)
    have key : ∀ i, i ≤ x.length → ∀ a, Ev (fun k => slices_Max_int_int.l0 k x a (i : Int)) ((x.drop i).foldl max a) := by
      refine up_to _ ?_ ?_
      · intro a
        rw [drop_all (Nat.le_refl _)]
        exact Ev.step (fun k => rfl) (ev_neg (by omega) (Ev.now _))
      · intro i hi ih a
        rw [drop_rd hi, List.foldl_cons]
        refine Ev.step (fun k => rfl) (ev_pos (by omega) (ev_pos (by omega) ?_))
        rw [wr1 (by omega), mx_max']
        exact ih _
    exact key 1 (by omega) _
  · have : ∀ (s : List Int) (a : Int), Upto 10000 s → 0 ≤ a → (s.foldl max a = 0 ↔ (a = 0 ∧ s.all (fun y => decide (y = 0)) = true)) := by
      intro s
      induction s with
      | nil => intro a _ _; simp
      | cons y s ih =>
        intro a hs ha
        have h1 := hs y (List.mem_cons_self ..)
        rw [List.foldl_cons, ih _ (fun z hz => hs z (List.mem_cons_of_mem _ hz)) (by omega), List.all_cons, Bool.and_eq_true, decide_eq_true_eq]
        constructor
        · rintro ⟨h2, h3⟩; exact ⟨by omega, by omega, h3⟩
        · rintro ⟨h2, h3, h4⟩; exact ⟨by omega, h4⟩
    cases x with
    | nil => simp at h0
    | cons y s =>
      have hy := hu y (List.mem_cons_self ..)
      rw [this _ _ (fun z hz => hu z (by simp at hz; exact List.mem_cons_of_mem _ hz)) (by rw [rd_zero]; exact hy.1)]
      simp [rd_zero]
theorem ev_total (x : List Int) (hu : Upto 10000 x) (hl : x.length ≤ 6) : Ev (fun k => impl_total.f k x) x.sum := by
  unfold impl_total.f
  have key : ∀ i, i ≤ x.length → ∀ a, 0 ≤ a → a ≤ 10000 * (i : Int) → Ev (fun k => impl_total.l0 k a x (x.length : Int) (i : Int)) (a + (x.drop i).sum) := by
    refine up_to _ ?_ ?_
    · intro a _ _
      rw [drop_all (Nat.le_refl _)]
      exact Ev.step (fun k => rfl) (ev_neg (by omega) (ev_const (by simp)))
    · intro i hi ih a h0 h1
      have b := upto_rd hu hi
      rw [drop_rd hi, List.sum_cons, ← Int.add_assoc]
      refine Ev.step (fun k => rfl) (ev_pos (by omega) (ev_pos (by omega) (ev_pos (by omega) ?_)))
      rw [wr1 (by omega), wr (by omega) (by omega)]
      exact ih _ (by omega) (by omega)
  have := key 0 (Nat.zero_le _) 0 (by omega) (by omega)
  simpa using this
theorem ev_dlCalm (l : List (List Int)) (d : List Int) (p : Int) (x : List Int) (hg : goodB l d p = true) (hx : x.length = l.length) (hu : Upto 10000 x) : Ev (fun k => spec_dlCalm.f k l d p x) (calmB l d p 51 0 0 x) := by
  unfold spec_dlCalm.f
  have hpl := goodB_plan hg
  have h6 := hpl.tr.six
  have key : ∀ m : Nat, ∀ i : Nat, i + m = 51 → ∀ (t : Int) (x : List Int), 0 ≤ t → t ≤ 60000 * (i : Int) → x.length = l.length → Upto 10000 x → Ev (fun k => spec_dlCalm.l0 k l d p x t (i : Int)) (calmB l d p m (i : Int) t x) := by
    intro m
    induction m with
    | zero =>
      intro i hi t x _ _ hx hu
      exact Ev.step (fun k => rfl) (ev_neg (by omega) (Ev.now _))
    | succ m ih =>
      intro i hi t x h0 h1 hx hu
      refine Ev.step (fun k => rfl) (ev_pos (by omega) (Ev.bind (ev_l1All x 0 0 (by omega)) ?_))
      unfold calmB
      have e : (x.all fun n => decide (0 ≤ n ∧ n ≤ 0)) = x.all (fun y => decide (y = 0)) := by
        congr 1
        funext n
        rw [decide_eq_decide]
        omega
      rw [e]
      cases ha : x.all (fun y => decide (y = 0)) with
      | true => exact ev_true (ev_const (by simp))
      | false =>
        refine ev_false ?_
        rw [if_neg (by simp)]
        have hsb := sum_bound hu (by omega)
        have inner : ∀ j, j ≤ x.length → ∀ s, 0 ≤ s → s ≤ 60000 * (i : Int) + 10000 * (j : Int) → s + (x.drop j).sum = t + x.sum → Ev (fun k => spec_dlCalm.l1 k l d p x s (i : Int) x (x.length : Int) (j : Int)) (calmB l d p m ((i : Int) + 1) (t + x.sum) (delB l d p x)) := by
          refine up_to _ ?_ ?_
          · intro s hs0 hs1 hs
            rw [drop_all (Nat.le_refl _)] at hs
            have hs : s = t + x.sum := by simpa using hs
            refine Ev.step (fun k => rfl) (ev_neg (by omega) (Ev.bind (ev_dlNext l d p x hpl hx hu) ?_))
            rw [wr1 (by omega), hs]
            have := ih (i + 1) (by omega) (t + x.sum) (delB l d p x) (by omega) (by omega) (delB_length l d p x) (delB_upto hg hx hu)
            rw [show ((i + 1 : Nat) : Int) = (i : Int) + 1 by omega] at this ⊢
            exact this
          · intro j hj ih2 s hs0 hs1 hs
            have b := upto_rd hu hj
            rw [drop_rd hj, List.sum_cons, ← Int.add_assoc] at hs
            refine Ev.step (fun k => rfl) (ev_pos (by omega) (ev_pos (by omega) (ev_pos (by omega) ?_)))
            rw [wr1 (by omega), wr (by omega) (by omega)]
            exact ih2 _ (by omega) (by omega) hs
        exact inner 0 (Nat.zero_le _) t h0 (by omega) (by simp)
  exact key 51 0 (by omega) 0 x (by omega) (by omega) hx hu
theorem ev_planCalm (l : List (List Int)) (d : List Int) (p : Int) (x : List Int) (hg : goodB l d p = true) (hx : x.length = l.length) (hu : Upto 10000 x) : Ev (fun k => impl_plan_calm.f k l d p x) (calmB l d p 51 0 0 x) := by
  unfold impl_plan_calm.f
  have hpl := goodB_plan hg
  have h6 := hpl.tr.six
  have hp := hpl.tr.pos
  have key : ∀ m : Nat, ∀ i : Nat, i + m = 51 → ∀ (t : Int) (x : List Int), 0 ≤ t → t ≤ 60000 * (i : Int) → x.length = l.length → Upto 10000 x → Ev (fun k => impl_plan_calm.l0 k x t (i : Int) l d p) (calmB l d p m (i : Int) t x) := by
    intro m
    induction m with
    | zero =>
      intro i hi t x _ _ hx hu
      exact Ev.step (fun k => rfl) (ev_neg (by omega) (Ev.now _))
    | succ m ih =>
      intro i hi t x h0 h1 hx hu
      obtain ⟨mm, hmm, hm0⟩ := ev_max0 x (by omega) (by omega) hu
      have hsb := sum_bound hu (by omega)
      refine Ev.step (fun k => rfl) (ev_pos (by omega) (Ev.bind hmm ?_))
      unfold calmB
      by_cases e : mm = 0
      · exact ev_pos e (ev_const (by rw [if_pos (hm0.1 e)]))
      · refine ev_neg e (Ev.bind (ev_total x hu (by omega)) (Ev.bind (ev_const (planNext_eq l d p x hpl hx hu)) ?_))
        rw [if_neg (fun h => e (hm0.2 h)), wr1 (by omega), wr (by omega) (by omega)]
        have := ih (i + 1) (by omega) (t + x.sum) (delB l d p x) (by omega) (by omega) (delB_length l d p x) (delB_upto hg hx hu)
        rw [show ((i + 1 : Nat) : Int) = (i : Int) + 1 by omega] at this ⊢
        exact this
  exact key 51 0 (by omega) 0 x (by omega) (by omega) hx hu
def calmR (l : List (List Int)) (d : List Int) (p : Int) (x : List Int) : Int × Int × Bool := if (goodB l d p && lateOk l x) = true then calmB l d p 51 0 0 x else (0, 0, false)
theorem ev_specRoundsToCalm (l : List (List Int)) (d : List Int) (p : Int) (x : List Int) (h : Short l) (hdl : (d.length : Int) ≤ 1048576) (hxl : (x.length : Int) ≤ 1048576) : Ev (fun k => spec_RoundsToCalm.f k l d p x) ((calmR l d p x).1, (calmR l d p x).2.2) := by
  unfold spec_RoundsToCalm.f calmR
  refine Ev.bind (ev_dlAsked l d p x h hdl hxl) ?_
  cases hg : (goodB l d p && lateOk l x) with
  | false => exact ev_false (ev_const (by simp))
  | true =>
    obtain ⟨h1, h2, h3, h4⟩ := asked_parts hg
    exact ev_true (ev_bind0 (ev_dlCalm l d p x h1 h3 h4) (by simp))
theorem ev_implRoundsToCalm (l : List (List Int)) (d : List Int) (p : Int) (x : List Int) (h : Short l) : Ev (fun k => impl_RoundsToCalm.f k l d p x) ((calmR l d p x).1, (calmR l d p x).2.2) := by
  unfold impl_RoundsToCalm.f calmR
  refine Ev.bind (ev_delayed l d p x h) ?_
  dsimp only
  cases hg : (goodB l d p && lateOk l x) with
  | false => exact ev_false (ev_const (by simp))
  | true =>
    obtain ⟨h1, h2, h3, h4⟩ := asked_parts hg
    exact ev_true (ev_bind0 (ev_planCalm l d p x h1 h3 h4) (by simp))
theorem ev_specTotalDelay (l : List (List Int)) (d : List Int) (p : Int) (x : List Int) (h : Short l) (hdl : (d.length : Int) ≤ 1048576) (hxl : (x.length : Int) ≤ 1048576) : Ev (fun k => spec_TotalDelay.f k l d p x) ((calmR l d p x).2.1, (calmR l d p x).2.2) := by
  unfold spec_TotalDelay.f calmR
  refine Ev.bind (ev_dlAsked l d p x h hdl hxl) ?_
  cases hg : (goodB l d p && lateOk l x) with
  | false => exact ev_false (ev_const (by simp))
  | true =>
    obtain ⟨h1, h2, h3, h4⟩ := asked_parts hg
    exact ev_true (ev_bind0 (ev_dlCalm l d p x h1 h3 h4) (by simp))
theorem ev_implTotalDelay (l : List (List Int)) (d : List Int) (p : Int) (x : List Int) (h : Short l) : Ev (fun k => impl_TotalDelay.f k l d p x) ((calmR l d p x).2.1, (calmR l d p x).2.2) := by
  unfold impl_TotalDelay.f calmR
  refine Ev.bind (ev_delayed l d p x h) ?_
  dsimp only
  cases hg : (goodB l d p && lateOk l x) with
  | false => exact ev_false (ev_const (by simp))
  | true =>
    obtain ⟨h1, h2, h3, h4⟩ := asked_parts hg
    exact ev_true (ev_bind0 (ev_planCalm l d p x h1 h3 h4) (by simp))
end Go.Proofs.Ytebjiooojkhkpaa.Pure

/- For all bytes the law FnDelays answers true: delays that are drawn are spread round by round, and when all is calm no delay is left. Condition: none but what the row says of sizes. -/
namespace Go.Proofs.Ytebjiooojkhkpaa.Pure
open Go.RowKit Go.Proofs.Ytebjiooojkhkpaa.X Go.Proofs.YtebjiooojkhkpaaW.PrintWords Go.Proofs.YtebjiooojkhkpaaW.PrintLast
set_option linter.unusedVariables false
set_option linter.unusedSimpArgs false

theorem ev_qInts (a b : List Int) (hn : (a.length : Int) ≤ 140737488355328) : Ev (fun k => laws_qInts.f k a b) (decide (a = b)) := by
  unfold laws_qInts.f
  by_cases h : a.length = b.length
  · exact ev_pos (by omega) (ev_same (L := fun k i => laws_qInts.l0 k a b (a.length : Int) i) hn h (fun k i => by rw [laws_qInts.l0]; by_cases c : i < (a.length : Int) <;> simp only [c, if_true, if_false]))
  · refine ev_neg (by omega) (ev_const ?_)
    have : ¬ a = b := fun e => h (by rw [e])
    simp [this]
theorem ev_qSum (x : List Int) (hu : Upto 10000 x) (hl : x.length ≤ 6) : Ev (fun k => laws_qSum.f k x) x.sum := by
  unfold laws_qSum.f
  have key : ∀ i, i ≤ x.length → ∀ a, 0 ≤ a → a ≤ 10000 * (i : Int) → Ev (fun k => laws_qSum.l0 k a x (x.length : Int) (i : Int)) (a + (x.drop i).sum) := by
    refine up_to _ ?_ ?_
    · intro a _ _
      rw [drop_all (Nat.le_refl _)]
      exact Ev.step (fun k => rfl) (ev_neg (by omega) (ev_const (by simp)))
    · intro i hi ih a h0 h1
      have b := upto_rd hu hi
      rw [drop_rd hi, List.sum_cons, ← Int.add_assoc]
      refine Ev.step (fun k => rfl) (ev_pos (by omega) (ev_pos (by omega) (ev_pos (by omega) ?_)))
      rw [wr1 (by omega), wr (by omega) (by omega)]
      exact ih _ (by omega) (by omega)
  have := key 0 (Nat.zero_le _) 0 (by omega) (by omega)
  simpa using this
theorem sum_zero {x : List Int} : Upto 10000 x → x.length ≤ 6 → (x.sum = 0 ↔ x.all (fun y => decide (y = 0)) = true) := by
  induction x with
  | nil => intro _ _; simp
  | cons y t ih =>
    intro hu hl
    have h1 := hu y (List.mem_cons_self ..)
    have hu2 : Upto 10000 t := fun z hz => hu z (List.mem_cons_of_mem _ hz)
    have hl2 : t.length ≤ 6 := by simp at hl; omega
    have h2 := sum_bound hu2 hl2
    have h3 := ih hu2 hl2
    rw [List.sum_cons, List.all_cons, Bool.and_eq_true, ← h3, decide_eq_true_eq]
    omega
theorem delsB_upto {l : List (List Int)} {d : List Int} {p : Int} (hg : goodB l d p = true) : ∀ (n : Nat) (x : List Int), x.length = l.length → Upto 10000 x → Upto 10000 (delsB l d p n x)
  | 0, x, _, hu => hu
  | n + 1, x, hx, hu => delsB_upto hg n _ (delB_length l d p x) (delB_upto hg hx hu)
/-- What the rounds until all is calm say. -/
theorem calm_says {l : List (List Int)} {d : List Int} {p : Int} (hg : goodB l d p = true) : ∀ (f : Nat) (r t : Int) (x : List Int), x.length = l.length → Upto 10000 x → (calmB l d p f r t x).2.2 = true →
    ∃ j : Nat, j < f ∧ (calmB l d p f r t x).1 = r + (j : Int) ∧ (delsB l d p j x).all (fun y => decide (y = 0)) = true ∧ (∀ i, i < j → ¬ (delsB l d p i x).all (fun y => decide (y = 0)) = true) ∧ t + x.sum ≤ (calmB l d p f r t x).2.1
  | 0, r, t, x, _, _, h => by simp [calmB] at h
  | f + 1, r, t, x, hx, hu, h => by
    have h6 := (goodB_plan hg).tr.six
    unfold calmB at h ⊢
    by_cases hz : x.all (fun y => decide (y = 0)) = true
    · rw [if_pos hz] at h ⊢
      refine ⟨0, by omega, by simp, hz, fun i hi => by omega, ?_⟩
      have := (sum_zero hu (by omega)).2 hz
      dsimp only
      omega
    · rw [if_neg hz] at h ⊢
      obtain ⟨j, h1, h2, h3, h4, h5⟩ := calm_says hg f (r + 1) (t + x.sum) _ (delB_length l d p x) (delB_upto hg hx hu) h
      refine ⟨j + 1, by omega, by omega, h3, fun i hi => ?_, ?_⟩
      · cases i with
        | zero => exact hz
        | succ i => exact h4 i (by omega)
      · have := sum_bound (delB_upto hg hx hu) (by rw [delB_length]; omega)
        omega
theorem delsR_yes {l : List (List Int)} {d : List Int} {p : Int} {x : List Int} {n : Int} (h : (goodB l d p && lateOk l x) = true) (h0 : 0 ≤ n) (h1 : n ≤ 50) : delsR l d p x n = (delsB l d p n.toNat x, true) := by
  unfold delsR
  rw [if_pos ⟨h, h0, h1⟩]
theorem FnDelays : laws_FnDelays.Pure := by
  intro l0 l1 _ hz0 hb0 _ hz1 hb1
  have hc0 := bytes_of hz0 hb0
  have hc1 := bytes_of hz1 hb1
  refine Ev.rounds ?_
  unfold laws_FnDelays.f
  by_cases hbig : wrap64 ((l0.length : Int) + (l1.length : Int)) > 1048576
  · exact ev_pos hbig (Ev.now true)
  refine ev_neg hbig ?_
  obtain ⟨m, d, p, x, hd, hm, hd6, hx7⟩ := drawNextDelays_ok hc0
  refine Ev.bind hd ?_
  have J3 : Ev (fun k => laws_FnDelays.j3 k l1) true := by
    obtain ⟨m, d, p, x, n, hd, hm, hd6, hx7⟩ := drawDelaysAfter_ok hc1
    refine Ev.step (fun k => rfl) (Ev.bind hd (Ev.bind (ev_implDelaysAfter m d p x n hm) (Ev.bind (ev_specDelaysAfter m d p x n hm (by omega) (by omega)) (ev_pos (by simp) (ev_bind0 (ev_qInts _ _ ?_) (by simp))))))
    have := delsR_length (l := m) (d := d) (p := p) (x := x) (n := n)
    omega
  have hA : (goodB m d p && lateOk m x) = true ∨ ¬ (goodB m d p && lateOk m x) = true := by
    by_cases h : (goodB m d p && lateOk m x) = true
    · exact .inl h
    · exact .inr h
  have hdl := delR_length (l := m) (d := d) (p := p) (x := x)
  -- behind the first tests
  have J1 : Ev (fun k => laws_FnDelays.j1 k l1 m d p x (calmR m d p x).2.2 (calmR m d p x).1 (calmR m d p x).2.1) true := by
    by_cases h1 : (calmR m d p x).2.2 = true
    · have hA : (goodB m d p && lateOk m x) = true := by
        rcases hA with h | h
        · exact h
        · unfold calmR at h1
          rw [if_neg h] at h1
          cases h1
      have hcr : calmR m d p x = calmB m d p 51 0 0 x := by unfold calmR; rw [if_pos hA]
      rw [hcr] at h1 ⊢
      obtain ⟨hg, hpl, hxl, hu⟩ := asked_parts hA
      have h6 := hpl.tr.six
      obtain ⟨j, g1, g2, g3, g4, g5⟩ := calm_says hg 51 0 0 x hxl hu h1
      have hj : (calmB m d p 51 0 0 x).1 = (j : Int) := by omega
      have hdj := delsR_yes (n := (j : Int)) hA (by omega) (by omega)
      have e1 := ev_implDelaysAfter m d p x (j : Int) hm
      rw [hdj, Int.toNat_natCast] at e1
      refine Ev.step (fun k => rfl) (ev_pos h1 ?_)
      rw [hj]
      refine Ev.bind e1 (ev_pos rfl (Ev.bind (ev_qSum _ (delsB_upto hg j x hxl hu) (by rw [delsB_length j x hxl]; omega)) ?_))
      rw [(sum_zero (delsB_upto hg j x hxl hu) (by rw [delsB_length j x hxl]; omega)).2 g3]
      refine ev_pos rfl (Ev.bind (ev_qSum x hu (by omega)) ?_)
      refine ev_j (g := fun k b => laws_FnDelays.j2 k l1 m d p x (j : Int) b) (fun _ _ => rfl) (fun hb => ?_) (fun _ => ?_)
      · have := of_decide_eq_true hb
        omega
      · by_cases hj0 : (j : Int) > 0
        · refine ev_pos hj0 ?_
          rw [wr (by omega) (by omega)]
          have hdj2 := delsR_yes (n := (j : Int) - 1) hA (by omega) (by omega)
          have e2 := ev_implDelaysAfter m d p x ((j : Int) - 1) hm
          have e3 : ((j : Int) - 1).toNat = j - 1 := by omega
          rw [hdj2, e3] at e2
          refine Ev.bind e2 (ev_pos rfl (Ev.bind (ev_qSum _ (delsB_upto hg (j - 1) x hxl hu) (by rw [delsB_length (j - 1) x hxl]; omega)) (ev_neg ?_ J3)))
          intro hs
          exact g4 (j - 1) (by omega) ((sum_zero (delsB_upto hg (j - 1) x hxl hu) (by rw [delsB_length (j - 1) x hxl]; omega)).1 hs)
        · exact ev_neg hj0 J3
    · exact Ev.step (fun k => rfl) (ev_neg h1 J3)
  have J0 : Ev (fun k => laws_FnDelays.j0 k l1 m d p x (delR m d p x).2 (delR m d p x).1 (calmR m d p x).2.2 (calmR m d p x).1 (calmR m d p x).2.1 false) true := by
    refine ev_j (g := fun k b => laws_FnDelays.j0 k l1 m d p x (delR m d p x).2 (delR m d p x).1 (calmR m d p x).2.2 (calmR m d p x).1 (calmR m d p x).2.1 b) (fun _ _ => rfl) (fun hb => nomatch hb) (fun _ => ?_)
    rcases hA with hA | hA
    · have h2 : delR m d p x = (delB m d p x, true) := by unfold delR; rw [if_pos hA]
      obtain ⟨hg, hpl, hxl, hu⟩ := asked_parts hA
      have h6 := hpl.tr.six
      have hdj := delsR_yes (n := 1) hA (by omega) (by omega)
      have e1 := ev_implDelaysAfter m d p x 1 hm
      rw [hdj] at e1
      have e2 : delsB m d p (1 : Int).toNat x = delB m d p x := rfl
      rw [e2] at e1
      refine ev_pos (by rw [h2]) (Ev.bind e1 (ev_pos rfl (Ev.bind (ev_qInts _ _ (by rw [delB_length]; omega)) (ev_pos (by rw [h2]; simp) J1))))
    · have h2 : delR m d p x = ([], false) := by unfold delR; rw [if_neg hA]
      exact ev_neg (by rw [h2]; simp) J1
  refine Ev.bind (ev_implNextDelays m d p x hm) (Ev.bind (ev_specNextDelays m d p x hm (by omega) (by omega)) (Ev.bind (ev_implRoundsToCalm m d p x hm) (Ev.bind (ev_specRoundsToCalm m d p x hm (by omega) (by omega)) (Ev.bind (ev_implTotalDelay m d p x hm) (Ev.bind (ev_specTotalDelay m d p x hm (by omega) (by omega)) ?_)))))
  refine ev_neg (by simp) (Ev.bind (ev_qInts _ _ (by omega)) (ev_pos (by simp) (ev_neg (by simp) (ev_pos rfl (ev_neg (by simp) (ev_pos rfl (ev_neg (by simp) ?_)))))))
  by_cases h1 : (calmR m d p x).2.2 = true
  · refine ev_pos h1 ?_
    have h2 : (delR m d p x).2 = true := by
      rcases hA with h | h
      · unfold delR; rw [if_pos h]
      · unfold calmR at h1
        rw [if_neg h] at h1
        cases h1
    rw [show (!(delR m d p x).2) = false by rw [h2]; rfl]
    exact J0
  · exact ev_neg h1 J0
end Go.Proofs.Ytebjiooojkhkpaa.Pure
