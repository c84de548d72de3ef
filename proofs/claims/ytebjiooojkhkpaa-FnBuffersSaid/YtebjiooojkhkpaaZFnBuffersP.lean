-- Shaken out of the printed texts.
import Derived.Lib.VarintBits
import Derived.Test.YtebjiooojkhkpaaZFnBuffersWBExtG
import Derived.Test.YtebjiooojkhkpaaZFnBuffersWMore
import Derived.Test.YtebjiooojkhkpaaZFnBuffersWWords
import Derived.Test.YtebjiooojkhkpaaZFnBuffersWBX0
import Derived.Test.YtebjiooojkhkpaaZFnBuffersX0
import Derived.Test.YtebjiooojkhkpaaZFnBuffersX1
import Derived.Test.YtebjiooojkhkpaaZFnBuffersX2
import Derived.Test.YtebjiooojkhkpaaZFnBuffersX3
import Derived.Test.YtebjiooojkhkpaaZFnBuffersX4
import Derived.Test.YtebjiooojkhkpaaZFnBuffersX5
import Derived.Test.YtebjiooojkhkpaaZFnBuffersX6
import Derived.Test.YtebjiooojkhkpaaZFnBuffersX7
import Derived.Test.YtebjiooojkhkpaaZFnBuffersX8
import Derived.Test.YtebjiooojkhkpaaZFnBuffersX9
import Derived.Test.YtebjiooojkhkpaaZFnBuffersX10
import Derived.Test.YtebjiooojkhkpaaZFnBuffersX11
/- Small rules for 'from some number of rounds on' (Ev), lists and wraps: what the pure proofs of this seat lean on. No condition. -/
namespace Go.Proofs.Ytebjiooojkhkpaa.Pure
open Go.RowKit Go.Proofs.YtebjiooojkhkpaaW.PrintWords Go.Proofs.YtebjiooojkhkpaaW.PrintMore
set_option linter.unusedVariables false
set_option linter.unusedSimpArgs false

theorem ev_pos {α : Type} {c : Prop} [Decidable c] {f g : Nat → Option α} {r : α} (h : c) (k : Ev f r) : Ev (fun n => if c then f n else g n) r := by
 obtain ⟨K, k⟩ := k
 exact ⟨K, fun n hn => (if_pos h).trans (k n hn)⟩
theorem ev_neg {α : Type} {c : Prop} [Decidable c] {f g : Nat → Option α} {r : α} (h : ¬ c) (k : Ev g r) : Ev (fun n => if c then f n else g n) r := by
 obtain ⟨K, k⟩ := k
 exact ⟨K, fun n hn => (if_neg h).trans (k n hn)⟩
theorem ev_true {α : Type} {f g : Nat → Option α} {r : α} (k : Ev f r) : Ev (fun n => if true = true then f n else g n) r := ev_pos rfl k
theorem ev_false {α : Type} {f g : Nat → Option α} {r : α} (k : Ev g r) : Ev (fun n => if false = true then f n else g n) r := ev_neg (by simp) k
theorem ev_eq {α : Type} {f : Nat → Option α} {r q : α} (h : r = q) (k : Ev f q) : Ev f r := h ▸ k
theorem ev_const {α : Type} {a : Option α} {r : α} (h : a = some r) : Ev (fun _ => a) r := ⟨0, fun _ _ => h⟩
theorem ev_bind0 {α β : Type} {g : Nat → Option α} {f : α → Option β} {a : α} {r : β} (h : Ev g a) (k : f a = some r) : Ev (fun n => (g n).bind f) r := Ev.bind (f := fun _ => f) h (ev_const k)

theorem ev_j {α : Type} {g : Nat → Bool → Option α} {f h : Nat → Option α} {r : α} {b : Bool} (hj : ∀ k x, g (k + 1) x = if x = true then f k else h k) (k1 : b = true → Ev f r) (k2 : b = false → Ev h r) : Ev (fun k => g k b) r := by
 cases b with
 | true => exact Ev.step (fun k => (hj k true).trans (if_pos rfl)) (k1 rfl)
 | false => exact Ev.step (fun k => (hj k false).trans (if_neg (by simp))) (k2 rfl)

theorem wr {x : Int} (h : -9223372036854775808 ≤ x) (h' : x ≤ 9223372036854775807) : wrap64 x = x := by unfold wrap64; omega
theorem wr1 {i : Nat} (h : (i : Int) < 9223372036854775807) : wrap64 ((i : Int) + 1) = ((i + 1 : Nat) : Int) := by unfold wrap64; omega
theorem rd_get {xs : List Int} {i : Nat} (h : i < xs.length) : rd xs (i : Int) = xs[i] := by simp [rd, h]
theorem rd_mem {xs : List Int} {i : Nat} (h : i < xs.length) : rd xs (i : Int) ∈ xs := by rw [rd_get h]; exact List.getElem_mem h
theorem drop_rd {xs : List Int} {i : Nat} (h : i < xs.length) : xs.drop i = rd xs (i : Int) :: xs.drop (i + 1) := by
 rw [List.drop_eq_getElem_cons h, rd_get h]
theorem take_rd {xs : List Int} {i : Nat} (h : i < xs.length) : xs.take (i + 1) = xs.take i ++ [rd xs (i : Int)] := by
 rw [List.take_succ_eq_append_getElem h, rd_get h]
theorem drop_all {α : Type} {xs : List α} {i : Nat} (h : xs.length ≤ i) : xs.drop i = [] := List.drop_of_length_le h
theorem take_all {α : Type} {xs : List α} {i : Nat} (h : xs.length ≤ i) : xs.take i = xs := List.take_of_length_le h
theorem up_to {P : Nat → Prop} (n : Nat) (hend : P n) (hround : ∀ i, i < n → P (i + 1) → P i) : ∀ i, i ≤ n → P i := by
  have key : ∀ d i, i + d = n → P i := by
    intro d
    induction d with
    | zero => intro i h; have : i = n := by omega
              subst this; exact hend
    | succ d ih => intro i h; exact hround i (by omega) (ih (i + 1) (by omega))
  intro i hi
  exact key (n - i) i (by omega)

theorem ev_all {L : Nat → Int → Option Bool} {xs : List Int} {T : Nat → Int → Option Bool} {p : Int → Bool} (hn : (xs.length : Int) ≤ 140737488355328)
    (hL : ∀ k i, L (k + 1) i = if i < (xs.length : Int) then (if 0 ≤ i then (if i < (xs.length : Int) then ((T k (rd xs i)).bind fun t => (if t = true then L k (wrap64 (i + 1)) else some false)) else none) else none) else some true)
    (hT : ∀ x, x ∈ xs → Ev (fun k => T k x) (p x)) : Ev (fun k => L k 0) (xs.all p) := by
  have key : ∀ i, i ≤ xs.length → Ev (fun k => L k (i : Int)) ((xs.drop i).all p) := by
    refine up_to _ ?_ ?_
    · rw [drop_all (Nat.le_refl _)]
      exact Ev.step (fun k => hL k _) (ev_neg (by omega) (Ev.now true))
    · intro i hi ih
      rw [drop_rd hi, List.all_cons]
      refine Ev.step (fun k => hL k _) (ev_pos (by omega) (ev_pos (by omega) (ev_pos (by omega) (Ev.bind (hT _ (rd_mem hi)) ?_))))
      rw [wr1 (by omega)]
      cases hp : p (rd xs (i : Int)) with
      | true => exact ev_true (by simpa using ih)
      | false => exact ev_false (by simpa using Ev.now false)
  have := key 0 (Nat.zero_le _)
  simpa using this

theorem ev_same {L : Nat → Int → Option Bool} {xs ys : List Int} (hn : (xs.length : Int) ≤ 140737488355328) (he : xs.length = ys.length)
    (hL : ∀ k i, L (k + 1) i = if i < (xs.length : Int) then (if 0 ≤ i then (if i < (ys.length : Int) then (if rd xs i = rd ys i then L k (wrap64 (i + 1)) else some false) else none) else none) else some true)
    : Ev (fun k => L k 0) (decide (xs = ys)) := by
  have key : ∀ i, i ≤ xs.length → Ev (fun k => L k (i : Int)) (decide (xs.drop i = ys.drop i)) := by
    refine up_to _ ?_ ?_
    · rw [drop_all (Nat.le_refl _), drop_all (by omega)]
      exact Ev.step (fun k => hL k _) (ev_neg (by omega) (ev_eq (by simp) (Ev.now true)))
    · intro i hi ih
      rw [drop_rd hi, drop_rd (by omega : i < ys.length)]
      refine Ev.step (fun k => hL k _) (ev_pos (by omega) (ev_pos (by omega) (ev_pos (by omega) ?_)))
      rw [wr1 (by omega)]
      by_cases e : rd xs (i : Int) = rd ys (i : Int)
      · refine ev_pos e (ev_eq ?_ ih)
        simp [e]
      · refine ev_neg e (ev_eq ?_ (Ev.now false))
        simp [e]
  have := key 0 (Nat.zero_le _)
  simpa using this
end Go.Proofs.Ytebjiooojkhkpaa.Pure

/- What the drawing helpers come to at any bytes: they answer, their places stay small, and what is drawn lies where it should. Condition: the bytes are bytes. -/
namespace Go.Proofs.Ytebjiooojkhkpaa.Pure
open Go.RowKit Go.Proofs.Ytebjiooojkhkpaa.X Go.Proofs.YtebjiooojkhkpaaW.PrintWords Go.Proofs.YtebjiooojkhkpaaW.PrintMore
set_option linter.unusedVariables false
set_option linter.unusedSimpArgs false

def Bytes (c : List Int) : Prop := (c.length : Int) ≤ 140737488355328 ∧ ∀ x ∈ c, 0 ≤ x ∧ x ≤ 255
def Spot (a : Int) : Prop := 0 ≤ a ∧ a ≤ 1000000000000
theorem bytes_of {c : List Int} (h1 : c.length * 1 ≤ 140737488351232) (h2 : ∀ x ∈ c, (Lit.int .u8 x).wf = true) : Bytes c := by
 refine ⟨by omega, fun x hx => ?_⟩
 have h := h2 x hx
 have e1 : IntKind.u8.min = 0 := by decide
 have e2 : IntKind.u8.max = 255 := by decide
 simp only [Lit.wf, Bool.and_eq_true, decide_eq_true_eq] at h
 rw [e1, e2] at h
 exact h
theorem u64_and255 (x : Int) (h0 : 0 ≤ x) (h1 : x < 18446744073709551616) : Go.bits .and .u64 x 255 = x % 256 := bits_mask .u64 64 (by decide) wraps_u64 8 (by decide) x h0 h1
theorem u64_wrap_bd (x : Int) : 0 ≤ IntKind.u64.wrap x ∧ IntKind.u64.wrap x < 18446744073709551616 := by rw [IntKind.wrap_u64]; omega
theorem seed_byte (x : Int) : 0 ≤ wrap64 (Go.bits .and .u64 ((IntKind.u64.wrap x) / 1099511627776) 255) ∧ wrap64 (Go.bits .and .u64 ((IntKind.u64.wrap x) / 1099511627776) 255) ≤ 255 := by
 have h := u64_wrap_bd x
 rw [u64_and255 _ (by omega) (by omega), wr (by omega) (by omega)]
 omega
theorem next_ok {c : List Int} (hc : Bytes c) {a : Int} (s : Int) (ha : Spot a) : ∃ v s', spec_l1Cur_next.f c a s = some (v, a + 1, s') ∧ 0 ≤ v ∧ v ≤ 255 := by
 unfold spec_l1Cur_next.f
 obtain ⟨h0, h1⟩ := ha
 have e : wrap64 (a + 1) = a + 1 := wr (by omega) (by omega)
 rw [e]
 by_cases h2 : a < (c.length : Int)
 ·
  have hb : 0 ≤ rd c a ∧ rd c a ≤ 255 := by
   obtain ⟨n, rfl⟩ := Int.eq_ofNat_of_zero_le h0
   exact hc.2 _ (rd_mem (by omega))
  rw [if_pos h2, if_pos h0, if_pos (by omega)]
  exact ⟨_, _, rfl, by rw [wr (by omega) (by omega)]; omega, by rw [wr (by omega) (by omega)]; omega⟩
 ·
  rw [if_neg h2]
  by_cases h3 : a + 1 ≤ (c.length : Int)
  ·
   rw [if_pos h3]
   exact ⟨_, _, rfl, by omega, by omega⟩
  ·
   rw [if_neg h3]
   exact ⟨_, _, rfl, (seed_byte _).1, (seed_byte _).2⟩
theorem tmod_bd {x n : Int} (h : 0 ≤ x) (hn : 0 < n) : 0 ≤ Int.tmod x n ∧ Int.tmod x n < n := ⟨Int.tmod_nonneg _ h, Int.tmod_lt_of_pos _ hn⟩
theorem pick_ok {c : List Int} (hc : Bytes c) {a : Int} (s : Int) (ha : Spot a) (n : Int) : ∃ v a' s', spec_l1Cur_pick.f c a s n = some (v, a', s') ∧ 0 ≤ v ∧ (v < n ∨ v = 0) ∧ (n ≤ 1 → v = 0) ∧ (n ≤ 256 → v ≤ 255) ∧ a ≤ a' ∧ a' ≤ a + 2 := by
 unfold spec_l1Cur_pick.f
 by_cases h1 : n ≤ 1
 ·
  rw [if_pos h1]
  exact ⟨0, a, s, rfl, by omega, by omega, by omega, by omega, by omega, by omega⟩
 ·
  rw [if_neg h1]
  obtain ⟨v, s', e, h2, h3⟩ := next_ok hc s ha
  rw [e, Option.bind_some]
  dsimp only
  by_cases h4 : n > 200
  ·
   have hs : a + 1 ≤ 1000000000000 ∨ 1000000000000 < a + 1 := by omega
   rw [if_pos h4]
   have ha2 : ∃ v2 s2, spec_l1Cur_next.f c (a + 1) s' = some (v2, a + 1 + 1, s2) ∧ 0 ≤ v2 ∧ v2 ≤ 255 := by
    rcases hs with hs | hs
    ·
     exact next_ok hc s' ⟨by have := ha.1; omega, hs⟩
    ·
     unfold spec_l1Cur_next.f
     have := ha.1
     have := ha.2
     have e : wrap64 (a + 1 + 1) = a + 1 + 1 := wr (by omega) (by omega)
     rw [e]
     by_cases h2 : a + 1 < (c.length : Int)
     ·
      have hb : 0 ≤ rd c (a + 1) ∧ rd c (a + 1) ≤ 255 := by
       obtain ⟨n, hn⟩ := Int.eq_ofNat_of_zero_le (by omega : 0 ≤ a + 1)
       rw [hn]
       exact hc.2 _ (rd_mem (by omega))
      rw [if_pos h2, if_pos (by omega), if_pos (by omega)]
      exact ⟨_, _, rfl, by rw [wr (by omega) (by omega)]; omega, by rw [wr (by omega) (by omega)]; omega⟩
     ·
      rw [if_neg h2]
      by_cases h3 : a + 1 + 1 ≤ (c.length : Int)
      ·
       rw [if_pos h3]
       exact ⟨_, _, rfl, by omega, by omega⟩
      ·
       rw [if_neg h3]
       exact ⟨_, _, rfl, (seed_byte _).1, (seed_byte _).2⟩
   obtain ⟨v2, s2, e2, h5, h6⟩ := ha2
   rw [e2, Option.bind_some]
   dsimp only
   rw [if_neg (by omega : ¬ n = 0), wr (x := v * 256) (by omega) (by omega), wr (by omega) (by omega)]
   have h7 := tmod_bd (x := v * 256 + v2) (n := n) (by omega) (by omega)
   exact ⟨_, _, _, rfl, h7.1, by omega, by omega, by omega, by omega, by omega⟩
  ·
   rw [if_neg h4, if_neg (by omega : ¬ n = 0)]
   have h7 := tmod_bd (x := v) (n := n) (by omega) (by omega)
   exact ⟨_, _, _, rfl, h7.1, by omega, by omega, by omega, by omega, by omega⟩
theorem among_ok {c : List Int} (hc : Bytes c) {a : Int} (s : Int) (ha : Spot a) (l : List Int) (hl : 0 < l.length) : ∃ v a' s', spec_l1Cur_among.f c a s l = some (v, a', s') ∧ v ∈ l ∧ a ≤ a' ∧ a' ≤ a + 2 := by
 unfold spec_l1Cur_among.f
 obtain ⟨v, a', s', e, h1, h2, h3, _, h4, h5⟩ := pick_ok hc s ha (l.length : Int)
 rw [e, Option.bind_some]
 dsimp only
 rw [if_pos h1, if_pos (by omega)]
 obtain ⟨n, rfl⟩ := Int.eq_ofNat_of_zero_le h1
 exact ⟨_, _, _, rfl, rd_mem (by omega), h4, h5⟩
theorem one_ok {c : List Int} (hc : Bytes c) {a : Int} (s : Int) (ha : Spot a) (n : Int) : ∃ b a' s', spec_l1Cur_one.f c a s n = some (b, a', s') ∧ a ≤ a' ∧ a' ≤ a + 2 := by
 unfold spec_l1Cur_one.f
 obtain ⟨v, a', s', e, _, _, _, _, h4, h5⟩ := pick_ok hc s ha n
 rw [e, Option.bind_some]
 exact ⟨_, _, _, rfl, h4, h5⟩
theorem small_ok {c : List Int} (hc : Bytes c) {a : Int} (s : Int) (ha : Spot a) : ∃ v a' s', spec_l1Cur_small.f c a s = some (v, a', s') ∧ -4 ≤ v ∧ v ≤ 8 ∧ a ≤ a' ∧ a' ≤ a + 2 := by
 unfold spec_l1Cur_small.f
 obtain ⟨v, a', s', e, h1, h2, _, _, h4, h5⟩ := pick_ok hc s ha 13
 rw [e, Option.bind_some]
 dsimp only
 rw [wr (by omega) (by omega)]
 exact ⟨_, _, _, rfl, by omega, by omega, h4, h5⟩
theorem plain_ok {c : List Int} (hc : Bytes c) {a : Int} (s : Int) (n : Int) (hn : n ≤ 1000) (h0 : 0 ≤ a) (h1 : a ≤ 1000000000) : ∃ xs a' s', Ev (fun k => spec_l1Cur_plain.f k c a s n) (xs, a', s') ∧ (xs.length : Int) = max n 0 ∧ (∀ x ∈ xs, -4 ≤ x ∧ x ≤ 8) ∧ a ≤ a' ∧ a' ≤ a + 2000 := by
 unfold spec_l1Cur_plain.f
 have key : ∀ f : Nat, ∀ (xs : List Int) (a s : Int), (f : Int) = max n 0 - (xs.length : Int) → (∀ x ∈ xs, -4 ≤ x ∧ x ≤ 8) → 0 ≤ a → a ≤ 1000000000 + 2 * (xs.length : Int) → ∃ ys a' s', Ev (fun k => spec_l1Cur_plain.l0 k n xs c a s) (ys, a', s') ∧ (ys.length : Int) = max n 0 ∧ (∀ x ∈ ys, -4 ≤ x ∧ x ≤ 8) ∧ a ≤ a' ∧ a' ≤ a + 2 * (f : Int) := by
  intro f
  induction f with
  | zero =>
   intro xs a s hf hx h0 h1
   exact ⟨xs, a, s, Ev.step (fun k => rfl) (ev_neg (by omega) (Ev.now _)), by omega, hx, by omega, by omega⟩
  | succ f ih =>
   intro xs a s hf hx h0 h1
   obtain ⟨v, a1, s1, e, h2, h3, h4, h5⟩ := small_ok hc s (⟨h0, by omega⟩ : Spot a)
   obtain ⟨ys, a', s', he, h6, h7, h8, h9⟩ := ih (xs ++ [v]) a1 s1 (by simp; omega) (by
    intro x hx2
    rcases List.mem_append.1 hx2 with hx2 | hx2
    ·
     exact hx x hx2
    ·
     simp at hx2
     omega) (by omega) (by simp; omega)
   exact ⟨ys, a', s', Ev.step (fun k => rfl) (ev_pos (by omega) (Ev.bind (ev_const e) (ev_pos (by omega) he))), h6, h7, by omega, by omega⟩
 obtain ⟨ys, a', s', he, h6, h7, h8, h9⟩ := key (max n 0).toNat [] a s (by simp only [List.length_nil]; omega) (by simp) h0 (by simp only [List.length_nil]; omega)
 exact ⟨ys, a', s', he, h6, h7, h8, by omega⟩
end Go.Proofs.Ytebjiooojkhkpaa.Pure

/- What the small tests of numbers and vectors come to, the program's and the reference's. Condition: lists no longer than memory allows. -/
namespace Go.Proofs.Ytebjiooojkhkpaa.Pure
open Go.RowKit Go.Proofs.Ytebjiooojkhkpaa.X Go.Proofs.YtebjiooojkhkpaaW.PrintWords Go.Proofs.YtebjiooojkhkpaaW.PrintMore
set_option linter.unusedVariables false
set_option linter.unusedSimpArgs false

def finB (n : Int) : Bool := decide (-1000000 ≤ n ∧ n ≤ 1000000)
def numB (n : Int) : Bool := finB n || n == 1000000000
def vecB (l : List Int) : Bool := decide (1 ≤ l.length ∧ l.length ≤ 6) && l.all numB
theorem within_eq (a b c : Int) : impl_within.f a b c = some (decide (b ≤ a ∧ a ≤ c)) := by
 unfold impl_within.f
 by_cases h : a ≥ b
 ·
  rw [if_pos h]; simp; omega
 ·
  rw [if_neg h]; simp; omega
theorem l1In_eq (a b c : Int) : spec_l1In.f a b c = some (decide (b ≤ a ∧ a ≤ c)) := by
 unfold spec_l1In.f
 by_cases h : a ≥ b
 ·
  rw [if_pos h]; simp; omega
 ·
  rw [if_neg h]; simp; omega
theorem isFinite_eq (n : Int) : impl_isFinite.f n = some (finB n) := by
 unfold impl_isFinite.f finB
 by_cases h : n ≥ -1000000
 ·
  rw [if_pos h]; simp; omega
 ·
  rw [if_neg h]; simp; omega
theorem isNumber_eq (n : Int) : impl_isNumber.f n = some (numB n) := by
 unfold impl_isNumber.f numB
 rw [isFinite_eq, Option.bind_some]
 cases finB n <;> simp
theorem ev_areNumbers (l : List Int) (hn : (l.length : Int) ≤ 140737488355328) : Ev (fun k => impl_areNumbers.f k l) (l.all numB) :=
 ev_all hn (T := fun _ x => impl_isNumber.f x) (fun _ _ => rfl) (fun x _ => ev_const (isNumber_eq x))
theorem ev_isVector (l : List Int) (hn : (l.length : Int) ≤ 140737488355328) : Ev (fun k => impl_isVector.f k l) (vecB l) := by
 unfold impl_isVector.f
 refine Ev.bind (ev_const (within_eq _ _ _)) ?_
 by_cases h : 1 ≤ l.length ∧ l.length ≤ 6
 ·
  refine ev_pos (by simp; omega) (ev_bind0 (ev_areNumbers l hn) ?_)
  simp [vecB, h]
 ·
  refine ev_neg (by simp; omega) (ev_const ?_)
  simp [vecB, h]
theorem ev_l1All (l : List Int) (lo hi : Int) (hn : (l.length : Int) ≤ 140737488355328) : Ev (fun k => spec_l1All.f k l lo hi) (l.all fun n => decide (lo ≤ n ∧ n ≤ hi)) :=
 ev_all hn (L := fun k i => spec_l1All.l0 k lo hi l (l.length : Int) i) (T := fun _ x => spec_l1In.f x lo hi) (fun _ _ => rfl) (fun x _ => ev_const (l1In_eq x lo hi))

end Go.Proofs.Ytebjiooojkhkpaa.Pure

/- Matrices, families, turned matrices, products of rows: what the program's functions come to. Condition: lists no longer than memory allows. -/
namespace Go.Proofs.Ytebjiooojkhkpaa.Pure
open Go.RowKit Go.Proofs.Ytebjiooojkhkpaa.X Go.Proofs.YtebjiooojkhkpaaW.PrintWords Go.Proofs.YtebjiooojkhkpaaW.PrintMore
set_option linter.unusedVariables false
set_option linter.unusedSimpArgs false

theorem rrd_get {xs : List (List Int)} {i : Nat} (h : i < xs.length) : rd_L1 xs (i : Int) = xs[i] := by simp [rd_L1, h]
theorem rrd_mem {xs : List (List Int)} {i : Nat} (h : i < xs.length) : rd_L1 xs (i : Int) ∈ xs := by rw [rrd_get h]; exact List.getElem_mem h
theorem drop_rrd {xs : List (List Int)} {i : Nat} (h : i < xs.length) : xs.drop i = rd_L1 xs (i : Int) :: xs.drop (i + 1) := by rw [List.drop_eq_getElem_cons h, rrd_get h]
theorem take_rrd {xs : List (List Int)} {i : Nat} (h : i < xs.length) : xs.take (i + 1) = xs.take i ++ [rd_L1 xs (i : Int)] := by rw [List.take_succ_eq_append_getElem h, rrd_get h]
theorem rrd_zero (xs : List (List Int)) : rd_L1 xs 0 = xs.getD 0 [] := rfl
theorem mx_max' (a b : Int) : mx a b = max a b := by unfold mx; omega
theorem mn_min' (a b : Int) : mn a b = min a b := by unfold mn; omega

def Short (l : List (List Int)) : Prop := (l.length : Int) ≤ 1048576 ∧ ∀ r ∈ l, (r.length : Int) ≤ 1048576
theorem len_le_sum {l : List (List Int)} {r : List Int} (h : r ∈ l) : r.length ≤ (l.map List.length).sum := by
 induction l with
 | nil => cases h
 | cons y ys ih =>
  simp only [List.map_cons, List.sum_cons]
  rcases List.mem_cons.1 h with rfl | h
  ·
   omega
  ·
   have := ih h
   omega
def matB (l : List (List Int)) : Bool := decide (1 ≤ l.length ∧ l.length ≤ 6) && l.all fun r => vecB r && decide (r.length = (l.getD 0 []).length)
theorem ev_isMatrix (l : List (List Int)) (h : Short l) : Ev (fun k => impl_isMatrix.f k l) (matB l) := by
 unfold impl_isMatrix.f
 refine Ev.bind (ev_const (within_eq _ _ _)) ?_
 by_cases h1 : 1 ≤ l.length ∧ l.length ≤ 6
 ·
  refine ev_pos (by simp; omega) ?_
  have e : Ev (fun k => Ext.anyO (impl_isMatrix.g k l) l) (l.any fun r => !(vecB r && decide (r.length = (l.getD 0 []).length))) := by
   refine Ext.ev_anyO l fun r hr => ?_
   unfold impl_isMatrix.g
   refine Ev.bind (ev_isVector r (by have := h.2 r hr; omega)) ?_
   cases hv : vecB r with
   | false => exact ev_false (ev_const (by simp))
   | true =>
    refine ev_true (ev_const ?_)
    generalize (l.getD 0 []).length = m
    by_cases e : r.length = m
    ·
     simp [e]
    ·
     have e2 : ¬ ((r.length : Int) = (m : Int)) := by omega
     simp [e, e2]
  refine ev_bind0 e ?_
  simp only [matB, h1, and_self, decide_true, Bool.true_and]
  congr 1
  rw [List.any_eq_not_all_not]
  simp
 ·
  refine ev_neg (by simp; omega) (ev_const ?_)
  simp [matB, h1]
def Wide (l : List (List Int)) (m : Nat) : Prop := ∀ r ∈ l, r.length = m
theorem matB_parts {l : List (List Int)} (h : matB l = true) : 1 ≤ l.length ∧ l.length ≤ 6 ∧ 1 ≤ (l.getD 0 []).length ∧ (l.getD 0 []).length ≤ 6 ∧ Wide l (l.getD 0 []).length ∧ ∀ r ∈ l, ∀ x ∈ r, numB x = true := by
 simp only [matB, Bool.and_eq_true, decide_eq_true_eq, List.all_eq_true, vecB] at h
 have h0 : l.getD 0 [] ∈ l := by
  cases l with
  | nil => simp at h
  | cons a t => simp
 have h1 := (h.2 _ h0).1.1
 exact ⟨h.1.1, h.1.2, h1.1, h1.2, fun r hr => (h.2 r hr).2, fun r hr x hx => (h.2 r hr).1.2 x hx⟩
theorem wide_rrd {l : List (List Int)} {m i : Nat} (h : Wide l m) (hi : i < l.length) : (rd_L1 l (i : Int)).length = m := h _ (rrd_mem hi)


end Go.Proofs.Ytebjiooojkhkpaa.Pure

/- The reference's test of a matrix and of a square one: the same as the program's. Condition: lists no longer than memory allows. -/
namespace Go.Proofs.Ytebjiooojkhkpaa.Pure
open Go.RowKit Go.Proofs.Ytebjiooojkhkpaa.X Go.Proofs.YtebjiooojkhkpaaW.PrintWords Go.Proofs.YtebjiooojkhkpaaW.PrintMore
set_option linter.unusedVariables false
set_option linter.unusedSimpArgs false

theorem nuGood_eq (n : Int) : spec_nuGood.f n = some (numB n) := by
 unfold spec_nuGood.f numB finB
 by_cases h : n = 1000000000
 ·
  rw [if_pos h]; simp [h]
 ·
  rw [if_neg h, l1In_eq]; simp [h]
theorem ev_mxVector (l : List Int) (hn : (l.length : Int) ≤ 140737488355328) : Ev (fun k => spec_mxVector.f k l) (vecB l) := by
 unfold spec_mxVector.f
 have key : ∀ i, i ≤ l.length → Ev (fun k => spec_mxVector.l0 k l l (l.length : Int) (i : Int)) (decide (1 ≤ l.length ∧ l.length ≤ 6) && (l.drop i).all numB) := by
  refine up_to _ ?_ ?_
  ·
   rw [drop_all (Nat.le_refl _)]
   refine Ev.step (fun k => rfl) (ev_neg (by omega) (Ev.bind (ev_const (l1In_eq _ _ _)) (ev_const ?_)))
   rw [List.all_nil, Bool.and_true]
   congr 1
   rw [decide_eq_decide]
   omega
  ·
   intro i hi ih
   rw [drop_rd hi, List.all_cons]
   refine Ev.step (fun k => rfl) (ev_pos (by omega) (ev_pos (by omega) (ev_pos (by omega) (Ev.bind (ev_const (nuGood_eq _)) ?_))))
   rw [wr1 (by omega)]
   cases hp : numB (rd l (i : Int)) with
   | true => exact ev_true (by simpa using ih)
   | false => exact ev_false (by simpa using Ev.now false)
 have := key 0 (Nat.zero_le _)
 simpa [vecB] using this
theorem ev_mxGood (l : List (List Int)) (h : Short l) : Ev (fun k => spec_mxGood.f k l) (matB l) := by
 unfold spec_mxGood.f
 refine Ev.bind (ev_const (l1In_eq _ _ _)) ?_
 by_cases h1 : 1 ≤ l.length ∧ l.length ≤ 6
 ·
  refine ev_pos (by simp; omega) (ev_pos (by omega) (Ev.bind (ev_const (l1In_eq _ _ _)) ?_))
  rw [rrd_zero]
  by_cases h2 : 1 ≤ (l.getD 0 []).length ∧ (l.getD 0 []).length ≤ 6
  ·
   refine ev_j (g := fun k x => spec_mxGood.j0 k l x) (fun _ _ => rfl) (fun hb => ?_) (fun _ => ?_)
   ·
    exfalso
    simp at hb
    simp at h2
    omega
   have key : ∀ i, i ≤ l.length → Ev (fun k => spec_mxGood.l0 k l l (l.length : Int) (i : Int)) ((l.drop i).all fun r => vecB r && decide (r.length = (l.getD 0 []).length)) := by
    refine up_to _ ?_ ?_
    ·
     rw [drop_all (Nat.le_refl _)]
     exact Ev.step (fun k => rfl) (ev_neg (by omega) (Ev.now _))
    ·
     intro i hi ih
     rw [drop_rrd hi, List.all_cons]
     have hr := rrd_mem hi
     refine Ev.step (fun k => rfl) (ev_pos (by omega) (ev_pos (by omega) (ev_pos (by omega) (ev_pos (by omega) ?_))))
     by_cases e : (rd_L1 l (i : Int)).length = (l.getD 0 []).length
     ·
      refine ev_pos (by rw [rrd_zero]; omega) (Ev.bind (ev_mxVector _ (by have := h.2 _ hr; omega)) ?_)
      cases hv : vecB (rd_L1 l (i : Int)) with
      | false => exact ev_false (ev_const (by simp))
      | true =>
       refine ev_true ?_
       rw [wr1 (by have := h.1; omega)]
       refine ev_eq ?_ ih
       rw [decide_eq_true e]
       simp
     ·
      refine ev_neg (by rw [rrd_zero]; omega) (ev_const ?_)
      rw [decide_eq_false e]
      simp
   have := key 0 (Nat.zero_le _)
   simpa [matB, h1] using this
  ·
   refine ev_j (g := fun k x => spec_mxGood.j0 k l x) (fun _ _ => rfl) (fun _ => ev_const ?_) (fun hb => ?_)
   rotate_left
   ·
    exfalso
    simp at hb
    simp at h2
    omega
   cases hm : matB l with
   | false => rfl
   | true => have := matB_parts hm; exact absurd ⟨this.2.2.1, this.2.2.2.1⟩ h2
 ·
  refine ev_neg (by simp; omega) (ev_j (g := fun k x => spec_mxGood.j0 k l x) (fun _ _ => rfl) (fun _ => ev_const ?_) (fun hb => nomatch hb))
  simp [matB, h1]
def sqB (l : List (List Int)) : Bool := matB l && decide (l.length = (l.getD 0 []).length)
theorem ev_mxSquare (l : List (List Int)) (h : Short l) : Ev (fun k => spec_mxSquare.f k l) (sqB l) := by
 unfold spec_mxSquare.f
 refine Ev.bind (ev_mxGood l h) ?_
 unfold sqB
 cases hm : matB l with
 | false => exact ev_false (ev_const rfl)
 | true =>
  have := matB_parts hm
  refine ev_true (ev_pos (by omega) (ev_const ?_))
  rw [rrd_zero]
  congr 1
  rw [Bool.eq_iff_iff]
  simp
  omega
theorem ev_isSquare (l : List (List Int)) (h : Short l) : Ev (fun k => impl_isSquare.f k l) (sqB l) := by
 unfold impl_isSquare.f
 refine Ev.bind (ev_isMatrix l h) ?_
 unfold sqB
 cases hm : matB l with
 | false => exact ev_false (ev_const rfl)
 | true =>
  have := matB_parts hm
  refine ev_true (ev_pos (by omega) (ev_const ?_))
  rw [rrd_zero]
  congr 1
  rw [Bool.eq_iff_iff]
  simp
  omega
theorem sqB_parts {l : List (List Int)} (h : sqB l = true) : 1 ≤ l.length ∧ l.length ≤ 6 ∧ Wide l l.length ∧ ∀ r ∈ l, ∀ x ∈ r, numB x = true := by
 simp only [sqB, Bool.and_eq_true, decide_eq_true_eq] at h
 have := matB_parts h.1
 refine ⟨this.1, this.2.1, ?_, this.2.2.2.2.2⟩
 rw [h.2]
 exact this.2.2.2.2.1
end Go.Proofs.Ytebjiooojkhkpaa.Pure

/- Trains, departures, the next round: what the program and the reference come to. Condition: lists no longer than memory allows. -/
namespace Go.Proofs.Ytebjiooojkhkpaa.Pure
open Go.RowKit Go.Proofs.Ytebjiooojkhkpaa.X Go.Proofs.YtebjiooojkhkpaaW.PrintWords Go.Proofs.YtebjiooojkhkpaaW.PrintMore
set_option linter.unusedVariables false
set_option linter.unusedSimpArgs false

def tokB (n : Int) : Bool := decide (n = 1000000000 ∨ (0 ≤ n ∧ n ≤ 1000))
def neB (n : Int) : Bool := decide (n ≠ 1000000000)
def trowB (r : List Int) : Bool := r.all tokB && r.any neB
def trB (l : List (List Int)) : Bool := sqB l && l.all trowB
theorem ev_trGood (l : List (List Int)) (h : Short l) : Ev (fun k => spec_trGood.f k l) (trB l) := by
 unfold spec_trGood.f
 refine Ev.bind (ev_mxSquare l h) ?_
 unfold trB
 cases hm : sqB l with
 | false => exact ev_false (ev_const rfl)
 | true =>
  refine ev_true ?_
  have key : ∀ i, i ≤ l.length → Ev (fun k => spec_trGood.l0 k l (l.length : Int) (i : Int)) ((l.drop i).all trowB) := by
   refine up_to _ ?_ ?_
   ·
    rw [drop_all (Nat.le_refl _)]
    exact Ev.step (fun k => rfl) (ev_neg (by omega) (Ev.now _))
   ·
    intro i hi ih
    rw [drop_rrd hi, List.all_cons]
    have hr := rrd_mem hi
    generalize he : rd_L1 l (i : Int) = r at hr
    have hl := h.2 r hr
    refine Ev.step (fun k => rfl) (ev_pos (by omega) (ev_pos (by omega) (ev_pos (by omega) ?_)))
    rw [he]
    have inner : ∀ j, j ≤ r.length → ∀ wb : Bool, Ev (fun k => spec_trGood.l1 k wb l (l.length : Int) (i : Int) r (r.length : Int) (j : Int)) (((r.drop j).all tokB && (wb || (r.drop j).any neB)) && (l.drop (i + 1)).all trowB) := by
     refine up_to _ ?_ ?_
     ·
      intro wb
      rw [drop_all (Nat.le_refl _)]
      refine Ev.step (fun k => rfl) (ev_neg (by omega) ?_)
      cases wb with
      | true =>
       refine ev_true ?_
       rw [wr1 (by have := h.1; omega)]
       exact ev_eq (by simp) ih
      | false => exact ev_false (ev_const (by simp))
     ·
      intro j hj ih2 wb
      rw [drop_rd hj, List.all_cons, List.any_cons]
      refine Ev.step (fun k => rfl) (ev_pos (by omega) (ev_pos (by omega) (ev_pos (by omega) ?_)))
      rw [wr1 (by omega)]
      generalize rd r (j : Int) = x
      by_cases hx : x = 1000000000
      ·
       refine ev_pos hx ?_
       have e1 : tokB x = true := by simp [tokB, hx]
       have e2 : neB x = false := by simp [neB, hx]
       have e3 : (x != 1000000000) = false := by simp [hx]
       rw [e1, e2, e3]
       cases wb with
       | true => exact ev_true (ev_eq (by simp) (ih2 true))
       | false => exact ev_false (ev_eq (by simp) (ih2 false))
      ·
       refine ev_neg hx (Ev.bind (ev_const (l1In_eq _ _ _)) ?_)
       have e2 : neB x = true := by simp [neB, hx]
       have e3 : (x != 1000000000) = true := by simp [hx]
       rw [e2, e3]
       by_cases h3 : 0 ≤ x ∧ x ≤ 1000
       ·
        have e1 : tokB x = true := by simp [tokB, h3]
        rw [e1]
        refine ev_pos (by rw [decide_eq_true_eq]; exact h3) ?_
        cases wb with
        | true => exact ev_true (ev_eq (by simp) (ih2 true))
        | false => exact ev_false (ev_eq (by simp) (ih2 true))
       ·
        have e1 : tokB x = false := by simp only [tokB, decide_eq_false_iff_not]; omega
        rw [e1]
        exact ev_neg (by rw [decide_eq_true_eq]; exact h3) (ev_const (by simp))
    have := inner 0 (Nat.zero_le _) false
    simpa [trowB] using this
  have := key 0 (Nat.zero_le _)
  simpa using this
theorem foldl_min_le (r : List Int) : ∀ a, r.foldl min a ≤ a := by
 induction r with
 | nil => intro a; exact Int.le_refl _
 | cons x t ih => intro a; have := ih (min a x); rw [List.foldl_cons]; omega
theorem foldl_min_none {r : List Int} (h : r.any neB = false) : r.foldl min 1000000000 = 1000000000 := by
 induction r with
 | nil => rfl
 | cons x t ih =>
  rw [List.any_cons, Bool.or_eq_false_iff] at h
  have hx : x = 1000000000 := by have := h.1; simp only [neB, decide_eq_false_iff_not] at this; omega
  rw [List.foldl_cons, hx]
  exact ih h.2
theorem foldl_min_some {r : List Int} (hb : ∀ x ∈ r, x ≤ 1000000000) (h : r.any neB = true) : ∀ a, a ≤ 1000000000 → r.foldl min a ≠ 1000000000 := by
 induction r with
 | nil => cases h
 | cons x t ih =>
  intro a ha
  rw [List.foldl_cons]
  have hx := hb x (List.mem_cons_self ..)
  by_cases e : x = 1000000000
  ·
   rw [List.any_cons] at h
   have e2 : neB x = false := by simp [neB, e]
   rw [e2, Bool.false_or] at h
   exact ih (fun y hy => hb y (List.mem_cons_of_mem _ hy)) h _ (by omega)
  ·
   have := foldl_min_le t (min a x)
   omega
theorem ev_sumOf (l : List Int) (hn : (l.length : Int) ≤ 140737488355328) : Ev (fun k => impl_sumOf.f k l) (l.foldl min 1000000000) := by
 unfold impl_sumOf.f
 have key : ∀ i, i ≤ l.length → ∀ a, Ev (fun k => impl_sumOf.l0 k a l (l.length : Int) (i : Int)) ((l.drop i).foldl min a) := by
  refine up_to _ ?_ ?_
  ·
   intro a
   rw [drop_all (Nat.le_refl _)]
   exact Ev.step (fun k => rfl) (ev_neg (by omega) (Ev.now _))
  ·
   intro i hi ih a
   rw [drop_rd hi, List.foldl_cons]
   refine Ev.step (fun k => rfl) (ev_pos (by omega) (ev_pos (by omega) (ev_pos (by omega) ?_)))
   rw [wr1 (by omega), mn_min']
   exact ih _
 have := key 0 (Nat.zero_le _) 1000000000
 simpa using this
theorem ev_areTrains (l : List (List Int)) (h : Short l) : Ev (fun k => impl_areTrains.f k l) (trB l) := by
  unfold impl_areTrains.f
  refine Ev.bind (ev_isSquare l h) ?_
  unfold trB
  cases hm : sqB l with
  | false => exact ev_false (ev_const rfl)
  | true =>
    have hp := sqB_parts hm
    refine ev_true ?_
    have key : ∀ i, i ≤ l.length → Ev (fun k => impl_areTrains.l0 k l (l.length : Int) (i : Int)) ((l.drop i).all trowB) := by
      refine up_to _ ?_ ?_
      · rw [drop_all (Nat.le_refl _)]
        exact Ev.step (fun k => rfl) (ev_neg (by omega) (Ev.now _))
      · intro i hi ih
        rw [drop_rrd hi, List.all_cons]
        have hr := rrd_mem hi
        generalize he : rd_L1 l (i : Int) = r at hr
        have hl := h.2 r hr
        refine Ev.step (fun k => rfl) (ev_pos (by omega) (ev_pos (by omega) (ev_pos (by omega) ?_)))
        rw [he]
        have hb : ∀ x ∈ r, x ≤ 1000000000 := by
          intro x hx
          have := hp.2.2.2 r hr x hx
          simp [numB, finB] at this
          omega
        refine Ev.bind (ev_sumOf r (by omega)) ?_
        cases ha : r.any neB with
        | false =>
          refine ev_pos (foldl_min_none ha) (ev_const ?_)
          simp [trowB, ha]
        | true =>
          refine ev_neg (foldl_min_some hb ha _ (Int.le_refl _)) ?_
          have inner : ∀ j, j ≤ r.length → Ev (fun k => impl_areTrains.l1 k l (l.length : Int) (i : Int) r (r.length : Int) (j : Int)) ((r.drop j).all tokB && (l.drop (i + 1)).all trowB) := by
            refine up_to _ ?_ ?_
            · rw [drop_all (Nat.le_refl _)]
              refine Ev.step (fun k => rfl) (ev_neg (by omega) ?_)
              rw [wr1 (by have := h.1; omega)]
              exact ev_eq (by simp) ih
            · intro j hj ih2
              rw [drop_rd hj, List.all_cons]
              refine Ev.step (fun k => rfl) (ev_pos (by omega) (ev_pos (by omega) (ev_pos (by omega) ?_)))
              rw [wr1 (by omega)]
              generalize rd r (j : Int) = x
              by_cases hx : x = 1000000000
              · have e1 : tokB x = true := by simp [tokB, hx]
                rw [e1]
                exact ev_pos hx (ev_eq (by simp) ih2)
              · refine ev_neg hx (Ev.bind (ev_const (within_eq _ _ _)) ?_)
                by_cases h3 : 0 ≤ x ∧ x ≤ 1000
                · have e1 : tokB x = true := by simp [tokB, h3]
                  rw [e1]
                  exact ev_pos (by rw [decide_eq_true_eq]; exact h3) (ev_eq (by simp) ih2)
                · have e1 : tokB x = false := by simp only [tokB, decide_eq_false_iff_not]; omega
                  rw [e1]
                  exact ev_neg (by rw [decide_eq_true_eq]; exact h3) (ev_const (by simp))
          have := inner 0 (Nat.zero_le _)
          simpa [trowB, ha] using this
    have := key 0 (Nat.zero_le _)
    simpa using this
structure Trains (l : List (List Int)) : Prop where
  pos : 1 ≤ l.length
  six : l.length ≤ 6
  wide : Wide l l.length
  ok : ∀ r ∈ l, ∀ x ∈ r, x = 1000000000 ∨ (0 ≤ x ∧ x ≤ 1000)
theorem trB_trains {l : List (List Int)} (h : trB l = true) : Trains l := by
 simp only [trB, Bool.and_eq_true, List.all_eq_true, trowB] at h
 have hp := sqB_parts h.1
 exact ⟨hp.1, hp.2.1, hp.2.2.1, fun r hr x hx => by simpa [tokB] using (h.2 r hr).1 x hx⟩

def timesB (d : List Int) : Bool := d.all fun n => decide (0 ≤ n ∧ n ≤ 100000)
theorem areTimes_eq (d : List Int) : impl_areTimes.f d = some (timesB d) := by
 unfold impl_areTimes.f
 obtain ⟨K, hK⟩ := (Ext.ev_anyO d (fun n _ => ev_const (by unfold impl_areTimes.g; rw [within_eq, Option.bind_some])) : Ev (fun _ => Ext.anyO impl_areTimes.g d) (d.any fun n => !decide (0 ≤ n ∧ n ≤ 100000)))
 have : Ext.anyO impl_areTimes.g d = _ := hK K (Nat.le_refl _)
 rw [this, Option.bind_some]
 congr 1
 unfold timesB
 rw [List.any_eq_not_all_not]
 simp
def bothB (l : List (List Int)) (d : List Int) : Bool := trB l && (decide (d.length = l.length) && timesB d)
theorem ev_trTimes (n : Nat) (d : List Int) (hd : (d.length : Int) ≤ 1048576) : Ev (fun k => spec_trTimes.f k (n : Int) d) (decide (d.length = n) && timesB d) := by
 unfold spec_trTimes.f
 by_cases h : d.length = n
 ·
  refine ev_pos (by omega) (ev_bind0 (ev_l1All d 0 100000 (by omega)) ?_)
  simp [h, timesB]
 ·
  exact ev_neg (by omega) (ev_const (by simp [h]))
theorem ev_trBoth (l : List (List Int)) (d : List Int) (h : Short l) (hd : (d.length : Int) ≤ 1048576) : Ev (fun k => spec_trBoth.f k l d) (bothB l d) := by
 unfold spec_trBoth.f bothB
 refine Ev.bind (ev_trGood l h) ?_
 cases trB l with
 | false => exact ev_false (ev_const rfl)
 | true => exact ev_true (ev_bind0 (ev_trTimes _ d hd) rfl)
theorem ev_areDepartures (l : List (List Int)) (d : List Int) (h : Short l) : Ev (fun k => impl_areDepartures.f k l d) (bothB l d) := by
 unfold impl_areDepartures.f bothB
 refine Ev.bind (ev_areTrains l h) ?_
 cases trB l with
 | false => exact ev_false (ev_const rfl)
 | true =>
  refine ev_true ?_
  by_cases e : d.length = l.length
  ·
   exact ev_pos (by omega) (ev_const (by rw [areTimes_eq, Option.bind_some]; simp [e]))
  ·
   exact ev_neg (by omega) (ev_const (by simp [e]))
def Upto (B : Int) (d : List Int) : Prop := ∀ x ∈ d, 0 ≤ x ∧ x ≤ B
theorem upto_rd {B : Int} {d : List Int} (h : Upto B d) {i : Nat} (hi : i < d.length) : 0 ≤ rd d (i : Int) ∧ rd d (i : Int) ≤ B := h _ (rd_mem hi)
theorem timesB_upto {d : List Int} (h : timesB d = true) : Upto 100000 d := by
 intro x hx
 simp only [timesB, List.all_eq_true] at h
 simpa using h x hx
theorem bothB_parts {l : List (List Int)} {d : List Int} (h : bothB l d = true) : Trains l ∧ d.length = l.length ∧ timesB d = true := by
 simp only [bothB, Bool.and_eq_true, decide_eq_true_eq] at h
 exact ⟨trB_trains h.1, h.2.1, h.2.2⟩

theorem l1Most_eq (a b : Int) : spec_l1Most.f a b = some (max a b) := by
 unfold spec_l1Most.f
 by_cases h : a > b
 ·
  rw [if_pos h]; congr 1; omega
 ·
  rw [if_neg h]; congr 1; omega
def stepM (a : Int) (p : Int × Int) : Int := if p.1 = 1000000000 then a else max a (p.2 + p.1)
def mostB (a : Int) (r d : List Int) : Int := (List.zip r d).foldl stepM a
def nextB (l : List (List Int)) (d : List Int) : List Int := l.map fun r => mostB 0 r d
theorem nextB_length (l : List (List Int)) (d : List Int) : (nextB l d).length = l.length := by simp [nextB]
theorem most_step {r d : List Int} {i : Nat} (a : Int) (h1 : i < r.length) (h2 : i < d.length) : mostB a (r.drop i) (d.drop i) = mostB (stepM a (rd r (i : Int), rd d (i : Int))) (r.drop (i + 1)) (d.drop (i + 1)) := by
 rw [mostB, mostB, drop_rd h1, drop_rd h2, List.zip_cons_cons, List.foldl_cons]
theorem most_bound {B : Int} (hB : 0 ≤ B) {r : List Int} : ∀ {d : List Int}, (∀ x ∈ r, x = 1000000000 ∨ (0 ≤ x ∧ x ≤ 1000)) → Upto B d → ∀ a, 0 ≤ a → a ≤ B + 1000 → 0 ≤ mostB a r d ∧ mostB a r d ≤ B + 1000 := by
 induction r with
 | nil => intro d _ _ a h1 h2; exact ⟨h1, h2⟩
 | cons x t ih =>
  intro d hr hd a h1 h2
  cases d with
  | nil => exact ⟨h1, h2⟩
  | cons y s =>
   have hx := hr x (List.mem_cons_self ..)
   have hy := hd y (List.mem_cons_self ..)
   have hs : 0 ≤ stepM a (x, y) ∧ stepM a (x, y) ≤ B + 1000 := by
    unfold stepM
    split
    ·
     omega
    ·
     rename_i e
     have e' : ¬ x = 1000000000 := e
     show 0 ≤ max a (y + x) ∧ max a (y + x) ≤ B + 1000
     omega
   exact ih (d := s) (fun z hz => hr z (List.mem_cons_of_mem _ hz)) (fun z hz => hd z (List.mem_cons_of_mem _ hz)) (stepM a (x, y)) hs.1 hs.2
theorem next_upto {l : List (List Int)} (ht : Trains l) {B : Int} (hB : 0 ≤ B) {d : List Int} (hd : Upto B d) : Upto (B + 1000) (nextB l d) := by
 intro x hx
 simp only [nextB, List.mem_map] at hx
 obtain ⟨r, hr, rfl⟩ := hx
 exact most_bound hB (ht.ok r hr) hd 0 (by omega) (by omega)
theorem rd_next {l : List (List Int)} {d : List Int} {i : Nat} (hi : i < l.length) : rd (nextB l d) (i : Int) = mostB 0 (rd_L1 l (i : Int)) d := by
 rw [rd_get (by rw [nextB_length]; exact hi), rrd_get hi]
 simp [nextB]
theorem ev_trNext (l : List (List Int)) (d : List Int) (ht : Trains l) (hd : d.length = l.length) {B : Int} (hB : B ≤ 1000000000) (hu : Upto B d) : Ev (fun k => spec_trNext.f k l d) (nextB l d) := by
 unfold spec_trNext.f
 have h6 := ht.six
 have key : ∀ i, i ≤ l.length → Ev (fun k => spec_trNext.l0 k d ((l.take i).map fun r => mostB 0 r d) l (l.length : Int) (i : Int)) (nextB l d) := by
  refine up_to _ ?_ ?_
  ·
   rw [take_all (Nat.le_refl _)]
   exact Ev.step (fun k => rfl) (ev_neg (by omega) (Ev.now _))
  ·
   intro i hi ih
   have hr := rrd_mem hi
   have hl := wide_rrd ht.wide hi
   refine Ev.step (fun k => rfl) (ev_pos (by omega) (ev_pos (by omega) (ev_pos (by omega) ?_)))
   rw [take_rrd hi, List.map_append] at ih
   generalize he : rd_L1 l (i : Int) = r at hr hl ih
   have hok := ht.ok r hr
   have inner : ∀ j, j ≤ r.length → ∀ a, mostB a (r.drop j) (d.drop j) = mostB 0 r d → Ev (fun k => spec_trNext.l1 k d ((l.take i).map fun r => mostB 0 r d) a l (l.length : Int) (i : Int) r (r.length : Int) (j : Int)) (nextB l d) := by
    refine up_to _ ?_ ?_
    ·
     intro a ha
     rw [drop_all (Nat.le_refl _)] at ha
     have ha : a = mostB 0 r d := ha
     refine Ev.step (fun k => rfl) (ev_neg (by omega) (ev_pos (by simp; omega) ?_))
     rw [wr1 (by omega), ha]
     exact ih
    ·
     intro j hj ih2 a ha
     rw [most_step a hj (by omega)] at ha
     have b1 := hok _ (rd_mem hj)
     have b2 := upto_rd hu (by omega : j < d.length)
     refine Ev.step (fun k => rfl) (ev_pos (by omega) (ev_pos (by omega) (ev_pos (by omega) ?_)))
     rw [wr1 (by omega)]
     by_cases hx : rd r (j : Int) = 1000000000
     ·
      rw [stepM, if_pos hx] at ha
      exact ev_pos hx (ih2 _ ha)
     ·
      rw [stepM, if_neg hx] at ha
      refine ev_neg hx (ev_pos (by omega) (Ev.bind (ev_const (l1Most_eq _ _)) ?_))
      rw [wr (by omega) (by omega)]
      exact ih2 _ ha
   exact inner 0 (Nat.zero_le _) 0 rfl
 exact key 0 (Nat.zero_le _)
theorem ev_nextTimes (l : List (List Int)) (d : List Int) (ht : Trains l) (hd : d.length = l.length) {B : Int} (hB : B ≤ 1000000000) (hu : Upto B d) : Ev (fun k => impl_nextTimes.f k l d) (nextB l d) := by
 unfold impl_nextTimes.f
 have h6 := ht.six
 have key : ∀ i, i ≤ l.length → Ev (fun k => impl_nextTimes.l0 k d ((l.take i).map fun r => mostB 0 r d) l (l.length : Int) (i : Int)) (nextB l d) := by
  refine up_to _ ?_ ?_
  ·
   rw [take_all (Nat.le_refl _)]
   exact Ev.step (fun k => rfl) (ev_neg (by omega) (Ev.now _))
  ·
   intro i hi ih
   have hr := rrd_mem hi
   have hl := wide_rrd ht.wide hi
   refine Ev.step (fun k => rfl) (ev_pos (by omega) (ev_pos (by omega) (ev_pos (by omega) ?_)))
   rw [take_rrd hi, List.map_append] at ih
   generalize he : rd_L1 l (i : Int) = r at hr hl ih
   have hok := ht.ok r hr
   have inner : ∀ j, j ≤ r.length → ∀ a, mostB a (r.drop j) (d.drop j) = mostB 0 r d → Ev (fun k => impl_nextTimes.l1 k d ((l.take i).map fun r => mostB 0 r d) a l (l.length : Int) (i : Int) r (r.length : Int) (j : Int)) (nextB l d) := by
    refine up_to _ ?_ ?_
    ·
     intro a ha
     rw [drop_all (Nat.le_refl _)] at ha
     have ha : a = mostB 0 r d := ha
     refine Ev.step (fun k => rfl) (ev_neg (by omega) (ev_pos (by simp; omega) ?_))
     rw [wr1 (by omega), ha]
     exact ih
    ·
     intro j hj ih2 a ha
     rw [most_step a hj (by omega)] at ha
     have b1 := hok _ (rd_mem hj)
     have b2 := upto_rd hu (by omega : j < d.length)
     refine Ev.step (fun k => rfl) (ev_pos (by omega) (ev_pos (by omega) (ev_pos (by omega) ?_)))
     rw [wr1 (by omega)]
     by_cases hx : rd r (j : Int) = 1000000000
     ·
      rw [stepM, if_pos hx] at ha
      exact ev_pos hx (ih2 _ ha)
     ·
      rw [stepM, if_neg hx] at ha
      refine ev_neg hx (ev_pos (by omega) ?_)
      rw [wr (by omega) (by omega), mx_max']
      exact ih2 _ ha
   exact inner 0 (Nat.zero_le _) 0 rfl
 exact key 0 (Nat.zero_le _)
end Go.Proofs.Ytebjiooojkhkpaa.Pure

/- Periods, rounds, steady starts, waits: the program and the reference come to the same. Condition: lists no longer than memory allows. -/
namespace Go.Proofs.Ytebjiooojkhkpaa.Pure
open Go.RowKit Go.Proofs.Ytebjiooojkhkpaa.X Go.Proofs.YtebjiooojkhkpaaW.PrintWords Go.Proofs.YtebjiooojkhkpaaW.PrintMore
set_option linter.unusedVariables false
set_option linter.unusedSimpArgs false

def leastStep (a : Int) (q : Int × Int) : Int := max a (q.1 - q.2)
def leastB (a : Int) (n d : List Int) : Int := (List.zip n d).foldl leastStep a
theorem least_step {n d : List Int} {i : Nat} (a : Int) (h1 : i < n.length) (h2 : i < d.length) : leastB a (n.drop i) (d.drop i) = leastB (max a (rd n (i : Int) - rd d (i : Int))) (n.drop (i + 1)) (d.drop (i + 1)) := by
 rw [leastB, leastB, drop_rd h1, drop_rd h2, List.zip_cons_cons, List.foldl_cons]
 rfl
theorem trPeriod_eq (n : Int) : spec_trPeriod.f n = some (decide (0 ≤ n ∧ n ≤ 100000)) := by
 unfold spec_trPeriod.f
 rw [l1In_eq, Option.bind_some]
theorem isPeriod_eq (n : Int) : impl_isPeriod.f n = some (decide (0 ≤ n ∧ n ≤ 100000)) := by
 unfold impl_isPeriod.f
 rw [within_eq, Option.bind_some]
theorem ev_leastPeriod (l : List (List Int)) (d : List Int) (ht : Trains l) (hd : d.length = l.length) (hu : Upto 100000 d) : Ev (fun k => impl_leastPeriod.f k l d) (leastB 0 (nextB l d) d) := by
 unfold impl_leastPeriod.f
 refine Ev.bind (ev_nextTimes l d ht hd (by omega : (100000 : Int) ≤ 1000000000) hu) ?_
 have hn := nextB_length l d
 have hnu := next_upto ht (by omega) hu
 have h6 := ht.six
 generalize hN : nextB l d = n at hn hnu
 have key : ∀ i, i ≤ n.length → ∀ a, Ev (fun k => impl_leastPeriod.l0 k d a n (n.length : Int) (i : Int)) (leastB a (n.drop i) (d.drop i)) := by
  refine up_to _ ?_ ?_
  ·
   intro a
   rw [drop_all (Nat.le_refl _)]
   exact Ev.step (fun k => rfl) (ev_neg (by omega) (Ev.now _))
  ·
   intro i hi ih a
   have b1 := upto_rd hnu hi
   have b2 := upto_rd hu (by omega : i < d.length)
   refine Ev.step (fun k => rfl) (ev_pos (by omega) (ev_pos (by omega) (ev_pos (by omega) (ev_pos (by omega) ?_))))
   rw [wr1 (by omega), wr (by omega) (by omega), mx_max', least_step a hi (by omega)]
   exact ih _
 have := key 0 (Nat.zero_le _) 0
 simpa using this
def steadyR (l : List (List Int)) (d : List Int) (p : Int) : Bool × Bool := if bothB l d = true ∧ 0 ≤ p ∧ p ≤ 100000 then (decide (leastB 0 (nextB l d) d ≤ p), true) else (false, false)
theorem ev_implIsSteady (l : List (List Int)) (d : List Int) (p : Int) (h : Short l) : Ev (fun k => impl_IsSteady.f k l d p) (steadyR l d p) := by
 unfold impl_IsSteady.f steadyR
 refine Ev.bind (ev_areDepartures l d h) ?_
 cases hb : bothB l d with
 | false => exact ev_false (ev_const (by simp))
 | true =>
  obtain ⟨ht, hd, htm⟩ := bothB_parts hb
  refine ev_true (Ev.bind (ev_const (isPeriod_eq p)) ?_)
  by_cases hp : 0 ≤ p ∧ p ≤ 100000
  ·
   refine ev_pos (by rw [decide_eq_true_eq]; exact hp) (ev_bind0 (ev_leastPeriod l d ht hd (timesB_upto htm)) ?_)
   rw [if_pos ⟨rfl, hp⟩]
  ·
   refine ev_neg (by rw [decide_eq_true_eq]; exact hp) (ev_const ?_)
   rw [if_neg (fun h => hp h.2)]

end Go.Proofs.Ytebjiooojkhkpaa.Pure

/- Steady starts, the shortest period, waits: the program and the reference come to the same. Condition: lists no longer than memory allows. -/
namespace Go.Proofs.Ytebjiooojkhkpaa.Pure
open Go.RowKit Go.Proofs.Ytebjiooojkhkpaa.X Go.Proofs.YtebjiooojkhkpaaW.PrintWords Go.Proofs.YtebjiooojkhkpaaW.PrintMore
set_option linter.unusedVariables false
set_option linter.unusedSimpArgs false

def laterStep (p x n : Int) : Int := max x (n - p)
def laterB (l : List (List Int)) (p : Int) (d : List Int) : List Int := List.zipWith (laterStep p) d (nextB l d)
theorem laterB_length {l : List (List Int)} {p : Int} {d : List Int} (h : d.length = l.length) : (laterB l p d).length = l.length := by simp [laterB, nextB_length, h]
theorem rd_later {l : List (List Int)} {p : Int} {d : List Int} (h : d.length = l.length) {i : Nat} (hi : i < l.length) : rd (laterB l p d) (i : Int) = max (rd d (i : Int)) (rd (nextB l d) (i : Int) - p) := by
 rw [rd_get (by rw [laterB_length h]; exact hi), rd_get (by omega), rd_get (by rw [nextB_length]; exact hi)]
 simp [laterB, laterStep]
theorem later_upto {l : List (List Int)} (ht : Trains l) {B p : Int} (hB : 0 ≤ B) (hp : 0 ≤ p) {d : List Int} (hd : d.length = l.length) (hu : Upto B d) : Upto (B + 1000) (laterB l p d) := by
 have hn := next_upto ht hB hu
 intro x hx
 obtain ⟨i, hi, rfl⟩ := List.mem_iff_getElem.1 hx
 have hi' : i < l.length := by rw [laterB_length hd] at hi; exact hi
 rw [← rd_get hi, rd_later hd hi']
 have b1 := upto_rd hu (by omega : i < d.length)
 have b2 := upto_rd hn (by rw [nextB_length]; exact hi' : i < (nextB l d).length)
 omega
def startsB (l : List (List Int)) (p : Int) : Nat → List Int → List Int × Bool
  | 0, _ => ([], false)
  | n + 1, d => if laterB l p d = d then (d, true) else startsB l p n (laterB l p d)
theorem ev_l1Same (a b : List Int) (hn : (a.length : Int) ≤ 140737488355328) : Ev (fun k => spec_l1Same.f k a b) (decide (a = b)) := by
 unfold spec_l1Same.f
 by_cases h : a.length = b.length
 ·
  refine ev_pos (by omega) ?_
  have key : ∀ i, i ≤ a.length → Ev (fun k => spec_l1Same.l0 k a b (a.length : Int) (i : Int)) (decide (a.drop i = b.drop i)) := by
   refine up_to _ ?_ ?_
   ·
    rw [drop_all (Nat.le_refl _), drop_all (by omega)]
    exact Ev.step (fun k => rfl) (ev_neg (by omega) (ev_eq (by simp) (Ev.now true)))
   ·
    intro i hi ih
    rw [drop_rd hi, drop_rd (by omega : i < b.length)]
    refine Ev.step (fun k => rfl) (ev_pos (by omega) (ev_pos (by omega) (ev_pos (by omega) (ev_pos (by omega) ?_))))
    rw [wr1 (by omega)]
    by_cases e : rd a (i : Int) = rd b (i : Int)
    ·
     refine ev_pos e (ev_eq ?_ ih)
     simp [e]
    ·
     refine ev_neg e (ev_eq ?_ (Ev.now false))
     simp [e]
  have := key 0 (Nat.zero_le _)
  simpa using this
 ·
  refine ev_neg (by omega) (ev_const ?_)
  have : ¬ a = b := fun e => h (by rw [e])
  simp [this]
theorem ev_trStarts (l : List (List Int)) (p : Int) (ht : Trains l) (hp : 0 ≤ p) (hp2 : p ≤ 100000) : Ev (fun k => spec_trStarts.f k l p) (startsB l p (l.length + 1) (List.replicate l.length 0)) := by
 unfold spec_trStarts.f
 have h6 := ht.six
 refine ev_pos (by omega) (ev_pos (by omega) ?_)
 rw [show ((l.length : Int) : Int).toNat = l.length by omega]
 have key : ∀ m : Nat, ∀ i : Nat, i + m = l.length + 1 → ∀ d, d.length = l.length → Upto (1000 * (i : Int)) d → Ev (fun k => spec_trStarts.l0 k l p d (i : Int)) (startsB l p m d) := by
  intro m
  induction m with
  | zero =>
   intro i hi d hd hu
   exact Ev.step (fun k => rfl) (ev_neg (by omega) (Ev.now _))
  | succ m ih =>
   intro i hi d hd hu
   refine Ev.step (fun k => rfl) (ev_pos (by omega) (Ev.bind (ev_trNext l d ht hd (by omega : 1000 * (i : Int) ≤ 1000000000) hu) ?_))
   have hn := nextB_length l d
   have hnu := next_upto ht (by omega) hu
   have hll := laterB_length (p := p) hd
   have inner : ∀ j, j ≤ (nextB l d).length → Ev (fun k => spec_trStarts.l1 k l p d (i : Int) ((laterB l p d).take j) (nextB l d) ((nextB l d).length : Int) (j : Int)) (startsB l p (m + 1) d) := by
    refine up_to _ ?_ ?_
    ·
     rw [take_all (by omega)]
     refine Ev.step (fun k => rfl) (ev_neg (by omega) (Ev.bind (ev_l1Same _ d (by omega)) ?_))
     unfold startsB
     by_cases e : laterB l p d = d
     ·
      refine ev_pos (by simp [e]) (ev_const ?_)
      rw [if_pos e]
     ·
      refine ev_neg (by simp [e]) ?_
      rw [if_neg e, wr1 (by omega)]
      refine ih (i + 1) (by omega) _ hll ?_
      have := later_upto ht (by omega) hp hd hu
      intro x hx
      have := this x hx
      omega
    ·
     intro j hj ih2
     have b1 := upto_rd hnu hj
     have b2 := upto_rd hu (by omega : j < d.length)
     refine Ev.step (fun k => rfl) (ev_pos (by omega) (ev_pos (by omega) (ev_pos (by omega) (ev_pos (by omega) (Ev.bind (ev_const (l1Most_eq _ _)) (ev_pos (by simp; omega) ?_))))))
     rw [wr1 (by omega), wr (by omega) (by omega), ← rd_later hd (by omega), ← take_rd (by omega)]
     exact ih2
   exact inner 0 (Nat.zero_le _)
 refine key (l.length + 1) 0 (by omega) _ (by simp) ?_
 intro x hx
 have := List.eq_of_mem_replicate hx
 omega
def startsR (l : List (List Int)) (p : Int) : List Int × Bool := if trB l = true ∧ 0 ≤ p ∧ p ≤ 100000 then startsB l p (l.length + 1) (List.replicate l.length 0) else ([], false)
theorem ev_specSteadyStarts (l : List (List Int)) (p : Int) (h : Short l) : Ev (fun k => spec_SteadyStarts.f k l p) (startsR l p) := by
 unfold spec_SteadyStarts.f startsR
 refine Ev.bind (ev_trGood l h) ?_
 cases hb : trB l with
 | false => exact ev_false (ev_const (by simp))
 | true =>
  have ht := trB_trains hb
  refine ev_true (Ev.bind (ev_const (trPeriod_eq p)) ?_)
  by_cases hp : 0 ≤ p ∧ p ≤ 100000
  ·
   refine ev_pos (by rw [decide_eq_true_eq]; exact hp) (ev_bind0 (ev_trStarts l p ht hp.1 hp.2) ?_)
   rw [if_pos ⟨rfl, hp⟩]
  ·
   refine ev_neg (by rw [decide_eq_true_eq]; exact hp) (ev_const ?_)
   rw [if_neg (fun h => hp h.2)]

end Go.Proofs.Ytebjiooojkhkpaa.Pure

/- Timetables and delays that are drawn: they are small. Condition: the bytes are bytes. -/
namespace Go.Proofs.Ytebjiooojkhkpaa.Pure
open Go.RowKit Go.Proofs.Ytebjiooojkhkpaa.X Go.Proofs.YtebjiooojkhkpaaW.PrintWords Go.Proofs.YtebjiooojkhkpaaW.PrintMore
set_option linter.unusedVariables false
set_option linter.unusedSimpArgs false

theorem startsB_full (l : List (List Int)) (p : Int) : ∀ (n : Nat) (d : List Int), d.length = l.length → (startsB l p n d).2 = true → (startsB l p n d).1.length = l.length
  | 0, d, _, h => by simp [startsB] at h
  | n + 1, d, hd, h => by
    unfold startsB at h ⊢
    split at h
    · rename_i e
      rw [if_pos e]
      exact hd
    · rename_i e
      rw [if_neg e]
      exact startsB_full l p n _ (laterB_length hd) h
theorem startsR_full {l : List (List Int)} {p : Int} (h : (startsR l p).2 = true) : (startsR l p).1.length = l.length := by
 unfold startsR at h ⊢
 split at h
 ·
  rename_i e
  rw [if_pos e]
  exact startsB_full l p _ _ (by simp) h
 ·
  simp at h
def Planned (r : List (List Int) × List Int × Int × Int × Int) : Prop := Short r.1 ∧ r.1.length ≤ 6 ∧ r.2.1.length ≤ 6 ∧ 0 ≤ r.2.2.2.1 ∧ r.2.2.2.1 ≤ 100000
theorem planned_j6 {c : List Int} (hc : Bytes c) {m : List (List Int)} {d : List Int} (p : Int) {a : Int} (s : Int) (hm : Short m) (hm6 : m.length ≤ 6) (hd1 : 1 ≤ d.length) (hd6 : d.length ≤ 6) (h0 : 0 ≤ a) (h1 : a ≤ 50000) : ∃ r, Ev (fun k => spec_l1Cur_planned.j6 k m p d c a s) r ∧ Planned r := by
 obtain ⟨v, a1, s1, e, h2, h3, h4, h5, h6, h7⟩ := pick_ok hc s (⟨h0, by omega⟩ : Spot a) 24
 by_cases v0 : v = 0
 ·
  obtain ⟨p', a2, s2, e2, _, h8, h9⟩ := among_ok hc s1 (⟨by omega, by omega⟩ : Spot a1) [0, 100000, 100001, (-1)] (by simp)
  exact ⟨(m, d, p', a2, s2), Ev.step (fun k => rfl) (Ev.bind (ev_const e) (ev_pos v0 (ev_bind0 (ev_const e2) rfl))), hm, hm6, hd6, by dsimp only; omega, by dsimp only; omega⟩
 ·
  by_cases v1 : v = 1
  ·
   obtain ⟨p', a2, s2, e2, _, h8, h9⟩ := among_ok hc s1 (⟨by omega, by omega⟩ : Spot a1) [100000, 100001, (-1)] (by simp)
   exact ⟨(m, d.set (0 : Int).toNat p', p, a2, s2), Ev.step (fun k => rfl) (Ev.bind (ev_const e) (ev_neg v0 (ev_pos v1 (Ev.bind (ev_const e2) (ev_pos (by omega) (Ev.now _)))))), hm, hm6, by simp; omega, by dsimp only; omega, by dsimp only; omega⟩
  ·
   by_cases v2 : v = 2
   ·
    exact ⟨(m, d.drop (1 : Int).toNat, p, a1, s1), Ev.step (fun k => rfl) (Ev.bind (ev_const e) (ev_neg v0 (ev_neg v1 (ev_pos v2 (ev_pos (by omega) (Ev.now _)))))), hm, hm6, by simp; omega, by dsimp only; omega, by dsimp only; omega⟩
   ·
    exact ⟨(m, d, p, a1, s1), Ev.step (fun k => rfl) (Ev.bind (ev_const e) (ev_neg v0 (ev_neg v1 (ev_neg v2 (Ev.now _))))), hm, hm6, hd6, by dsimp only; omega, by dsimp only; omega⟩
theorem planned_j4 {c : List Int} (hc : Bytes c) {n : Nat} (hn1 : 1 ≤ n) (hn6 : n ≤ 6) {m : List (List Int)} {d : List Int} (p : Int) (ok : Bool) {a : Int} (s : Int) (hm : Short m) (hm6 : m.length ≤ 6) (hd : ok = true → d.length = n) (h0 : 0 ≤ a) (h1 : a ≤ 40000) : ∃ r, Ev (fun k => spec_l1Cur_planned.j4 k (n : Int) m p d ok c a s) r ∧ Planned r := by
 by_cases hok : ok = true
 rotate_left
 ·
  obtain ⟨xs, a1, s1, e, h2, _, h4, h5⟩ := plain_ok hc s (n : Int) (by omega) h0 (by omega)
  exact ⟨(m, xs, p, a1, s1), Ev.step (fun k => rfl) (ev_neg hok (ev_bind0 e rfl)), hm, hm6, by dsimp only; omega, by dsimp only; omega, by dsimp only; omega⟩
 ·
  have hd := hd hok
  obtain ⟨b, a1, s1, e, h2, h3⟩ := one_ok hc s (⟨h0, by omega⟩ : Spot a) 3
  cases b with
  | false =>
   obtain ⟨r, hr, hp⟩ := planned_j6 hc p s1 hm hm6 (by omega : 1 ≤ d.length) (by omega) (by omega : 0 ≤ a1) (by omega)
   exact ⟨r, Ev.step (fun k => rfl) (ev_pos hok (Ev.bind (ev_const e) (ev_false hr))), hp⟩
  | true =>
   obtain ⟨by_, a2, s2, e2, _, _, _, _, h4, h5⟩ := pick_ok hc s1 (⟨by omega, by omega⟩ : Spot a1) 4
   have key : ∀ f i : Nat, i + f = n → ∀ d : List Int, d.length = n → ∃ r, Ev (fun k => spec_l1Cur_planned.l2 k (n : Int) m p d by_ (n : Int) (i : Int) c a2 s2) r ∧ Planned r := by
    intro f
    induction f with
    | zero =>
     intro i hi d hd
     obtain ⟨v, a3, s3, e3, g1, g2, _, _, g3, g4⟩ := pick_ok hc s2 (⟨by omega, by omega⟩ : Spot a2) (n : Int)
     obtain ⟨v2, a4, s4, e4, _, _, _, _, g5, g6⟩ := pick_ok hc s3 (⟨by omega, by omega⟩ : Spot a3) 2
     obtain ⟨r, hr, hp⟩ := planned_j6 hc (d := d.set v.toNat (wrap64 (rd d v + v2))) p s4 hm hm6 (by simp; omega) (by simp; omega) (by omega : 0 ≤ a4) (by omega)
     exact ⟨r, Ev.step (fun k => rfl) (ev_neg (by omega) (Ev.bind (ev_const e3) (ev_pos g1 (ev_pos (by omega) (Ev.bind (ev_const e4) hr))))), hp⟩
    | succ f ih =>
     intro i hi d hd
     obtain ⟨r, hr, hp⟩ := ih (i + 1) (by omega) (d.set (i : Int).toNat (wrap64 (rd d (i : Int) + by_))) (by simp; omega)
     refine ⟨r, Ev.step (fun k => rfl) (ev_pos (by omega) (ev_pos (by omega) (ev_pos (by omega) ?_))), hp⟩
     rw [wr1 (by omega)]
     exact hr
   obtain ⟨r, hr, hp⟩ := key n 0 (by omega) d hd
   refine ⟨r, Ev.step (fun k => rfl) (ev_pos hok (Ev.bind (ev_const e) (ev_true (Ev.bind (ev_const e2) ?_)))), hp⟩
   have e : (d.length : Int) = (n : Int) := by omega
   rw [e]
   exact hr
theorem planned_j3 {c : List Int} (hc : Bytes c) {n : Nat} (hn1 : 1 ≤ n) (hn6 : n ≤ 6) {m : List (List Int)} (p : Int) {a : Int} (s : Int) (hm : Short m) (hmn : m.length = n) (h0 : 0 ≤ a) (h1 : a ≤ 40000) : ∃ r, Ev (fun k => spec_l1Cur_planned.j3 k (n : Int) m p c a s) r ∧ Planned r := by
 have e1 := ev_specSteadyStarts m p hm
 by_cases h : (startsR m p).2 = true
 ·
  obtain ⟨r, hr, hp⟩ := planned_j4 hc hn1 hn6 (d := (startsR m p).1) p (startsR m p).2 s hm (by omega) (fun h => by rw [startsR_full h, hmn]) h0 h1
  exact ⟨r, Ev.step (fun k => rfl) (Ev.bind e1 (ev_pos h hr)), hp⟩
 ·
  obtain ⟨r, hr, hp⟩ := planned_j4 hc hn1 hn6 (d := (startsR m 1000).1) 1000 (startsR m 1000).2 s hm (by omega) (fun h => by rw [startsR_full h, hmn]) h0 h1
  exact ⟨r, Ev.step (fun k => rfl) (Ev.bind e1 (ev_neg h (Ev.bind (ev_specSteadyStarts m 1000 hm) hr))), hp⟩
theorem short_rows {m : List (List Int)} {n : Nat} (h : ∀ r ∈ m, r.length = n) (hn : n ≤ 6) (hm : m.length ≤ 6) : Short m := ⟨by omega, fun r hr => by have := h r hr; omega⟩
theorem planned_j0 {c : List Int} (hc : Bytes c) {n : Nat} (hn1 : 1 ≤ n) (hn6 : n ≤ 6) {a : Int} (s : Int) (h0 : 0 ≤ a) (h1 : a ≤ 100) : ∃ r, Ev (fun k => spec_l1Cur_planned.j0 k (n : Int) c a s) r ∧ Planned r := by
 have outer : ∀ f i : Nat, i + f = n → ∀ (m : List (List Int)) (a s : Int), m.length = i → (∀ r ∈ m, r.length = n) → 0 ≤ a → a ≤ 100 + 4 * (6 * (i : Int)) → ∃ r, Ev (fun k => spec_l1Cur_planned.l0 k (n : Int) m (i : Int) c a s) r ∧ Planned r := by
  intro f
  induction f with
  | zero =>
   intro i hi m a s hmi hmr h0 h1
   obtain ⟨p, a1, s1, e, _, g1, g2⟩ := among_ok hc s (⟨by omega, by omega⟩ : Spot a) [6, 8, 10, 12, 14, 20] (by simp)
   obtain ⟨b, a2, s2, e2, g3, g4⟩ := one_ok hc s1 (⟨by omega, by omega⟩ : Spot a1) 24
   cases b with
   | false =>
    obtain ⟨r, hr, hp⟩ := planned_j3 hc hn1 hn6 p s2 (short_rows hmr hn6 (by omega)) (by omega) (by omega : 0 ≤ a2) (by omega)
    exact ⟨r, Ev.step (fun k => rfl) (ev_neg (by omega) (Ev.bind (ev_const e) (Ev.bind (ev_const e2) (ev_false hr)))), hp⟩
   | true =>
    obtain ⟨v, a3, s3, e3, _, g5, g6⟩ := among_ok hc s2 (⟨by omega, by omega⟩ : Spot a2) [1000, 1001, (-1), 0] (by simp)
    have hw : (rd_L1 m 0).length = n := hmr _ (rrd_mem (by omega : 0 < m.length))
    have hm2 : ∀ r ∈ m.set (0 : Int).toNat ((rd_L1 m 0).set (0 : Int).toNat v), r.length = n := by
     intro r hr
     rcases List.mem_or_eq_of_mem_set hr with hr | hr
     ·
      exact hmr r hr
     ·
      rw [hr, List.length_set, hw]
    obtain ⟨r, hr, hp⟩ := planned_j3 hc hn1 hn6 p s3 (short_rows hm2 hn6 (by simp; omega)) (by simp; omega) (by omega : 0 ≤ a3) (by omega)
    exact ⟨r, Ev.step (fun k => rfl) (ev_neg (by omega) (Ev.bind (ev_const e) (Ev.bind (ev_const e2) (ev_true (ev_pos (by omega) (Ev.bind (ev_const e3) (ev_pos (by omega) hr))))))), hp⟩
  | succ f ih =>
   intro i hi m a s hmi hmr h0 h1
   have inner : ∀ g j : Nat, j + g = n → ∀ (row : List Int) (a s : Int), row.length = j → 0 ≤ a → a ≤ 100 + 4 * (6 * (i : Int) + (j : Int)) → ∃ r, Ev (fun k => spec_l1Cur_planned.l1 k (n : Int) m (i : Int) row (j : Int) c a s) r ∧ Planned r := by
    intro g
    induction g with
    | zero =>
     intro j hj row a s hrow h0 h1
     obtain ⟨r, hr, hp⟩ := ih (i + 1) (by omega) (m ++ [row]) a s (by simp; omega) (by
      intro r hr
      rcases List.mem_append.1 hr with hr | hr
      ·
       exact hmr r hr
      ·
       simp at hr
       subst hr
       omega) h0 (by omega)
     refine ⟨r, Ev.step (fun k => rfl) (ev_neg (by omega) (ev_pos (by omega) ?_)), hp⟩
     rw [wr1 (by omega)]
     exact hr
    | succ g ih2 =>
     intro j hj row a s hrow h0 h1
     obtain ⟨v, a1, s1, e, g1, g2, _, _, g3, g4⟩ := pick_ok hc s (⟨by omega, by omega⟩ : Spot a) 12
     by_cases hd : (j : Int) = Int.tmod (wrap64 ((i : Int) + 1)) (n : Int)
     ·
      have HD := Aside0.mk hd
      clear hd
      obtain ⟨r, hr, hp⟩ := ih2 (j + 1) (by omega) (row ++ [wrap64 (1 + v)]) a1 s1 (by simp; omega) (by omega) (by omega)
      refine ⟨r, Ev.step (fun k => rfl) (ev_pos (by omega) (Ev.bind (ev_const e) (ev_neg (by omega) (ev_pos HD.out (ev_pos (by omega) ?_))))), hp⟩
      rw [wr1 (by omega)]
      exact hr
     ·
      have HD := Aside0.mk hd
      clear hd
      obtain ⟨b, a2, s2, e2, g5, g6⟩ := one_ok hc s1 (⟨by omega, by omega⟩ : Spot a1) 2
      cases b with
      | true =>
       obtain ⟨r, hr, hp⟩ := ih2 (j + 1) (by omega) (row ++ [1000000000]) a2 s2 (by simp; omega) (by omega) (by omega)
       refine ⟨r, Ev.step (fun k => rfl) (ev_pos (by omega) (Ev.bind (ev_const e) (ev_neg (by omega) (ev_neg HD.out (Ev.bind (ev_const e2) (ev_true (ev_pos (by omega) ?_))))))), hp⟩
       rw [wr1 (by omega)]
       exact hr
      | false =>
       obtain ⟨r, hr, hp⟩ := ih2 (j + 1) (by omega) (row ++ [wrap64 (1 + v)]) a2 s2 (by simp; omega) (by omega) (by omega)
       refine ⟨r, Ev.step (fun k => rfl) (ev_pos (by omega) (Ev.bind (ev_const e) (ev_neg (by omega) (ev_neg HD.out (Ev.bind (ev_const e2) (ev_false (ev_pos (by omega) ?_))))))), hp⟩
       rw [wr1 (by omega)]
       exact hr
   obtain ⟨r, hr, hp⟩ := inner n 0 (by omega) [] a s rfl h0 (by omega)
   exact ⟨r, Ev.step (fun k => rfl) (ev_pos (by omega) hr), hp⟩
 obtain ⟨r, hr, hp⟩ := outer n 0 (by omega) [] a s rfl (by simp) h0 (by omega)
 exact ⟨r, Ev.step (fun k => rfl) hr, hp⟩
theorem planned_ok {c : List Int} (hc : Bytes c) : ∃ r, Ev (fun k => spec_l1Cur_planned.f k c 0 0) r ∧ Planned r := by
 unfold spec_l1Cur_planned.f
 obtain ⟨v, a1, s1, e, g1, g2, _, _, g3, g4⟩ := pick_ok hc 0 (⟨by omega, by omega⟩ : Spot 0) 4
 obtain ⟨b, a2, s2, e2, g5, g6⟩ := one_ok hc s1 (⟨by omega, by omega⟩ : Spot a1) 16
 cases b with
 | true =>
  obtain ⟨r, hr, hp⟩ := planned_j0 hc (n := 6) (by omega) (by omega) s2 (by omega : 0 ≤ a2) (by omega)
  exact ⟨r, Ev.bind (ev_const e) (Ev.bind (ev_const e2) (ev_true hr)), hp⟩
 | false =>
  obtain ⟨n, hn⟩ := Int.eq_ofNat_of_zero_le g1
  obtain ⟨r, hr, hp⟩ := planned_j0 hc (n := 1 + n) (by omega) (by omega) s2 (by omega : 0 ≤ a2) (by omega)
  have e5 : wrap64 (1 + v) = ((1 + n : Nat) : Int) := by rw [wr (by omega) (by omega)]; omega
  refine ⟨r, Ev.bind (ev_const e) (Ev.bind (ev_const e2) (ev_false ?_)), hp⟩
  rw [e5]
  exact hr

end Go.Proofs.Ytebjiooojkhkpaa.Pure

/- Circuits of trains: their time, as the program and the reference tell it. Condition: lists no longer than memory allows. -/
namespace Go.Proofs.Ytebjiooojkhkpaa.Pure
open Go.RowKit Go.Proofs.Ytebjiooojkhkpaa.X Go.Proofs.YtebjiooojkhkpaaW.PrintWords Go.Proofs.YtebjiooojkhkpaaW.PrintMore
set_option linter.unusedVariables false
set_option linter.unusedSimpArgs false

def inB (l : List (List Int)) (c : List Int) : Bool := c.all fun n => decide (0 ≤ n ∧ n ≤ (l.length : Int) - 1)
theorem rrd_memI {l : List (List Int)} {x : Int} (h0 : 0 ≤ x) (h1 : x < (l.length : Int)) : rd_L1 l x ∈ l := by
 obtain ⟨n, rfl⟩ := Int.eq_ofNat_of_zero_le h0
 exact rrd_mem (by omega)
theorem areVertices_eq (l : List (List Int)) (c : List Int) (h : (l.length : Int) ≤ 1048576) : impl_areVertices.f l c = some (inB l c) := by
 unfold impl_areVertices.f
 obtain ⟨K, hK⟩ := (Ext.ev_anyO c (fun n _ => ev_const (by unfold impl_areVertices.g; rw [within_eq, Option.bind_some, wr (by omega) (by omega)])) : Ev (fun _ => Ext.anyO (impl_areVertices.g l) c) (c.any fun n => !decide (0 ≤ n ∧ n ≤ (l.length : Int) - 1)))
 have : Ext.anyO (impl_areVertices.g l) c = _ := hK K (Nat.le_refl _)
 rw [this, Option.bind_some]
 congr 1
 unfold inB
 rw [List.any_eq_not_all_not]
 simp

end Go.Proofs.Ytebjiooojkhkpaa.Pure

/- Plans, buffers, delays: the program and the reference come to the same. Condition: lists no longer than memory allows. -/
namespace Go.Proofs.Ytebjiooojkhkpaa.Pure
open Go.RowKit Go.Proofs.Ytebjiooojkhkpaa.X Go.Proofs.YtebjiooojkhkpaaW.PrintWords Go.Proofs.YtebjiooojkhkpaaW.PrintMore
set_option linter.unusedVariables false
set_option linter.unusedSimpArgs false

def bufB (l : List (List Int)) (d : List Int) (p i j : Int) : Int := rd d i + p - rd d j - rd (rd_L1 l i) j
def cellB (l : List (List Int)) (d : List Int) (p : Int) (i j : Nat) : Bool := decide (rd (rd_L1 l (i : Int)) (j : Int) = 1000000000 ∨ 0 ≤ bufB l d p (i : Int) (j : Int))
def allF (p : Nat → Bool) : Nat → Nat → Bool
  | 0, _ => true
  | f + 1, n => p n && allF p f (n + 1)
theorem allF_iff (p : Nat → Bool) : ∀ f n, allF p f n = true ↔ ∀ j, n ≤ j → j < n + f → p j = true
  | 0, n => by simp [allF]; intro j h1 h2; omega
  | f + 1, n => by
    unfold allF
    rw [Bool.and_eq_true, allF_iff p f (n + 1)]
    constructor
    · rintro ⟨h1, h2⟩ j h3 h4
      by_cases e : j = n
      · rw [e]; exact h1
      · exact h2 j (by omega) (by omega)
    · intro h
      exact ⟨h n (by omega) (by omega), fun j h1 h2 => h j (by omega) (by omega)⟩
def steadyOk (l : List (List Int)) (d : List Int) (p : Int) : Bool := allF (fun i => allF (cellB l d p i) l.length 0) l.length 0
def goodB (l : List (List Int)) (d : List Int) (p : Int) : Bool := bothB l d && (decide (0 ≤ p ∧ p ≤ 100000) && steadyOk l d p)
theorem cell_entry {l : List (List Int)} (ht : Trains l) {i j : Int} (h0 : 0 ≤ i) (h1 : i < (l.length : Int)) (h2 : 0 ≤ j) (h3 : j < (l.length : Int)) : rd (rd_L1 l i) j = 1000000000 ∨ (0 ≤ rd (rd_L1 l i) j ∧ rd (rd_L1 l i) j ≤ 1000) := by
 have hm := rrd_memI h0 h1
 have hw := ht.wide _ hm
 obtain ⟨n, rfl⟩ := Int.eq_ofNat_of_zero_le h2
 exact ht.ok _ hm _ (rd_mem (by omega))
theorem upto_rdI {B : Int} {d : List Int} (h : Upto B d) {i : Int} (h0 : 0 ≤ i) (h1 : i < (d.length : Int)) : 0 ≤ rd d i ∧ rd d i ≤ B := by
  obtain ⟨n, rfl⟩ := Int.eq_ofNat_of_zero_le h0
  exact upto_rd h (by omega)
structure Plan (l : List (List Int)) (d : List Int) (p : Int) : Prop where
  tr : Trains l
  len : d.length = l.length
  up : Upto 100000 d
  per : 0 ≤ p ∧ p ≤ 100000
theorem dlBuffer_eq {l : List (List Int)} {d : List Int} {p i j : Int} (h : Plan l d p) (h0 : 0 ≤ i) (h1 : i < (l.length : Int)) (h2 : 0 ≤ j) (h3 : j < (l.length : Int)) : spec_dlBuffer.f l d p i j = some (bufB l d p i j) := by
 unfold spec_dlBuffer.f bufB
 have hl := h.len
 have hm := rrd_memI h0 h1
 have hw := h.tr.wide _ hm
 have b1 := cell_entry h.tr h0 h1 h2 h3
 have b2 := upto_rdI h.up h0 (by omega)
 have b3 := upto_rdI h.up h2 (by omega)
 have hp := h.per
 rw [if_pos h0, if_pos (by omega), if_pos h2, if_pos (by omega), if_pos h1, if_pos (by omega), wr (x := rd d i + p) (by omega) (by omega), wr (x := rd d i + p - rd d j) (by omega) (by omega), wr (by omega) (by omega)]
theorem planBuffer_eq {l : List (List Int)} {d : List Int} {p i j : Int} (h : Plan l d p) (h0 : 0 ≤ i) (h1 : i < (l.length : Int)) (h2 : 0 ≤ j) (h3 : j < (l.length : Int)) : impl_plan_buffer.f l d p i j = some (bufB l d p i j) := by
 unfold impl_plan_buffer.f bufB
 have hl := h.len
 have hm := rrd_memI h0 h1
 have hw := h.tr.wide _ hm
 have b1 := cell_entry h.tr h0 h1 h2 h3
 have b2 := upto_rdI h.up h0 (by omega)
 have b3 := upto_rdI h.up h2 (by omega)
 have hp := h.per
 rw [if_pos h0, if_pos (by omega), if_pos h2, if_pos (by omega), if_pos h1, if_pos (by omega), wr (x := rd d i + p) (by omega) (by omega), wr (x := rd d i + p - rd d j) (by omega) (by omega), wr (by omega) (by omega)]
theorem waits_eq {l : List (List Int)} {d : List Int} {p i j : Int} (ht : Trains l) (h0 : 0 ≤ i) (h1 : i < (l.length : Int)) (h2 : 0 ≤ j) (h3 : j < (l.length : Int)) : impl_plan_waits.f l d p i j = some (rd (rd_L1 l i) j != 1000000000) := by
 unfold impl_plan_waits.f
 have hm := rrd_memI h0 h1
 have hw := ht.wide _ hm
 rw [if_pos h0, if_pos h1, if_pos h2, if_pos (by omega)]
theorem goodB_plan {l : List (List Int)} {d : List Int} {p : Int} (h : goodB l d p = true) : Plan l d p := by
 simp only [goodB, Bool.and_eq_true, decide_eq_true_eq] at h
 obtain ⟨h1, h2, h3⟩ := bothB_parts h.1
 exact ⟨h1, h2, timesB_upto h3, h.2.1⟩
theorem good_cell {l : List (List Int)} {d : List Int} {p : Int} (h : goodB l d p = true) {i j : Int} (h0 : 0 ≤ i) (h1 : i < (l.length : Int)) (h2 : 0 ≤ j) (h3 : j < (l.length : Int)) (hne : rd (rd_L1 l i) j ≠ 1000000000) : 0 ≤ bufB l d p i j := by
 simp only [goodB, Bool.and_eq_true, steadyOk] at h
 obtain ⟨a, rfl⟩ := Int.eq_ofNat_of_zero_le h0
 obtain ⟨b, rfl⟩ := Int.eq_ofNat_of_zero_le h2
 have := (allF_iff _ _ _).1 h.2.2 a (by omega) (by omega)
 have := (allF_iff _ _ _).1 this b (by omega) (by omega)
 simp only [cellB, decide_eq_true_eq] at this
 rcases this with h | h
 ·
  exact absurd h hne
 ·
  exact h
theorem ev_dlGood (l : List (List Int)) (d : List Int) (p : Int) (h : Short l) (hdl : (d.length : Int) ≤ 1048576) : Ev (fun k => spec_dlGood.f k l d p) (goodB l d p) := by
 unfold spec_dlGood.f goodB
 refine Ev.bind (ev_trBoth l d h hdl) ?_
 cases hb : bothB l d with
 | false => exact ev_false (ev_j (g := fun k x => spec_dlGood.j0 k l d p x) (fun _ _ => rfl) (fun _ => ev_const (by simp)) (fun hb => nomatch hb))
 | true =>
  obtain ⟨ht, hd, htm⟩ := bothB_parts hb
  refine ev_true (Ev.bind (ev_const (trPeriod_eq p)) ?_)
  refine ev_j (g := fun k x => spec_dlGood.j0 k l d p x) (fun _ _ => rfl) (fun hp => ev_const ?_) (fun hp => ?_)
  ·
   have : decide (0 ≤ p ∧ p ≤ 100000) = false := by cases h : decide (0 ≤ p ∧ p ≤ 100000) <;> simp_all
   rw [this]
   rfl
  ·
   have hp : decide (0 ≤ p ∧ p ≤ 100000) = true := by cases h : decide (0 ≤ p ∧ p ≤ 100000) <;> simp_all
   rw [hp, Bool.true_and, Bool.true_and]
   have hpl : Plan l d p := ⟨ht, hd, timesB_upto htm, by simpa using hp⟩
   have h6 := ht.six
   have key : ∀ f i, i + f = l.length → Ev (fun k => spec_dlGood.l0 k l d p l (l.length : Int) (i : Int)) (allF (fun i => allF (cellB l d p i) l.length 0) f i) := by
    intro f
    induction f with
    | zero =>
     intro i hi
     exact Ev.step (fun k => rfl) (ev_neg (by omega) (Ev.now _))
    | succ f ih =>
     intro i hi
     have hw := wide_rrd ht.wide (by omega : i < l.length)
     refine Ev.step (fun k => rfl) (ev_pos (by omega) (ev_pos (by omega) (ev_pos (by omega) ?_)))
     unfold allF
     have inner : ∀ g j, j + g = l.length → Ev (fun k => spec_dlGood.l1 k l d p (i : Int) (rd_L1 l (i : Int)) l (l.length : Int) (i : Int) ((rd_L1 l (i : Int)).length : Int) (j : Int)) (allF (cellB l d p i) g j && allF (fun i => allF (cellB l d p i) l.length 0) f (i + 1)) := by
      intro g
      induction g with
      | zero =>
       intro j hj
       refine Ev.step (fun k => rfl) (ev_neg (by omega) ?_)
       rw [wr1 (by omega)]
       exact ev_eq (by simp [allF]) (ih (i + 1) (by omega))
      | succ g ih2 =>
       intro j hj
       refine Ev.step (fun k => rfl) (ev_pos (by omega) (ev_pos (by omega) (ev_pos (by omega) ?_)))
       rw [wr1 (by omega)]
       have e : allF (cellB l d p i) (g + 1) j = (cellB l d p i j && allF (cellB l d p i) g (j + 1)) := rfl
       rw [e]
       by_cases hx : rd (rd_L1 l (i : Int)) (j : Int) = 1000000000
       ·
        have : cellB l d p i j = true := by simp [cellB, hx]
        rw [this]
        exact ev_pos hx (ev_eq (by simp) (ih2 (j + 1) (by omega)))
       ·
        refine ev_neg hx (Ev.bind (ev_const (dlBuffer_eq hpl (by omega) (by omega) (by omega) (by omega))) ?_)
        by_cases hb : bufB l d p (i : Int) (j : Int) < 0
        ·
         have : cellB l d p i j = false := by simp only [cellB, decide_eq_false_iff_not]; omega
         rw [this]
         exact ev_pos hb (ev_const (by simp))
        ·
         have : cellB l d p i j = true := by simp only [cellB, decide_eq_true_eq]; omega
         rw [this]
         exact ev_neg hb (ev_eq (by simp) (ih2 (j + 1) (by omega)))
     exact inner l.length 0 (by omega)
   exact key l.length 0 (by omega)
theorem zip_forall {P : Int → Int → Prop} {n d : List Int} : (∀ x ∈ List.zip n d, P x.1 x.2) ↔ ∀ i, i < n.length → i < d.length → P (rd n (i : Int)) (rd d (i : Int)) := by
 constructor
 ·
  intro h i h1 h2
  have := h (n[i], d[i]) (by
   rw [List.mem_iff_getElem]
   exact ⟨i, by simp; omega, by simp⟩)
  rw [rd_get h1, rd_get h2]
  exact this
 ·
  intro h x hx
  obtain ⟨i, hi, rfl⟩ := List.mem_iff_getElem.1 hx
  simp only [List.length_zip] at hi
  have := h i (by omega) (by omega)
  rw [rd_get (by omega), rd_get (by omega)] at this
  simpa using this
theorem leastB_le (q : List (Int × Int)) (p : Int) : ∀ a, q.foldl leastStep a ≤ p ↔ a ≤ p ∧ ∀ x ∈ q, x.1 - x.2 ≤ p := by
 induction q with
 | nil => intro a; simp
 | cons y t ih =>
  intro a
  rw [List.foldl_cons, ih]
  unfold leastStep
  constructor
  ·
   rintro ⟨h1, h2⟩
   refine ⟨by omega, fun x hx => ?_⟩
   rcases List.mem_cons.1 hx with rfl | hx
   ·
    omega
   ·
    exact h2 x hx
  ·
   rintro ⟨h1, h2⟩
   have := h2 y (List.mem_cons_self ..)
   exact ⟨by omega, fun x hx => h2 x (List.mem_cons_of_mem _ hx)⟩
theorem mostB_le (q : List (Int × Int)) (t : Int) : ∀ a, q.foldl stepM a ≤ t ↔ a ≤ t ∧ ∀ x ∈ q, x.1 ≠ 1000000000 → x.2 + x.1 ≤ t := by
 induction q with
 | nil => intro a; simp
 | cons y r ih =>
  intro a
  rw [List.foldl_cons, ih]
  unfold stepM
  constructor
  ·
   rintro ⟨h1, h2⟩
   refine ⟨by split at h1 <;> omega, fun x hx hne => ?_⟩
   rcases List.mem_cons.1 hx with rfl | hx
   ·
    rw [if_neg hne] at h1
    omega
   ·
    exact h2 x hx hne
  ·
   rintro ⟨h1, h2⟩
   refine ⟨?_, fun x hx => h2 x (List.mem_cons_of_mem _ hx)⟩
   split
   ·
    exact h1
   ·
    rename_i e
    have := h2 y (List.mem_cons_self ..) e
    omega
theorem steady_iff {l : List (List Int)} {d : List Int} {p : Int} (h : Plan l d p) : decide (leastB 0 (nextB l d) d ≤ p) = steadyOk l d p := by
 have hl := h.len
 have hp := h.per
 rw [Bool.eq_iff_iff, decide_eq_true_eq]
 unfold steadyOk leastB
 rw [leastB_le, allF_iff, zip_forall (P := fun a b => a - b ≤ p)]
 have hn := nextB_length l d
 constructor
 ·
  rintro ⟨_, h2⟩ i _ hi
  rw [allF_iff]
  intro j _ hj
  have h3 := h2 i (by omega) (by omega)
  rw [rd_next (by omega)] at h3
  have h4 : mostB 0 (rd_L1 l (i : Int)) d ≤ rd d (i : Int) + p := by omega
  unfold mostB at h4
  rw [mostB_le, zip_forall (P := fun a b => a ≠ 1000000000 → b + a ≤ rd d (i : Int) + p)] at h4
  have hw := wide_rrd h.tr.wide (by omega : i < l.length)
  have h5 := h4.2 j (by omega) (by omega)
  have h6 : rd (rd_L1 l (i : Int)) (j : Int) = 1000000000 ∨ 0 ≤ bufB l d p (i : Int) (j : Int) := by
   by_cases e : rd (rd_L1 l (i : Int)) (j : Int) = 1000000000
   ·
    exact .inl e
   ·
    have := h5 e
    exact .inr (by unfold bufB; omega)
  exact decide_eq_true h6
 ·
  intro h2
  refine ⟨hp.1, fun i h3 h4 => ?_⟩
  rw [rd_next (by omega)]
  have hw := wide_rrd h.tr.wide (by omega : i < l.length)
  have hui := upto_rd h.up h4
  have h5 : mostB 0 (rd_L1 l (i : Int)) d ≤ rd d (i : Int) + p := by
   unfold mostB
   rw [mostB_le, zip_forall (P := fun a b => a ≠ 1000000000 → b + a ≤ rd d (i : Int) + p)]
   refine ⟨by omega, fun j h6 h7 hne => ?_⟩
   have h8 := (allF_iff _ _ _).1 (h2 i (by omega) (by omega)) j (by omega) (by omega)
   have h9 : rd (rd_L1 l (i : Int)) (j : Int) = 1000000000 ∨ 0 ≤ bufB l d p (i : Int) (j : Int) := of_decide_eq_true h8
   unfold bufB at h9
   omega
  omega
theorem ev_planOf (l : List (List Int)) (d : List Int) (p : Int) (h : Short l) : Ev (fun k => impl_planOf.f k l d p) (l, d, p, goodB l d p) := by
 unfold impl_planOf.f
 refine Ev.bind (ev_implIsSteady l d p h) (ev_const ?_)
 unfold steadyR goodB
 cases hb : bothB l d with
 | false => simp
 | true =>
  obtain ⟨ht, hd, htm⟩ := bothB_parts hb
  by_cases hp : 0 ≤ p ∧ p ≤ 100000
  ·
   have := steady_iff ⟨ht, hd, timesB_upto htm, hp⟩
   have e : (if true = true ∧ 0 ≤ p ∧ p ≤ 100000 then (decide (leastB 0 (nextB l d) d ≤ p), true) else (false, false)) = (steadyOk l d p, true) := by rw [if_pos ⟨rfl, hp⟩, this]
   rw [e, decide_eq_true hp]
   simp
  ·
   have e : (if true = true ∧ 0 ≤ p ∧ p ≤ 100000 then (decide (leastB 0 (nextB l d) d ≤ p), true) else (false, false)) = (false, false) := if_neg (fun h => hp h.2)
   rw [e, decide_eq_false hp]
   simp
def bufR (l : List (List Int)) (d : List Int) (p i j : Int) : Int × Bool := if goodB l d p = true ∧ (0 ≤ i ∧ i < (l.length : Int)) ∧ (0 ≤ j ∧ j < (l.length : Int)) ∧ rd (rd_L1 l i) j ≠ 1000000000 then (bufB l d p i j, true) else (0, false)
theorem dlTrain_eq (l : List (List Int)) (i : Int) (h : (l.length : Int) ≤ 1048576) : spec_dlTrain.f l i = some (decide (0 ≤ i ∧ i < (l.length : Int))) := by
 unfold spec_dlTrain.f
 rw [wr (by omega) (by omega), l1In_eq, Option.bind_some]
 congr 1
 rw [decide_eq_decide]
 omega
theorem ev_specBufferOf (l : List (List Int)) (d : List Int) (p i j : Int) (h : Short l) (hdl : (d.length : Int) ≤ 1048576) : Ev (fun k => spec_BufferOf.f k l d p i j) (bufR l d p i j) := by
 unfold spec_BufferOf.f bufR
 have hs := h.1
 refine Ev.bind (ev_dlGood l d p h hdl) ?_
 cases hg : goodB l d p with
 | false => exact ev_false (ev_const (by simp))
 | true =>
  have hpl := goodB_plan hg
  refine ev_true (Ev.bind (ev_const (dlTrain_eq l i hs)) ?_)
  by_cases hi : 0 ≤ i ∧ i < (l.length : Int)
  ·
   refine ev_pos (by rw [decide_eq_true_eq]; exact hi) (Ev.bind (ev_const (dlTrain_eq l j hs)) ?_)
   by_cases hj : 0 ≤ j ∧ j < (l.length : Int)
   ·
    have hw := hpl.tr.wide _ (rrd_memI hi.1 hi.2)
    refine ev_pos (by rw [decide_eq_true_eq]; exact hj) (ev_pos hi.1 (ev_pos hi.2 (ev_pos hj.1 (ev_pos (by omega) ?_))))
    by_cases e : rd (rd_L1 l i) j = 1000000000
    ·
     exact ev_pos e (ev_const (by rw [if_neg (fun h => h.2.2.2 e)]))
    ·
     exact ev_neg e (ev_bind0 (ev_const (dlBuffer_eq hpl hi.1 hi.2 hj.1 hj.2)) (by rw [if_pos ⟨rfl, hi, hj, e⟩]))
   ·
    exact ev_neg (by rw [decide_eq_true_eq]; exact hj) (ev_const (by rw [if_neg (fun h => hj h.2.2.1)]))
  ·
   exact ev_neg (by rw [decide_eq_true_eq]; exact hi) (ev_const (by rw [if_neg (fun h => hi h.2.1)]))
theorem ev_implBufferOf (l : List (List Int)) (d : List Int) (p i j : Int) (h : Short l) : Ev (fun k => impl_BufferOf.f k l d p i j) (bufR l d p i j) := by
 unfold impl_BufferOf.f bufR
 have hs := h.1
 refine Ev.bind (ev_planOf l d p h) ?_
 dsimp only
 cases hg : goodB l d p with
 | false => exact ev_false (ev_const (by simp))
 | true =>
  have hpl := goodB_plan hg
  refine ev_true (Ev.bind (ev_const (areVertices_eq l [i, j] hs)) ?_)
  cases hv : inB l [i, j] with
  | false =>
   refine ev_false (ev_const ?_)
   rw [if_neg]
   rintro ⟨_, h1, h2, _⟩
   simp [inB] at hv
   omega
  | true =>
   simp [inB] at hv
   refine ev_true (Ev.bind (ev_const (waits_eq hpl.tr hv.1.1 (by omega) hv.2.1 (by omega))) ?_)
   by_cases e : rd (rd_L1 l i) j = 1000000000
   ·
    exact ev_neg (by simp [e]) (ev_const (by rw [if_neg (fun h => h.2.2.2 e)]))
   ·
    exact ev_pos (by simp [e]) (ev_bind0 (ev_const (planBuffer_eq hpl hv.1.1 (by omega) hv.2.1 (by omega))) (by rw [if_pos ⟨rfl, ⟨hv.1.1, by omega⟩, ⟨hv.2.1, by omega⟩, e⟩]))
end Go.Proofs.Ytebjiooojkhkpaa.Pure

/- Harmless delays, the next delays, rounds of delays, their sums: the program and the reference come to the same. Condition: lists no longer than memory allows. -/
namespace Go.Proofs.Ytebjiooojkhkpaa.Pure
open Go.RowKit Go.Proofs.Ytebjiooojkhkpaa.X Go.Proofs.YtebjiooojkhkpaaW.PrintWords Go.Proofs.YtebjiooojkhkpaaW.PrintMore
set_option linter.unusedVariables false
set_option linter.unusedSimpArgs false

theorem l1Least_eq (a b : Int) : spec_l1Least.f a b = some (min a b) := by
 unfold spec_l1Least.f
 by_cases h : a < b
 ·
  rw [if_pos h]; congr 1; omega
 ·
  rw [if_neg h]; congr 1; omega
def harmB (l : List (List Int)) (d : List Int) (p j : Int) : Nat → Nat → Int → Int
  | 0, _, a => a
  | f + 1, i, a => harmB l d p j f (i + 1) (if (i : Int) = j then a else if rd (rd_L1 l (i : Int)) j = 1000000000 then a else min a (bufB l d p (i : Int) j))
def harmR (l : List (List Int)) (d : List Int) (p j : Int) : Int × Bool := if goodB l d p = true ∧ (0 ≤ j ∧ j < (l.length : Int)) then (harmB l d p j l.length 0 10000, true) else (0, false)
theorem ev_specHarmlessDelay (l : List (List Int)) (d : List Int) (p j : Int) (h : Short l) (hdl : (d.length : Int) ≤ 1048576) : Ev (fun k => spec_HarmlessDelay.f k l d p j) (harmR l d p j) := by
 unfold spec_HarmlessDelay.f harmR
 have hs := h.1
 refine Ev.bind (ev_dlGood l d p h hdl) ?_
 cases hg : goodB l d p with
 | false => exact ev_false (ev_j (g := fun k x => spec_HarmlessDelay.j0 k l d p j x) (fun _ _ => rfl) (fun _ => ev_const (by simp)) (fun hb => nomatch hb))
 | true =>
  have hpl := goodB_plan hg
  refine ev_true (Ev.bind (ev_const (dlTrain_eq l j hs)) ?_)
  refine ev_j (g := fun k x => spec_HarmlessDelay.j0 k l d p j x) (fun _ _ => rfl) (fun hj => ev_const ?_) (fun hj => ?_)
  ·
   rw [if_neg (fun h => by simp at hj; omega)]
  ·
   have hj : 0 ≤ j ∧ j < (l.length : Int) := by simp at hj; omega
   rw [if_pos ⟨rfl, hj⟩]
   have key : ∀ f i, i + f = l.length → ∀ a, Ev (fun k => spec_HarmlessDelay.l0 k l d p j a l (l.length : Int) (i : Int)) (harmB l d p j f i a, true) := by
    intro f
    induction f with
    | zero =>
     intro i hi a
     exact Ev.step (fun k => rfl) (ev_neg (by omega) (Ev.now _))
    | succ f ih =>
     intro i hi a
     have hw := wide_rrd hpl.tr.wide (by omega : i < l.length)
     refine Ev.step (fun k => rfl) (ev_pos (by omega) (ev_pos (by omega) (ev_pos (by omega) ?_)))
     unfold harmB
     by_cases e : (i : Int) = j
     ·
      refine ev_pos e (ev_j (g := fun k x => spec_HarmlessDelay.j2 k l d p j a (i : Int) l (l.length : Int) (i : Int) x) (fun _ _ => rfl) (fun hb => nomatch hb) (fun _ => ?_))
      rw [if_pos e, wr1 (by omega)]
      exact ih (i + 1) (by omega) a
     ·
      refine ev_neg e (ev_pos hj.1 (ev_pos (by omega) ?_))
      rw [if_neg e]
      refine ev_j (g := fun k x => spec_HarmlessDelay.j2 k l d p j a (i : Int) l (l.length : Int) (i : Int) x) (fun _ _ => rfl) (fun hb => ?_) (fun hb => ?_)
      ·
       have hx : ¬ rd (rd_L1 l (i : Int)) j = 1000000000 := by simpa using hb
       rw [if_neg hx]
       refine Ev.bind (ev_const (dlBuffer_eq hpl (by omega) (by omega) hj.1 hj.2)) (Ev.bind (ev_const (l1Least_eq _ _)) ?_)
       rw [wr1 (by omega)]
       exact ih (i + 1) (by omega) _
      ·
       have hx : rd (rd_L1 l (i : Int)) j = 1000000000 := by simpa using hb
       rw [if_pos hx, wr1 (by omega)]
       exact ih (i + 1) (by omega) a
   exact key l.length 0 (by omega) 10000
theorem ev_implHarmlessDelay (l : List (List Int)) (d : List Int) (p j : Int) (h : Short l) : Ev (fun k => impl_HarmlessDelay.f k l d p j) (harmR l d p j) := by
 unfold impl_HarmlessDelay.f harmR
 have hs := h.1
 refine Ev.bind (ev_planOf l d p h) ?_
 dsimp only
 cases hg : goodB l d p with
 | false => exact ev_false (ev_j (g := fun k x => impl_HarmlessDelay.j0 k l j x l d p) (fun _ _ => rfl) (fun _ => ev_const (by simp)) (fun hb => nomatch hb))
 | true =>
  have hpl := goodB_plan hg
  refine ev_true (Ev.bind (ev_const (areVertices_eq l [j] hs)) ?_)
  refine ev_j (g := fun k x => impl_HarmlessDelay.j0 k l j x l d p) (fun _ _ => rfl) (fun hj => ev_const ?_) (fun hj => ?_)
  ·
   rw [if_neg (fun h => by simp [inB] at hj; omega)]
  ·
   have hj : 0 ≤ j ∧ j < (l.length : Int) := by simp [inB] at hj; omega
   rw [if_pos ⟨rfl, hj⟩]
   have key : ∀ f i, i + f = l.length → ∀ a, Ev (fun k => impl_HarmlessDelay.l0 k j a (l.length : Int) (i : Int) l d p) (harmB l d p j f i a, true) := by
    intro f
    induction f with
    | zero =>
     intro i hi a
     exact Ev.step (fun k => rfl) (ev_neg (by omega) (Ev.now _))
    | succ f ih =>
     intro i hi a
     refine Ev.step (fun k => rfl) (ev_pos (by omega) ?_)
     rw [wr1 (by omega)]
     unfold harmB
     by_cases e : (i : Int) = j
     ·
      refine ev_pos e ?_
      rw [if_pos e]
      exact ih (i + 1) (by omega) a
     ·
      refine ev_neg e (Ev.bind (ev_const (waits_eq hpl.tr (by omega) (by omega) hj.1 hj.2)) ?_)
      rw [if_neg e]
      by_cases hx : rd (rd_L1 l (i : Int)) j = 1000000000
      ·
       refine ev_neg (by simp [hx]) ?_
       rw [if_pos hx]
       exact ih (i + 1) (by omega) a
      ·
       refine ev_pos (by simp [hx]) (Ev.bind (ev_const (planBuffer_eq hpl (by omega) (by omega) hj.1 hj.2)) ?_)
       rw [if_neg hx, mn_min']
       exact ih (i + 1) (by omega) _
   exact key l.length 0 (by omega) 10000

def lateF (l : List (List Int)) (d : List Int) (p : Int) (x : List Int) (i : Int) : Nat → Nat → Int → Int
  | 0, _, a => a
  | f + 1, j, a => lateF l d p x i f (j + 1) (if rd (rd_L1 l i) (j : Int) = 1000000000 then a else max a (rd x (j : Int) - bufB l d p i (j : Int)))
def delB (l : List (List Int)) (d : List Int) (p : Int) (x : List Int) : List Int := (List.range l.length).map fun (i : Nat) => lateF l d p x (i : Int) l.length 0 0
theorem delB_length (l : List (List Int)) (d : List Int) (p : Int) (x : List Int) : (delB l d p x).length = l.length := by simp [delB]
theorem lateF_bound {l : List (List Int)} {d : List Int} {p : Int} (hg : goodB l d p = true) {x : List Int} (hx : x.length = l.length) (hu : Upto 10000 x) {i : Int} (h0 : 0 ≤ i) (h1 : i < (l.length : Int)) : ∀ (f j : Nat) (a : Int), j + f = l.length → 0 ≤ a → a ≤ 10000 → 0 ≤ lateF l d p x i f j a ∧ lateF l d p x i f j a ≤ 10000
  | 0, _, a, _, h2, h3 => ⟨h2, h3⟩
  | f + 1, j, a, hf, h2, h3 => by
    unfold lateF
    have b := upto_rd hu (by omega : j < x.length)
    by_cases e : rd (rd_L1 l i) (j : Int) = 1000000000
    · rw [if_pos e]
      exact lateF_bound hg hx hu h0 h1 f (j + 1) a (by omega) h2 h3
    · rw [if_neg e]
      have := good_cell hg h0 h1 (by omega : (0 : Int) ≤ (j : Int)) (by omega) e
      exact lateF_bound hg hx hu h0 h1 f (j + 1) _ (by omega) (by omega) (by omega)
theorem delB_upto {l : List (List Int)} {d : List Int} {p : Int} (hg : goodB l d p = true) {x : List Int} (hx : x.length = l.length) (hu : Upto 10000 x) : Upto 10000 (delB l d p x) := by
 intro y hy
 simp only [delB, List.mem_map, List.mem_range] at hy
 obtain ⟨i, hi, rfl⟩ := hy
 exact lateF_bound hg hx hu (by omega) (by omega) l.length 0 0 (by omega) (by omega) (by omega)
theorem rd_delB {l : List (List Int)} {d : List Int} {p : Int} {x : List Int} {i : Nat} (h : i < l.length) : rd (delB l d p x) (i : Int) = lateF l d p x (i : Int) l.length 0 0 := by
 rw [rd_get (by rw [delB_length]; exact h)]
 simp [delB]
theorem bufB_bound {l : List (List Int)} {d : List Int} {p i j : Int} (h : Plan l d p) (h0 : 0 ≤ i) (h1 : i < (l.length : Int)) (h2 : 0 ≤ j) (h3 : j < (l.length : Int)) : -2000000000 ≤ bufB l d p i j ∧ bufB l d p i j ≤ 2000000000 := by
 have hl := h.len
 have b1 := cell_entry h.tr h0 h1 h2 h3
 have b2 := upto_rdI h.up h0 (by omega)
 have b3 := upto_rdI h.up h2 (by omega)
 have hp := h.per
 unfold bufB
 omega
theorem ev_dlNext (l : List (List Int)) (d : List Int) (p : Int) (x : List Int) (h : Plan l d p) (hx : x.length = l.length) (hu : Upto 10000 x) : Ev (fun k => spec_dlNext.f k l d p x) (delB l d p x) := by
 unfold spec_dlNext.f
 have h6 := h.tr.six
 have hlen := delB_length l d p x
 have key : ∀ i, i ≤ l.length → Ev (fun k => spec_dlNext.l0 k l d p x ((delB l d p x).take i) l (l.length : Int) (i : Int)) (delB l d p x) := by
  refine up_to _ ?_ ?_
  ·
   rw [take_all (by omega)]
   exact Ev.step (fun k => rfl) (ev_neg (by omega) (Ev.now _))
  ·
   intro i hi ih
   have hw := wide_rrd h.tr.wide hi
   refine Ev.step (fun k => rfl) (ev_pos (by omega) (ev_pos (by omega) (ev_pos (by omega) ?_)))
   have inner : ∀ f j, j + f = l.length → ∀ a, lateF l d p x (i : Int) f j a = rd (delB l d p x) (i : Int) → Ev (fun k => spec_dlNext.l1 k l d p x ((delB l d p x).take i) (i : Int) a l (l.length : Int) (i : Int) (rd_L1 l (i : Int)) ((rd_L1 l (i : Int)).length : Int) (j : Int)) (delB l d p x) := by
    intro f
    induction f with
    | zero =>
     intro j hj a ha
     have ha : a = rd (delB l d p x) (i : Int) := ha
     refine Ev.step (fun k => rfl) (ev_neg (by omega) (ev_pos (by simp; omega) ?_))
     rw [wr1 (by omega), ha, ← take_rd (by omega)]
     exact ih
    | succ f ih2 =>
     intro j hj a ha
     have b := upto_rd hu (by omega : j < x.length)
     have bb := bufB_bound h (i := (i : Int)) (j := (j : Int)) (by omega) (by omega) (by omega) (by omega)
     unfold lateF at ha
     refine Ev.step (fun k => rfl) (ev_pos (by omega) (ev_pos (by omega) (ev_pos (by omega) ?_)))
     rw [wr1 (by omega)]
     by_cases e : rd (rd_L1 l (i : Int)) (j : Int) = 1000000000
     ·
      rw [if_pos e] at ha
      exact ev_pos e (ih2 (j + 1) (by omega) a ha)
     ·
      rw [if_neg e] at ha
      refine ev_neg e (ev_pos (by omega) (Ev.bind (ev_const (dlBuffer_eq h (by omega) (by omega) (by omega) (by omega))) (Ev.bind (ev_const (l1Most_eq _ _)) ?_)))
      rw [wr (by omega) (by omega)]
      exact ih2 (j + 1) (by omega) _ ha
   exact inner l.length 0 (by omega) 0 (by rw [rd_delB hi])
 exact key 0 (Nat.zero_le _)
theorem rd_setI {s : List Int} {i : Nat} {v : Int} (h : i < s.length) : rd (s.set i v) (i : Int) = v := by
 rw [rd_get (by simp; exact h)]
 simp
theorem planRow_eq {l : List (List Int)} {d : List Int} {p : Int} {x : List Int} (h : Plan l d p) (hx : x.length = l.length) (hu : Upto 10000 x) {i : Nat} (hi : i < l.length) : ∀ (f j : Nat) (s : List Int), j + f = l.length → s.length = l.length →
    impl_plan_next.row (fun i j => impl_plan_waits.f l d p i j) (fun s i j => impl_plan_next.step l d p x s i j) (i : Int) f j s = some (s.set i (lateF l d p x (i : Int) f j (rd s (i : Int))))
  | 0, j, s, _, hs => by
    unfold impl_plan_next.row lateF
    rw [rd_get (by omega), List.set_getElem_self]
  | f + 1, j, s, hf, hs => by
    unfold impl_plan_next.row lateF
    have b := upto_rd hu (by omega : j < x.length)
    have bb := bufB_bound h (i := (i : Int)) (j := (j : Int)) (by omega) (by omega) (by omega) (by omega)
    rw [waits_eq h.tr (by omega) (by omega) (by omega) (by omega), Option.bind_some]
    by_cases e : rd (rd_L1 l (i : Int)) (j : Int) = 1000000000
    · rw [if_neg (by simp [e]), Option.bind_some, if_pos e]
      exact planRow_eq h hx hu hi f (j + 1) s (by omega) hs
    · rw [if_pos (by simp [e]), if_neg e]
      have hst : impl_plan_next.step l d p x s (i : Int) (j : Int) = some (s.set i (max (rd s (i : Int)) (rd x (j : Int) - bufB l d p (i : Int) (j : Int)))) := by
        unfold impl_plan_next.step
        rw [if_pos (by omega), if_pos (by omega), if_pos (by omega), if_pos (by omega), planBuffer_eq h (by omega) (by omega) (by omega) (by omega), Option.bind_some, wr (by omega) (by omega), mx_max', Int.toNat_natCast]
      rw [hst, Option.bind_some, planRow_eq h hx hu hi f (j + 1) _ (by omega) (by simp; exact hs), rd_setI (by omega), List.set_set]
theorem planAll_eq {l : List (List Int)} {d : List Int} {p : Int} {x : List Int} (h : Plan l d p) (hx : x.length = l.length) (hu : Upto 10000 x) : ∀ (f i : Nat), i + f = l.length →
    impl_plan_next.all (fun i j => impl_plan_waits.f l d p i j) (fun s i j => impl_plan_next.step l d p x s i j) l.length f i ((delB l d p x).take i ++ List.replicate f 0) = some (delB l d p x)
  | 0, i, hf => by
    have hlen := delB_length l d p x
    unfold impl_plan_next.all
    rw [take_all (by omega)]
    simp
  | f + 1, i, hf => by
    have hlen := delB_length l d p x
    unfold impl_plan_next.all
    have hr : rd ((delB l d p x).take i ++ List.replicate (f + 1) 0) (i : Int) = 0 := by
      rw [rd_get (by simp; omega), List.getElem_append_right (by simp; omega)]
      simp
    rw [planRow_eq h hx hu (by omega) l.length 0 _ (by omega) (by simp; omega), Option.bind_some, hr, ← rd_delB (by omega)]
    have e : ((delB l d p x).take i ++ List.replicate (f + 1) 0).set i (rd (delB l d p x) (i : Int)) = (delB l d p x).take (i + 1) ++ List.replicate f 0 := by
      rw [take_rd (by omega), List.replicate_succ, List.set_append_right _ _ (by simp; omega)]
      have e3 : i - ((delB l d p x).take i).length = 0 := by simp; omega
      rw [e3]
      simp
    rw [e]
    exact planAll_eq h hx hu f (i + 1) (by omega)
theorem planNext_eq (l : List (List Int)) (d : List Int) (p : Int) (x : List Int) (h : Plan l d p) (hx : x.length = l.length) (hu : Upto 10000 x) : impl_plan_next.f l d p x = some (delB l d p x) := by
 unfold impl_plan_next.f
 have h6 := h.tr.six
 rw [if_pos (by omega), hx]
 exact planAll_eq h hx hu l.length 0 (by omega)
def lateOk (l : List (List Int)) (x : List Int) : Bool := decide (x.length = l.length) && x.all fun n => decide (0 ≤ n ∧ n ≤ 10000)
theorem areDelays_eq (l : List (List Int)) (d : List Int) (p : Int) (x : List Int) : impl_plan_areDelays.f l d p x = some (lateOk l x) := by
 unfold impl_plan_areDelays.f lateOk
 by_cases e : x.length = l.length
 ·
  rw [if_pos (by omega), decide_eq_true e, Bool.true_and]
  obtain ⟨K, hK⟩ := (Ext.ev_anyO x (fun n _ => ev_const (by unfold impl_plan_areDelays.g; rw [within_eq, Option.bind_some])) : Ev (fun _ => Ext.anyO impl_plan_areDelays.g x) (x.any fun n => !decide (0 ≤ n ∧ n ≤ 10000)))
  have : Ext.anyO impl_plan_areDelays.g x = _ := hK K (Nat.le_refl _)
  rw [this, Option.bind_some]
  congr 1
  rw [List.any_eq_not_all_not]
  simp
 ·
  rw [if_neg (by omega), decide_eq_false e]
  rfl
theorem ev_delayed (l : List (List Int)) (d : List Int) (p : Int) (x : List Int) (h : Short l) : Ev (fun k => impl_delayed.f k l d p x) (l, d, p, goodB l d p && lateOk l x) := by
 unfold impl_delayed.f
 refine Ev.bind (ev_planOf l d p h) ?_
 dsimp only
 cases goodB l d p with
 | false => exact ev_false (ev_const rfl)
 | true => exact ev_true (ev_bind0 (ev_const (areDelays_eq l d p x)) rfl)
theorem lateOk_parts {l : List (List Int)} {x : List Int} (h : lateOk l x = true) : x.length = l.length ∧ Upto 10000 x := by
 simp only [lateOk, Bool.and_eq_true, decide_eq_true_eq, List.all_eq_true] at h
 exact ⟨h.1, fun n hn => by simpa using h.2 n hn⟩
def delR (l : List (List Int)) (d : List Int) (p : Int) (x : List Int) : List Int × Bool := if (goodB l d p && lateOk l x) = true then (delB l d p x, true) else ([], false)
theorem asked_parts {l : List (List Int)} {d : List Int} {p : Int} {x : List Int} (h : (goodB l d p && lateOk l x) = true) : goodB l d p = true ∧ Plan l d p ∧ x.length = l.length ∧ Upto 10000 x := by
 rw [Bool.and_eq_true] at h
 exact ⟨h.1, goodB_plan h.1, lateOk_parts h.2⟩
theorem ev_implNextDelays (l : List (List Int)) (d : List Int) (p : Int) (x : List Int) (h : Short l) : Ev (fun k => impl_NextDelays.f k l d p x) (delR l d p x) := by
 unfold impl_NextDelays.f delR
 refine Ev.bind (ev_delayed l d p x h) ?_
 dsimp only
 cases hg : (goodB l d p && lateOk l x) with
 | false => exact ev_false (ev_const (by simp))
 | true =>
  obtain ⟨h1, h2, h3, h4⟩ := asked_parts hg
  exact ev_true (ev_bind0 (ev_const (planNext_eq l d p x h2 h3 h4)) (by simp))

end Go.Proofs.Ytebjiooojkhkpaa.Pure

/- The trains that a delay reaches: the program and the reference come to the same. Condition: lists no longer than memory allows. -/
namespace Go.Proofs.Ytebjiooojkhkpaa.Pure
open Go.RowKit Go.Proofs.Ytebjiooojkhkpaa.X Go.Proofs.YtebjiooojkhkpaaW.PrintWords Go.Proofs.YtebjiooojkhkpaaW.PrintMore
set_option linter.unusedVariables false
set_option linter.unusedSimpArgs false

def markL : List Bool → Nat → List Int
  | [], _ => []
  | b :: t, n => (if b = true then [(n : Int)] else []) ++ markL t (n + 1)
theorem markL_mem : ∀ (f : List Bool) (n : Nat) (x : Int), x ∈ markL f n → (n : Int) ≤ x ∧ x < ((n + f.length : Nat) : Int)
  | [], n, x, h => by simp [markL] at h
  | b :: t, n, x, h => by
    unfold markL at h
    rcases List.mem_append.1 h with h | h
    · cases b with
      | true =>
        simp at h
        simp only [List.length_cons]
        omega
      | false => simp at h
    · have := markL_mem t (n + 1) x h
      simp only [List.length_cons]
      omega
theorem markL_append : ∀ (f g : List Bool) (n : Nat), markL (f ++ g) n = markL f n ++ markL g (n + f.length)
  | [], g, n => by simp [markL]
  | b :: t, g, n => by
    show (if b = true then [(n : Int)] else []) ++ markL (t ++ g) (n + 1) = ((if b = true then [(n : Int)] else []) ++ markL t (n + 1)) ++ markL g (n + (b :: t).length)
    rw [markL_append t g (n + 1), List.append_assoc, List.length_cons, show n + 1 + t.length = n + (t.length + 1) by omega]
theorem markL_length : ∀ (f : List Bool) (n : Nat), (markL f n).length ≤ f.length
  | [], n => by simp [markL]
  | b :: t, n => by
    unfold markL
    have := markL_length t (n + 1)
    cases b <;> simp <;> omega
theorem rd_append_left {A B : List Int} {i : Nat} (h : i < A.length) : rd (A ++ B) (i : Int) = rd A (i : Int) := by
 rw [rd_get (by simp; omega), rd_get h, List.getElem_append_left h]
theorem rd_append_at {A : List Int} {x : Int} {B : List Int} : rd (A ++ x :: B) (A.length : Int) = x := by
 rw [rd_get (by simp)]
 simp
theorem ev_l1Put_new (A C : List Int) (i : Int) (hA : ∀ x ∈ A, x < i) (hC : ∀ x ∈ C, i < x) (hl : (A ++ C).length ≤ 6) : Ev (fun k => spec_l1Put.f k (A ++ C) i) (A ++ i :: C) := by
 unfold spec_l1Put.f
 have hlen : (A ++ C).length = A.length + C.length := List.length_append
 have key : ∀ j, j ≤ A.length → Ev (fun k => spec_l1Put.l0 k (A ++ C) i (j : Int)) (A ++ i :: C) := by
  refine up_to _ ?_ ?_
  ·
   cases C with
   | nil =>
    refine Ev.step (fun k => rfl) (ev_neg (by simp) (ev_const ?_))
    simp only [Option.bind_some, List.append_nil, List.nil_append, Int.toNat_natCast]
    rw [if_pos (by omega), if_pos (by omega), take_all (Nat.le_refl _), drop_all (Nat.le_refl _)]
    simp at hl
    rw [if_pos (by first | omega | (simp; omega)), if_pos (by first | omega | (simp; omega)), if_pos (by first | omega | (simp; omega))]
    simp
   | cons x t =>
    have hx := hC x (List.mem_cons_self ..)
    simp at hl
    refine Ev.step (fun k => rfl) (ev_pos (by rw [hlen]; simp; omega) (ev_pos (by omega) ?_))
    rw [rd_append_at]
    refine ev_neg (by omega) (ev_neg (by omega) (ev_const ?_))
    simp only [Option.bind_some, List.nil_append, Int.toNat_natCast]
    rw [if_pos (by rw [hlen]; simp; omega), if_pos (by simp; omega), if_pos (by simp; omega), if_pos (by simp; omega)]
    simp
  ·
   intro j hj ih
   have h1 := hA (rd A (j : Int)) (rd_mem hj)
   refine Ev.step (fun k => rfl) (ev_pos (by rw [hlen]; omega) (ev_pos (by omega) ?_))
   rw [rd_append_left hj, wr1 (by omega)]
   exact ev_pos h1 ih
 exact key 0 (Nat.zero_le _)
theorem ev_l1Put_old (A C : List Int) (i : Int) (hA : ∀ x ∈ A, x < i) (hl : (A ++ i :: C).length ≤ 6) : Ev (fun k => spec_l1Put.f k (A ++ i :: C) i) (A ++ i :: C) := by
 unfold spec_l1Put.f
 have hlen : (A ++ i :: C).length = A.length + (C.length + 1) := by simp
 have key : ∀ j, j ≤ A.length → Ev (fun k => spec_l1Put.l0 k (A ++ i :: C) i (j : Int)) (A ++ i :: C) := by
  refine up_to _ ?_ ?_
  ·
   refine Ev.step (fun k => rfl) (ev_pos (by rw [hlen]; omega) (ev_pos (by omega) ?_))
   rw [rd_append_at]
   exact ev_neg (by omega) (ev_pos rfl (Ev.now _))
  ·
   intro j hj ih
   have h1 := hA (rd A (j : Int)) (rd_mem hj)
   refine Ev.step (fun k => rfl) (ev_pos (by rw [hlen]; omega) (ev_pos (by omega) ?_))
   rw [rd_append_left hj, wr1 (by omega)]
   exact ev_pos h1 ih
 exact key 0 (Nat.zero_le _)
theorem ev_put (f : List Bool) (i : Nat) (hi : i < f.length) (hl : f.length ≤ 6) : Ev (fun k => spec_l1Put.f k (markL f 0) (i : Int)) (markL (f.set i true) 0) := by
 have e : f = f.take i ++ f[i] :: f.drop (i + 1) := by
  rw [← List.drop_eq_getElem_cons hi, List.take_append_drop]
 have e2 : f.set i true = f.take i ++ true :: f.drop (i + 1) := by
  rw [List.set_eq_take_append_cons_drop, if_pos hi]
 have hlt : (f.take i).length = i := by simp; omega
 have hA : ∀ x ∈ markL (f.take i) 0, x < (i : Int) := by
  intro x hx
  have := markL_mem _ _ _ hx
  rw [hlt] at this
  omega
 have hC : ∀ x ∈ markL (f.drop (i + 1)) (i + 1), (i : Int) < x := by
  intro x hx
  have := markL_mem _ _ _ hx
  omega
 have hm : markL (f.set i true) 0 = markL (f.take i) 0 ++ (i : Int) :: markL (f.drop (i + 1)) (i + 1) := by
  rw [e2, markL_append, hlt]
  simp [markL]
 have hml := markL_length (f.set i true) 0
 rw [List.length_set, hm] at hml
 rw [hm]
 cases hb : f[i] with
 | true =>
  have : markL f 0 = markL (f.take i) 0 ++ (i : Int) :: markL (f.drop (i + 1)) (i + 1) := by
   have e9 : markL f 0 = markL (f.take i ++ f[i] :: f.drop (i + 1)) 0 := congrArg (fun g => markL g 0) e
   rw [e9, markL_append, hlt, hb]
   simp [markL]
  rw [this]
  exact ev_l1Put_old _ _ _ hA (by omega)
 | false =>
  have : markL f 0 = markL (f.take i) 0 ++ markL (f.drop (i + 1)) (i + 1) := by
   have e9 : markL f 0 = markL (f.take i ++ f[i] :: f.drop (i + 1)) 0 := congrArg (fun g => markL g 0) e
   rw [e9, markL_append, hlt, hb]
   simp [markL]
  rw [this]
  exact ev_l1Put_new _ _ _ hA hC (by simp at hml ⊢; omega)
theorem ev_markedOf (f : List Bool) (hl : f.length ≤ 6) : Ev (fun k => impl_markedOf.f k f) (markL f 0) := by
 unfold impl_markedOf.f
 have key : ∀ i, i ≤ f.length → Ev (fun k => impl_markedOf.l0 k (markL (f.take i) 0) f (f.length : Int) (i : Int)) (markL f 0) := by
  refine up_to _ ?_ ?_
  ·
   rw [take_all (Nat.le_refl _)]
   exact Ev.step (fun k => rfl) (ev_neg (by omega) (Ev.now _))
  ·
   intro i hi ih
   have hlt : (f.take i).length = i := by simp; omega
   have hml := markL_length (f.take i) 0
   have er : rdOf false f (i : Int) = f[i] := by
    simp [rdOf, hi]
   rw [List.take_succ_eq_append_getElem hi, markL_append, hlt] at ih
   refine Ev.step (fun k => rfl) (ev_pos (by omega) (ev_pos (by omega) (ev_pos (by omega) ?_)))
   rw [er, wr1 (by omega)]
   cases hb : f[i] with
   | true =>
    rw [hb] at ih
    refine ev_true (ev_pos (by omega) ?_)
    simpa [markL] using ih
   | false =>
    rw [hb] at ih
    refine ev_false ?_
    simpa [markL] using ih
 exact key 0 (Nat.zero_le _)
def orStep (b : Bool) (n : Int) : Bool := b || decide (n > 0)
def orB (f : List Bool) (x : List Int) : List Bool := List.zipWith orStep f x
def reachB (l : List (List Int)) (d : List Int) (p : Int) : Nat → List Int → List Bool → List Bool
  | 0, _, f => f
  | n + 1, x, f => reachB l d p n (delB l d p x) (orB f (delB l d p x))
theorem orB_length {f : List Bool} {x : List Int} (h : f.length = x.length) : (orB f x).length = x.length := by simp [orB, h]
theorem reachB_length {l : List (List Int)} {d : List Int} {p : Int} : ∀ (n : Nat) (x : List Int) (f : List Bool), f.length = l.length → (reachB l d p n x f).length = l.length
  | 0, x, f, h => h
  | n + 1, x, f, h => reachB_length n _ _ (by rw [orB_length (by rw [delB_length]; exact h), delB_length])
theorem or_set {f : List Bool} {x : List Int} (h : f.length = x.length) {j : Nat} (hj : j < x.length) : ((orB f x).take j ++ f.drop j).set j (f[j] || decide (rd x (j : Int) > 0)) = (orB f x).take (j + 1) ++ f.drop (j + 1) := by
 have hl := orB_length h
 rw [List.take_succ_eq_append_getElem (by omega), List.set_append_right _ _ (by simp; omega)]
 have e : j - ((orB f x).take j).length = 0 := by simp; omega
 have e4 : ∀ v, (f.drop j).set 0 v = v :: f.drop (j + 1) := fun v => by
  rw [List.drop_eq_getElem_cons (by omega : j < f.length)]
  rfl
 rw [e, e4, rd_get hj]
 simp [orB, orStep]
theorem or_rd {f : List Bool} {x : List Int} (h : f.length = x.length) {j : Nat} (hj : j < x.length) : rdOf false ((orB f x).take j ++ f.drop j) (j : Int) = f[j] := by
 have hl := orB_length h
 simp only [rdOf, Int.toNat_natCast]
 rw [List.getD_eq_getElem?_getD, List.getElem?_append_right (by simp; omega)]
 have e : j - ((orB f x).take j).length = 0 := by simp; omega
 rw [e]
 simp [show j < f.length by omega]
theorem or_len {f : List Bool} {x : List Int} (h : f.length = x.length) {j : Nat} (hj : j ≤ x.length) : ((orB f x).take j ++ f.drop j).length = x.length := by
 have hl := orB_length h
 simp
 omega
def reachR (l : List (List Int)) (d : List Int) (p j y : Int) : List Int × Bool := if goodB l d p = true ∧ (0 ≤ j ∧ j < (l.length : Int)) ∧ 1 ≤ y ∧ y ≤ 10000 then (markL (reachB l d p 50 ((List.replicate l.length 0).set j.toNat y) (List.replicate l.length false)) 0, true) else ([], false)
theorem start_upto {n : Nat} {j : Nat} {y : Int} (h : 1 ≤ y ∧ y ≤ 10000) : Upto 10000 ((List.replicate n 0).set j y) := by
 intro x hx
 rcases List.mem_or_eq_of_mem_set hx with hx | rfl
 ·
  have := List.eq_of_mem_replicate hx
  omega
 ·
  omega
theorem ev_specTrainsReached (l : List (List Int)) (d : List Int) (p j y : Int) (h : Short l) (hdl : (d.length : Int) ≤ 1048576) : Ev (fun k => spec_TrainsReached.f k l d p j y) (reachR l d p j y) := by
 unfold spec_TrainsReached.f reachR
 have hs := h.1
 refine Ev.bind (ev_dlGood l d p h hdl) ?_
 cases hg : goodB l d p with
 | false => exact ev_false (ev_j (g := fun k b => spec_TrainsReached.j0 k l d p j y b) (fun _ _ => rfl) (fun _ => ev_const (by simp)) (fun hb => nomatch hb))
 | true =>
  have hpl := goodB_plan hg
  have h6 := hpl.tr.six
  refine ev_true (Ev.bind (ev_const (dlTrain_eq l j hs)) ?_)
  by_cases hj : 0 ≤ j ∧ j < (l.length : Int)
  ·
   refine ev_pos (by rw [decide_eq_true_eq]; exact hj) (Ev.bind (ev_const (l1In_eq y 1 10000)) ?_)
   refine ev_j (g := fun k b => spec_TrainsReached.j0 k l d p j y b) (fun _ _ => rfl) (fun hy => ev_const ?_) (fun hy => ?_)
   ·
    rw [if_neg (fun h => by simp at hy; omega)]
   ·
    have hy : 1 ≤ y ∧ y ≤ 10000 := by simp at hy; omega
    rw [if_pos ⟨rfl, hj, hy⟩]
    refine ev_pos (by omega) (ev_pos (by omega) ?_)
    rw [show ((l.length : Int) : Int).toNat = l.length by omega]
    refine Ev.bind (ev_const rfl) (ev_pos hj.1 (ev_pos (by simp; exact hj.2) ?_))
    have key : ∀ m : Nat, ∀ i : Nat, i + m = 50 → ∀ (x : List Int) (f : List Bool), x.length = l.length → Upto 10000 x → f.length = l.length → Ev (fun k => spec_TrainsReached.l0 k l d p x (markL f 0) (i : Int)) (markL (reachB l d p m x f) 0, true) := by
     intro m
     induction m with
     | zero =>
      intro i hi x f hx hu hf
      exact Ev.step (fun k => rfl) (ev_neg (by omega) (Ev.now _))
     | succ m ih =>
      intro i hi x f hx hu hf
      refine Ev.step (fun k => rfl) (ev_pos (by omega) (Ev.bind (ev_dlNext l d p x hpl hx hu) ?_))
      have hdl := delB_length l d p x
      have hdu := delB_upto hg hx hu
      unfold reachB
      generalize delB l d p x = z at hdl hdu ⊢
      have hfz : f.length = z.length := by omega
      have inner : ∀ q, q ≤ z.length → Ev (fun k => spec_TrainsReached.l1 k l d p z (markL ((orB f z).take q ++ f.drop q) 0) (i : Int) z (z.length : Int) (q : Int)) (markL (reachB l d p m z (orB f z)) 0, true) := by
       refine up_to _ ?_ ?_
       ·
        rw [take_all (by rw [orB_length hfz]; exact Nat.le_refl _), drop_all (by omega), List.append_nil]
        refine Ev.step (fun k => rfl) (ev_neg (by omega) ?_)
        rw [wr1 (by omega)]
        exact ih (i + 1) (by omega) z (orB f z) hdl hdu (by rw [orB_length hfz]; exact hdl)
       ·
        intro q hq ih2
        refine Ev.step (fun k => rfl) (ev_pos (by omega) (ev_pos (by omega) (ev_pos (by omega) ?_)))
        rw [wr1 (by omega)]
        have hset := or_set hfz hq
        by_cases hc : rd z (q : Int) > 0
        ·
         refine ev_pos hc (Ev.bind (ev_put _ q (by rw [or_len hfz (by omega)]; exact hq) (by rw [or_len hfz (by omega)]; omega)) ?_)
         rw [decide_eq_true hc, Bool.or_true] at hset
         rw [hset]
         exact ih2
        ·
         refine ev_neg hc ?_
         rw [decide_eq_false hc, Bool.or_false] at hset
         have hself : ((orB f z).take q ++ f.drop q).set q f[q] = (orB f z).take q ++ f.drop q := by
          have hr := or_rd hfz hq
          have hlq := or_len hfz (by omega : q ≤ z.length)
          have : ((orB f z).take q ++ f.drop q)[q]'(by omega) = f[q] := by
           rw [← hr]
           simp only [rdOf, Int.toNat_natCast]
           rw [List.getD_eq_getElem?_getD, List.getElem?_eq_getElem (by omega)]
           rfl
          rw [← this, List.set_getElem_self]
         rw [← hself, hset]
         exact ih2
      have := inner 0 (Nat.zero_le _)
      simpa using this
    have := key 50 0 (by omega) ((List.replicate l.length 0).set j.toNat y) (List.replicate l.length false) (by simp) (start_upto hy) (by simp)
    have e0 : ∀ (m s : Nat), markL (List.replicate m false) s = [] := by
     intro m
     induction m with
     | zero => intro s; rfl
     | succ m ih => intro s; rw [List.replicate_succ]; unfold markL; rw [ih]; rfl
    rw [e0] at this
    exact this
  ·
   refine ev_neg (by rw [decide_eq_true_eq]; exact hj) (ev_j (g := fun k b => spec_TrainsReached.j0 k l d p j y b) (fun _ _ => rfl) (fun _ => ev_const ?_) (fun hb => nomatch hb))
   rw [if_neg (fun h => hj h.2.1)]
theorem ev_implTrainsReached (l : List (List Int)) (d : List Int) (p j y : Int) (h : Short l) : Ev (fun k => impl_TrainsReached.f k l d p j y) (reachR l d p j y) := by
 unfold impl_TrainsReached.f reachR
 have hs := h.1
 refine Ev.bind (ev_planOf l d p h) ?_
 dsimp only
 cases hg : goodB l d p with
 | false => exact ev_false (ev_j (g := fun k b => impl_TrainsReached.j0 k l j y b l d p) (fun _ _ => rfl) (fun _ => ev_const (by simp)) (fun hb => nomatch hb))
 | true =>
  have hpl := goodB_plan hg
  have h6 := hpl.tr.six
  refine ev_true (Ev.bind (ev_const (areVertices_eq l [j] hs)) ?_)
  cases hv : inB l [j] with
  | false =>
   refine ev_false (ev_j (g := fun k b => impl_TrainsReached.j0 k l j y b l d p) (fun _ _ => rfl) (fun _ => ev_const ?_) (fun hb => nomatch hb))
   rw [if_neg (fun h => by simp [inB] at hv; omega)]
  | true =>
   have hj : 0 ≤ j ∧ j < (l.length : Int) := by simp [inB] at hv; omega
   refine ev_true (Ev.bind (ev_const (within_eq y 1 10000)) ?_)
   refine ev_j (g := fun k b => impl_TrainsReached.j0 k l j y b l d p) (fun _ _ => rfl) (fun hy => ev_const ?_) (fun hy => ?_)
   ·
    rw [if_neg (fun h => by simp at hy; omega)]
   ·
    have hy : 1 ≤ y ∧ y ≤ 10000 := by simp at hy; omega
    rw [if_pos ⟨rfl, hj, hy⟩]
    refine ev_pos (by omega) (ev_pos (by omega) ?_)
    rw [show ((l.length : Int) : Int).toNat = l.length by omega]
    refine Ev.bind (ev_const rfl) (ev_pos (by omega) (ev_pos hj.1 (ev_pos (by simp; exact hj.2) ?_)))
    have key : ∀ m : Nat, ∀ i : Nat, i + m = 50 → ∀ (x : List Int) (f : List Bool), x.length = l.length → Upto 10000 x → f.length = l.length → Ev (fun k => impl_TrainsReached.l0 k x f (i : Int) l d p) (markL (reachB l d p m x f) 0, true) := by
     intro m
     induction m with
     | zero =>
      intro i hi x f hx hu hf
      exact Ev.step (fun k => rfl) (ev_neg (by omega) (ev_bind0 (ev_markedOf f (by omega)) rfl))
     | succ m ih =>
      intro i hi x f hx hu hf
      refine Ev.step (fun k => rfl) (ev_pos (by omega) (Ev.bind (ev_const (planNext_eq l d p x hpl hx hu)) ?_))
      have hdl := delB_length l d p x
      have hdu := delB_upto hg hx hu
      unfold reachB
      generalize delB l d p x = z at hdl hdu ⊢
      have hfz : f.length = z.length := by omega
      have inner : ∀ q, q ≤ z.length → Ev (fun k => impl_TrainsReached.l1 k z ((orB f z).take q ++ f.drop q) (i : Int) z (z.length : Int) (q : Int) l d p) (markL (reachB l d p m z (orB f z)) 0, true) := by
       refine up_to _ ?_ ?_
       ·
        rw [take_all (by rw [orB_length hfz]; exact Nat.le_refl _), drop_all (by omega), List.append_nil]
        refine Ev.step (fun k => rfl) (ev_neg (by omega) ?_)
        rw [wr1 (by omega)]
        exact ih (i + 1) (by omega) z (orB f z) hdl hdu (by rw [orB_length hfz]; exact hdl)
       ·
        intro q hq ih2
        have hr := or_rd hfz hq
        have hset := or_set hfz hq
        refine Ev.step (fun k => rfl) (ev_pos (by omega) (ev_pos (by omega) (ev_pos (by omega) (ev_pos (by rw [or_len hfz (by omega)]; omega) ?_))))
        rw [hr, wr1 (by omega), Int.toNat_natCast]
        cases hb : f[q] with
        | true =>
         rw [hb, Bool.true_or] at hset
         refine ev_true ?_
         rw [hset]
         exact ih2
        | false =>
         rw [hb, Bool.false_or] at hset
         refine ev_false ?_
         rw [hset]
         exact ih2
      have := inner 0 (Nat.zero_le _)
      simpa using this
    exact key 50 0 (by omega) ((List.replicate l.length 0).set j.toNat y) (List.replicate l.length false) (by simp) (start_upto hy) (by simp)
theorem reachR_length {l : List (List Int)} {d : List Int} {p j y : Int} : (reachR l d p j y).1.length ≤ 6 := by
 unfold reachR
 split
 ·
  rename_i h
  have h6 := (goodB_plan h.1).tr.six
  have := markL_length (reachB l d p 50 ((List.replicate l.length 0).set j.toNat y) (List.replicate l.length false)) 0
  rw [reachB_length 50 _ _ (by simp)] at this
  dsimp only
  omega
 ·
  simp
end Go.Proofs.Ytebjiooojkhkpaa.Pure

/- The least buffer, critical waits: the program and the reference come to the same. Condition: lists no longer than memory allows. -/
namespace Go.Proofs.Ytebjiooojkhkpaa.Pure
open Go.RowKit Go.Proofs.Ytebjiooojkhkpaa.X Go.Proofs.YtebjiooojkhkpaaW.PrintWords Go.Proofs.YtebjiooojkhkpaaW.PrintMore
set_option linter.unusedVariables false
set_option linter.unusedSimpArgs false

def critRow (l : List (List Int)) (d : List Int) (p : Int) (i : Int) : Nat → Nat → List (List Int) → List (List Int)
  | 0, _, s => s
  | f + 1, j, s => critRow l d p i f (j + 1) (if rd (rd_L1 l i) (j : Int) = 1000000000 then s else if bufB l d p i (j : Int) = 0 then s ++ [[i, (j : Int)]] else s)
def critAll (l : List (List Int)) (d : List Int) (p : Int) : Nat → Nat → List (List Int) → List (List Int)
  | 0, _, s => s
  | f + 1, i, s => critAll l d p f (i + 1) (critRow l d p (i : Int) l.length 0 s)
theorem critRow_length (l : List (List Int)) (d : List Int) (p i : Int) : ∀ (f j : Nat) (s : List (List Int)), (critRow l d p i f j s).length ≤ s.length + f
  | 0, _, s => by simp [critRow]
  | f + 1, j, s => by
    unfold critRow
    have := critRow_length l d p i f (j + 1) (if rd (rd_L1 l i) (j : Int) = 1000000000 then s else if bufB l d p i (j : Int) = 0 then s ++ [[i, (j : Int)]] else s)
    have h2 : (if rd (rd_L1 l i) (j : Int) = 1000000000 then s else if bufB l d p i (j : Int) = 0 then s ++ [[i, (j : Int)]] else s).length ≤ s.length + 1 := by
      split
      · omega
      · split
        · simp
        · omega
    omega
theorem critAll_length (l : List (List Int)) (d : List Int) (p : Int) : ∀ (f i : Nat) (s : List (List Int)), (critAll l d p f i s).length ≤ s.length + f * l.length
  | 0, _, s => by simp [critAll]
  | f + 1, i, s => by
    unfold critAll
    have h1 := critAll_length l d p f (i + 1) (critRow l d p (i : Int) l.length 0 s)
    have h2 := critRow_length l d p (i : Int) l.length 0 s
    rw [Nat.succ_mul]
    omega
theorem critRow_two (l : List (List Int)) (d : List Int) (p i : Int) : ∀ (f j : Nat) (s : List (List Int)), (∀ r ∈ s, r.length ≤ 6) → ∀ r ∈ critRow l d p i f j s, r.length ≤ 6
  | 0, _, s, h => h
  | f + 1, j, s, h => by
    unfold critRow
    refine critRow_two l d p i f (j + 1) _ ?_
    split
    · exact h
    · split
      · intro r hr
        rcases List.mem_append.1 hr with hr | hr
        · exact h r hr
        · simp at hr
          subst hr
          simp
      · exact h
theorem critAll_two (l : List (List Int)) (d : List Int) (p : Int) : ∀ (f i : Nat) (s : List (List Int)), (∀ r ∈ s, r.length ≤ 6) → ∀ r ∈ critAll l d p f i s, r.length ≤ 6
  | 0, _, s, h => h
  | f + 1, i, s, h => critAll_two l d p f (i + 1) _ (critRow_two l d p (i : Int) l.length 0 s h)
theorem sum_le_six {l : List (List Int)} (h : ∀ r ∈ l, r.length ≤ 6) : (l.map List.length).sum ≤ 6 * l.length := by
 induction l with
 | nil => simp
 | cons r t ih =>
  have h1 := h r (List.mem_cons_self ..)
  have h2 := ih (fun x hx => h x (List.mem_cons_of_mem _ hx))
  simp only [List.map_cons, List.sum_cons, List.length_cons]
  omega
def critR (l : List (List Int)) (d : List Int) (p : Int) : List (List Int) × Bool := if goodB l d p = true then (critAll l d p l.length 0 [], true) else ([], false)
theorem six_sq {n : Nat} (h : n ≤ 6) (f : Nat) (hf : f ≤ 6) : f * n ≤ 36 := Nat.mul_le_mul hf h
theorem ev_specCriticalWaits (l : List (List Int)) (d : List Int) (p : Int) (h : Short l) (hdl : (d.length : Int) ≤ 1048576) : Ev (fun k => spec_CriticalWaits.f k l d p) (critR l d p) := by
 unfold spec_CriticalWaits.f critR
 refine Ev.bind (ev_dlGood l d p h hdl) ?_
 cases hg : goodB l d p with
 | false => exact ev_false (ev_const (by simp))
 | true =>
  have hpl := goodB_plan hg
  have h6 := hpl.tr.six
  rw [if_pos rfl]
  refine ev_true ?_
  have key : ∀ f i, i + f = l.length → ∀ s, s.length ≤ i * l.length → Ev (fun k => spec_CriticalWaits.l0 k l d p s l (l.length : Int) (i : Int)) (critAll l d p f i s, true) := by
   intro f
   induction f with
   | zero =>
    intro i hi s hs
    exact Ev.step (fun k => rfl) (ev_neg (by omega) (Ev.now _))
   | succ f ih =>
    intro i hi s hs
    have hw := wide_rrd hpl.tr.wide (by omega : i < l.length)
    have hil := six_sq h6 i (by omega)
    refine Ev.step (fun k => rfl) (ev_pos (by omega) (ev_pos (by omega) (ev_pos (by omega) ?_)))
    unfold critAll
    have hcl := critRow_length l d p (i : Int) l.length 0 s
    generalize hR : critRow l d p (i : Int) l.length 0 s = R at hcl ⊢
    have inner : ∀ g j, j + g = l.length → ∀ t, t.length ≤ i * l.length + j → critRow l d p (i : Int) g j t = R → Ev (fun k => spec_CriticalWaits.l1 k l d p t (i : Int) l (l.length : Int) (i : Int) (rd_L1 l (i : Int)) ((rd_L1 l (i : Int)).length : Int) (j : Int)) (critAll l d p f (i + 1) R, true) := by
     intro g
     induction g with
     | zero =>
      intro j hj t ht he
      have he : t = R := he
      refine Ev.step (fun k => rfl) (ev_neg (by omega) ?_)
      rw [wr1 (by omega), he]
      exact ih (i + 1) (by omega) _ (by rw [Nat.succ_mul]; omega)
     | succ g ih2 =>
      intro j hj t ht he
      unfold critRow at he
      refine Ev.step (fun k => rfl) (ev_pos (by omega) (ev_pos (by omega) (ev_pos (by omega) ?_)))
      rw [wr1 (by omega)]
      by_cases hx : rd (rd_L1 l (i : Int)) (j : Int) = 1000000000
      ·
       rw [if_pos hx] at he
       exact ev_pos hx (ih2 (j + 1) (by omega) t (by omega) he)
      ·
       rw [if_neg hx] at he
       refine ev_neg hx (Ev.bind (ev_const (dlBuffer_eq hpl (by omega) (by omega) (by omega) (by omega))) ?_)
       by_cases hb : bufB l d p (i : Int) (j : Int) = 0
       ·
        rw [if_pos hb] at he
        exact ev_pos hb (ev_pos (by omega) (ih2 (j + 1) (by omega) _ (by simp; omega) he))
       ·
        rw [if_neg hb] at he
        exact ev_neg hb (ih2 (j + 1) (by omega) t (by omega) he)
    exact inner l.length 0 (by omega) s (by omega) hR
  exact key l.length 0 (by omega) [] (by simp)
theorem planCritRow {l : List (List Int)} {d : List Int} {p : Int} (h : Plan l d p) {i : Nat} (hi : i < l.length) : ∀ (f j : Nat) (s : List (List Int)), j + f = l.length → s.length ≤ i * l.length + j →
    impl_plan_next.row (fun i j => impl_plan_waits.f l d p i j) (fun s i j => impl_CriticalWaits.step l d p s i j) (i : Int) f j s = some (critRow l d p (i : Int) f j s)
  | 0, j, s, _, _ => rfl
  | f + 1, j, s, hf, hs => by
    have h6 := h.tr.six
    have hil := six_sq h6 i (by omega)
    unfold impl_plan_next.row critRow
    rw [waits_eq h.tr (by omega) (by omega) (by omega) (by omega), Option.bind_some]
    by_cases e : rd (rd_L1 l (i : Int)) (j : Int) = 1000000000
    · rw [if_neg (by simp [e]), Option.bind_some, if_pos e]
      exact planCritRow h hi f (j + 1) s (by omega) (by omega)
    · rw [if_pos (by simp [e]), if_neg e]
      have hst : impl_CriticalWaits.step l d p s (i : Int) (j : Int) = some (if bufB l d p (i : Int) (j : Int) = 0 then s ++ [[(i : Int), (j : Int)]] else s) := by
        unfold impl_CriticalWaits.step
        rw [planBuffer_eq h (by omega) (by omega) (by omega) (by omega), Option.bind_some]
        by_cases hb : bufB l d p (i : Int) (j : Int) = 0
        · rw [if_pos hb, if_pos hb, if_pos (by omega)]
        · rw [if_neg hb, if_neg hb]
      rw [hst, Option.bind_some]
      refine planCritRow h hi f (j + 1) _ (by omega) ?_
      split
      · simp; omega
      · omega
theorem planCritAll {l : List (List Int)} {d : List Int} {p : Int} (h : Plan l d p) : ∀ (f i : Nat) (s : List (List Int)), i + f = l.length → s.length ≤ i * l.length →
    impl_plan_next.all (fun i j => impl_plan_waits.f l d p i j) (fun s i j => impl_CriticalWaits.step l d p s i j) l.length f i s = some (critAll l d p f i s)
  | 0, i, s, _, _ => rfl
  | f + 1, i, s, hf, hs => by
    unfold impl_plan_next.all critAll
    have := critRow_length l d p (i : Int) l.length 0 s
    rw [planCritRow h (by omega) l.length 0 s (by omega) (by omega), Option.bind_some]
    exact planCritAll h f (i + 1) _ (by omega) (by rw [Nat.succ_mul]; omega)
theorem ev_implCriticalWaits (l : List (List Int)) (d : List Int) (p : Int) (h : Short l) : Ev (fun k => impl_CriticalWaits.f k l d p) (critR l d p) := by
 unfold impl_CriticalWaits.f critR
 refine Ev.bind (ev_planOf l d p h) ?_
 dsimp only
 cases hg : goodB l d p with
 | false => exact ev_false (ev_const (by simp))
 | true =>
  have hpl := goodB_plan hg
  refine ev_true (ev_bind0 (ev_const (planCritAll hpl l.length 0 [] (by omega) (by simp))) (by simp))
theorem critR_size {l : List (List Int)} {d : List Int} {p : Int} : (critR l d p).1.length + ((critR l d p).1.map List.length).sum ≤ 1048576 := by
 unfold critR
 split
 ·
  rename_i hg
  have h6 := (goodB_plan hg).tr.six
  have h1 := critAll_length l d p l.length 0 []
  have h2 := six_sq h6 l.length h6
  have := sum_le_six (critAll_two l d p l.length 0 [] (by simp))
  dsimp only
  simp at h1
  omega
 ·
  simp
end Go.Proofs.Ytebjiooojkhkpaa.Pure

/- The least buffer: the program and the reference come to the same. Condition: lists no longer than memory allows. -/
namespace Go.Proofs.Ytebjiooojkhkpaa.Pure
open Go.RowKit Go.Proofs.Ytebjiooojkhkpaa.X Go.Proofs.YtebjiooojkhkpaaW.PrintWords Go.Proofs.YtebjiooojkhkpaaW.PrintMore
set_option linter.unusedVariables false
set_option linter.unusedSimpArgs false

def lbStep (l : List (List Int)) (d : List Int) (p i j : Int) (s : Int × Int × Bool) : Int × Int × Bool := if rd (rd_L1 l i) j = 1000000000 then s else if s.2.2 = true then (if bufB l d p i j < bufB l d p s.1 s.2.1 then (i, j, true) else s) else (i, j, true)
def lbRow (l : List (List Int)) (d : List Int) (p : Int) (i : Int) : Nat → Nat → Int × Int × Bool → Int × Int × Bool
  | 0, _, s => s
  | f + 1, j, s => lbRow l d p i f (j + 1) (lbStep l d p i (j : Int) s)
def lbAll (l : List (List Int)) (d : List Int) (p : Int) : Nat → Nat → Int × Int × Bool → Int × Int × Bool
  | 0, _, s => s
  | f + 1, i, s => lbAll l d p f (i + 1) (lbRow l d p (i : Int) l.length 0 s)
def LbOk (l : List (List Int)) (s : Int × Int × Bool) : Prop := s.2.2 = true → (0 ≤ s.1 ∧ s.1 < (l.length : Int)) ∧ (0 ≤ s.2.1 ∧ s.2.1 < (l.length : Int))
theorem lbStep_ok {l : List (List Int)} {d : List Int} {p : Int} {i j : Nat} (hi : i < l.length) (hj : j < l.length) {s : Int × Int × Bool} (h : LbOk l s) : LbOk l (lbStep l d p (i : Int) (j : Int) s) := by
 unfold lbStep
 split
 ·
  exact h
 ·
  split
  ·
   split
   ·
    exact fun _ => ⟨⟨Int.natCast_nonneg _, Int.ofNat_lt.2 hi⟩, ⟨Int.natCast_nonneg _, Int.ofNat_lt.2 hj⟩⟩
   ·
    exact h
  ·
   exact fun _ => ⟨⟨Int.natCast_nonneg _, Int.ofNat_lt.2 hi⟩, ⟨Int.natCast_nonneg _, Int.ofNat_lt.2 hj⟩⟩
theorem lbRow_ok {l : List (List Int)} {d : List Int} {p : Int} {i : Nat} (hi : i < l.length) : ∀ (f j : Nat) (s : Int × Int × Bool), j + f = l.length → LbOk l s → LbOk l (lbRow l d p (i : Int) f j s)
  | 0, _, s, _, h => h
  | f + 1, j, s, hf, h => lbRow_ok hi f (j + 1) _ (by omega) (lbStep_ok hi (by omega) h)
theorem lbStep_found {l : List (List Int)} {d : List Int} {p i j : Int} {s : Int × Int × Bool} (h : s.2.2 = true ∨ rd (rd_L1 l i) j ≠ 1000000000) : (lbStep l d p i j s).2.2 = true := by
 unfold lbStep
 split
 ·
  rename_i e
  rcases h with h | h
  ·
   exact h
  ·
   exact absurd e h
 ·
  split
  ·
   rename_i h2
   split
   ·
    rfl
   ·
    exact h2
  ·
   rfl
theorem lbRow_keeps {l : List (List Int)} {d : List Int} {p i : Int} : ∀ (f j : Nat) (s : Int × Int × Bool), s.2.2 = true → (lbRow l d p i f j s).2.2 = true
  | 0, _, s, h => h
  | f + 1, j, s, h => lbRow_keeps f (j + 1) _ (lbStep_found (.inl h))
theorem lbRow_found {l : List (List Int)} {d : List Int} {p i : Int} : ∀ (f j : Nat) (s : Int × Int × Bool), (∃ j' : Nat, j ≤ j' ∧ j' < j + f ∧ rd (rd_L1 l i) (j' : Int) ≠ 1000000000) → (lbRow l d p i f j s).2.2 = true
  | 0, j, s, h => by obtain ⟨j', h1, h2, _⟩ := h; omega
  | f + 1, j, s, h => by
    obtain ⟨j', h1, h2, h3⟩ := h
    unfold lbRow
    by_cases e : j' = j
    · subst e
      exact lbRow_keeps f _ _ (lbStep_found (.inr h3))
    · exact lbRow_found f (j + 1) _ ⟨j', by omega, by omega, h3⟩
theorem lbAll_keeps {l : List (List Int)} {d : List Int} {p : Int} : ∀ (f i : Nat) (s : Int × Int × Bool), s.2.2 = true → (lbAll l d p f i s).2.2 = true
  | 0, _, s, h => h
  | f + 1, i, s, h => lbAll_keeps f (i + 1) _ (lbRow_keeps l.length 0 s h)
theorem lbAll_ok {l : List (List Int)} {d : List Int} {p : Int} : ∀ (f i : Nat) (s : Int × Int × Bool), i + f = l.length → LbOk l s → LbOk l (lbAll l d p f i s)
  | 0, _, s, _, h => h
  | f + 1, i, s, hf, h => lbAll_ok f (i + 1) _ (by omega) (lbRow_ok (by omega) l.length 0 s (by omega) h)
theorem lbAll_found {l : List (List Int)} {d : List Int} {p : Int} (h : goodB l d p = true) : (lbAll l d p l.length 0 (0, 0, false)).2.2 = true := by
 have ht := (goodB_plan h).tr
 simp only [goodB, bothB, trB, Bool.and_eq_true, List.all_eq_true] at h
 have hrow := h.1.1.2
 have hpos := ht.pos
 obtain ⟨n, hn⟩ : ∃ n, l.length = n + 1 := ⟨l.length - 1, by omega⟩
 rw [hn]
 unfold lbAll
 refine lbAll_keeps n _ _ (lbRow_found l.length 0 _ ?_)
 have hm := rrd_mem (by omega : 0 < l.length)
 have hw := ht.wide _ hm
 have h2 := hrow _ hm
 simp only [trowB, Bool.and_eq_true, List.any_eq_true] at h2
 obtain ⟨x, hx, hne⟩ := h2.2
 obtain ⟨j, hj, e⟩ := List.mem_iff_getElem.1 hx
 refine ⟨j, Nat.zero_le _, by omega, ?_⟩
 rw [rd_get hj, e]
 simpa [neB] using hne
def lbA (s : Int × Int × Bool) : Int := if s.2.2 = true then s.1 else -1
def lbB (s : Int × Int × Bool) : Int := if s.2.2 = true then s.2.1 else -1
def lbC (l : List (List Int)) (d : List Int) (p : Int) (s : Int × Int × Bool) : Int := if s.2.2 = true then bufB l d p s.1 s.2.1 else 0
def lbR (l : List (List Int)) (d : List Int) (p : Int) : Int × Int × Int × Bool := if goodB l d p = true then ((lbAll l d p l.length 0 (0, 0, false)).1, (lbAll l d p l.length 0 (0, 0, false)).2.1, bufB l d p (lbAll l d p l.length 0 (0, 0, false)).1 (lbAll l d p l.length 0 (0, 0, false)).2.1, true) else (0, 0, 0, false)
theorem ev_specLeastBuffer (l : List (List Int)) (d : List Int) (p : Int) (h : Short l) (hdl : (d.length : Int) ≤ 1048576) : Ev (fun k => spec_LeastBuffer.f k l d p) (lbR l d p) := by
 unfold spec_LeastBuffer.f lbR
 refine Ev.bind (ev_dlGood l d p h hdl) ?_
 cases hg : goodB l d p with
 | false => exact ev_false (ev_const (by simp))
 | true =>
  have hpl := goodB_plan hg
  have h6 := hpl.tr.six
  have hfound := lbAll_found hg
  rw [if_pos rfl]
  refine ev_true ?_
  generalize hs : lbAll l d p l.length 0 (0, 0, false) = S at hfound
  have key : ∀ f i, i + f = l.length → ∀ s, LbOk l s → lbAll l d p f i s = S → Ev (fun k => spec_LeastBuffer.l0 k l d p (lbA s) (lbB s) (lbC l d p s) l (l.length : Int) (i : Int)) (S.1, S.2.1, bufB l d p S.1 S.2.1, true) := by
   intro f
   induction f with
   | zero =>
    intro i hi s ho hs
    have hs : s = S := hs
    subst hs
    refine Ev.step (fun k => rfl) (ev_neg (by omega) (ev_const ?_))
    simp [lbA, lbB, lbC, hfound]
   | succ f ih =>
    intro i hi s ho hs
    have hw := wide_rrd hpl.tr.wide (by omega : i < l.length)
    refine Ev.step (fun k => rfl) (ev_pos (by omega) (ev_pos (by omega) (ev_pos (by omega) ?_)))
    unfold lbAll at hs
    generalize hR : lbRow l d p (i : Int) l.length 0 s = R at hs
    have inner : ∀ g j, j + g = l.length → ∀ t, LbOk l t → lbRow l d p (i : Int) g j t = R → Ev (fun k => spec_LeastBuffer.l1 k l d p (lbA t) (lbB t) (lbC l d p t) (i : Int) l (l.length : Int) (i : Int) (rd_L1 l (i : Int)) ((rd_L1 l (i : Int)).length : Int) (j : Int)) (S.1, S.2.1, bufB l d p S.1 S.2.1, true) := by
     intro g
     induction g with
     | zero =>
      intro j hj t ht he
      have he : t = R := he
      refine Ev.step (fun k => rfl) (ev_neg (by omega) ?_)
      rw [wr1 (by omega)]
      exact ih (i + 1) (by omega) t ht (he ▸ hs)
     | succ g ih2 =>
      intro j hj t ht he
      unfold lbRow at he
      have hst := lbStep_ok (d := d) (p := p) (by omega : i < l.length) (by omega : j < l.length) ht
      have IH := ih2 (j + 1) (by omega) _ hst he
      refine Ev.step (fun k => rfl) (ev_pos (by omega) (ev_pos (by omega) (ev_pos (by omega) ?_)))
      rw [wr1 (by omega)]
      by_cases hx : rd (rd_L1 l (i : Int)) (j : Int) = 1000000000
      ·
       refine ev_pos hx ?_
       unfold lbStep at IH
       rwa [if_pos hx] at IH
      ·
       refine ev_neg hx (Ev.bind (ev_const (dlBuffer_eq hpl (by omega) (by omega) (by omega) (by omega))) ?_)
       unfold lbStep at IH
       rw [if_neg hx] at IH
       cases ht2 : t.2.2 with
       | false =>
        rw [ht2, if_neg (by simp)] at IH
        have ea : lbA t = -1 := by simp [lbA, ht2]
        exact ev_pos (by rw [ea]; omega) IH
       | true =>
        rw [ht2, if_pos rfl] at IH
        have hok := ht ht2
        have ea : lbA t = t.1 := by simp [lbA, ht2]
        have ec : lbC l d p t = bufB l d p t.1 t.2.1 := by simp [lbC, ht2]
        refine ev_neg (by rw [ea]; omega) ?_
        by_cases hb : bufB l d p (i : Int) (j : Int) < bufB l d p t.1 t.2.1
        ·
         rw [if_pos hb] at IH
         exact ev_pos (by rw [ec]; exact hb) IH
        ·
         rw [if_neg hb] at IH
         exact ev_neg (by rw [ec]; exact hb) IH
    exact inner l.length 0 (by omega) s ho hR
  exact key l.length 0 (by omega) (0, 0, false) (fun h => nomatch h) hs
theorem planLbRow {l : List (List Int)} {d : List Int} {p : Int} (h : Plan l d p) {i : Nat} (hi : i < l.length) : ∀ (f j : Nat) (s : Int × Int × Bool), j + f = l.length → LbOk l s →
    impl_plan_next.row (fun i j => impl_plan_waits.f l d p i j) (fun s i j => impl_LeastBuffer.step l d p s i j) (i : Int) f j s = some (lbRow l d p (i : Int) f j s)
  | 0, j, s, _, _ => rfl
  | f + 1, j, s, hf, hs => by
    unfold impl_plan_next.row lbRow
    have hst := lbStep_ok (d := d) (p := p) hi (by omega : j < l.length) hs
    rw [waits_eq h.tr (by omega) (by omega) (by omega) (by omega), Option.bind_some]
    by_cases e : rd (rd_L1 l (i : Int)) (j : Int) = 1000000000
    · have e2 : lbStep l d p (i : Int) (j : Int) s = s := by unfold lbStep; rw [if_pos e]
      rw [if_neg (by simp [e]), Option.bind_some, e2]
      exact planLbRow h hi f (j + 1) s (by omega) hs
    · rw [if_pos (by simp [e])]
      have e1 : impl_LeastBuffer.step l d p s (i : Int) (j : Int) = some (lbStep l d p (i : Int) (j : Int) s) := by
        unfold impl_LeastBuffer.step lbStep
        rw [if_neg e]
        cases hb : s.2.2 with
        | false => rfl
        | true =>
          have hok := hs hb
          rw [if_pos rfl, if_pos rfl, planBuffer_eq h (by omega) (by omega) (by omega) (by omega), Option.bind_some, planBuffer_eq h hok.1.1 hok.1.2 hok.2.1 hok.2.2, Option.bind_some]
      rw [e1, Option.bind_some]
      exact planLbRow h hi f (j + 1) _ (by omega) hst
theorem planLbAll {l : List (List Int)} {d : List Int} {p : Int} (h : Plan l d p) : ∀ (f i : Nat) (s : Int × Int × Bool), i + f = l.length → LbOk l s →
    impl_plan_next.all (fun i j => impl_plan_waits.f l d p i j) (fun s i j => impl_LeastBuffer.step l d p s i j) l.length f i s = some (lbAll l d p f i s)
  | 0, i, s, _, _ => rfl
  | f + 1, i, s, hf, hs => by
    unfold impl_plan_next.all lbAll
    rw [planLbRow h (by omega) l.length 0 s (by omega) hs, Option.bind_some]
    exact planLbAll h f (i + 1) _ (by omega) (lbRow_ok (by omega) l.length 0 s (by omega) hs)
theorem ev_implLeastBuffer (l : List (List Int)) (d : List Int) (p : Int) (h : Short l) : Ev (fun k => impl_LeastBuffer.f k l d p) (lbR l d p) := by
 unfold impl_LeastBuffer.f lbR
 refine Ev.bind (ev_planOf l d p h) ?_
 dsimp only
 cases hg : goodB l d p with
 | false => exact ev_false (ev_const (by simp))
 | true =>
  have hpl := goodB_plan hg
  have hok := lbAll_ok (l := l) (d := d) (p := p) l.length 0 (0, 0, false) (by omega) (fun h => nomatch h)
  have hf := hok (lbAll_found hg)
  refine ev_true (ev_bind0 (ev_const (planLbAll hpl l.length 0 (0, 0, false) (by omega) (fun h => nomatch h))) ?_)
  rw [planBuffer_eq hpl hf.1.1 hf.1.2 hf.2.1 hf.2.2, Option.bind_some, if_pos rfl]
end Go.Proofs.Ytebjiooojkhkpaa.Pure

/- For all bytes the law FnBuffers answers true: critical waits have no buffer, harmless delays reach no other train, and reached trains are told. Condition: none but what the row says of sizes. -/
namespace Go.Proofs.Ytebjiooojkhkpaa.Pure
open Go.RowKit Go.Proofs.Ytebjiooojkhkpaa.X Go.Proofs.YtebjiooojkhkpaaW.PrintWords Go.Proofs.YtebjiooojkhkpaaW.PrintLast
set_option linter.unusedVariables false
set_option linter.unusedSimpArgs false

theorem ev_qIntsB (a b : List Int) (hn : (a.length : Int) ≤ 140737488355328) : Ev (fun k => laws_qInts.f k a b) (decide (a = b)) := by
 unfold laws_qInts.f
 by_cases h : a.length = b.length
 ·
  exact ev_pos (by omega) (ev_same (L := fun k i => laws_qInts.l0 k a b (a.length : Int) i) hn h (fun k i => by rw [laws_qInts.l0]; by_cases c : i < (a.length : Int) <;> simp only [c, if_true, if_false]))
 ·
  refine ev_neg (by omega) (ev_const ?_)
  have : ¬ a = b := fun e => h (by rw [e])
  simp [this]
theorem ev_qLists (a : List (List Int)) (hn : (a.length : Int) ≤ 1048576) (hr : ∀ r ∈ a, (r.length : Int) ≤ 1048576) : Ev (fun k => laws_qLists.f k a a) true := by
 unfold laws_qLists.f
 refine ev_pos rfl ?_
 have key : ∀ i, i ≤ a.length → Ev (fun k => laws_qLists.l0 k a a (a.length : Int) (i : Int)) true := by
  refine up_to _ ?_ ?_
  ·
   exact Ev.step (fun k => rfl) (ev_neg (by omega) (Ev.now true))
  ·
   intro i hi ih
   have e := ev_qIntsB (rd_L1 a (i : Int)) (rd_L1 a (i : Int)) (by have := hr _ (rrd_mem hi); omega)
   rw [decide_eq_true rfl] at e
   refine Ev.step (fun k => rfl) (ev_pos (by omega) (ev_pos (by omega) (ev_pos (by omega) (ev_pos (by omega) (Ev.bind e (ev_true ?_))))))
   rw [wr1 (by omega)]
   exact ih
 exact key 0 (Nat.zero_le _)

theorem critRow_mem {l : List (List Int)} {d : List Int} {p i : Int} {r : List Int} : ∀ (f j : Nat) (s : List (List Int)), r ∈ critRow l d p i f j s → r ∈ s ∨ ∃ j' : Nat, j ≤ j' ∧ j' < j + f ∧ r = [i, (j' : Int)] ∧ rd (rd_L1 l i) (j' : Int) ≠ 1000000000 ∧ bufB l d p i (j' : Int) = 0
  | 0, j, s, h => .inl h
  | f + 1, j, s, h => by
    unfold critRow at h
    rcases critRow_mem f (j + 1) _ h with h | ⟨j', h1, h2, h3⟩
    · split at h
      · exact .inl h
      · rename_i e
        split at h
        · rename_i e2
          rcases List.mem_append.1 h with h | h
          · exact .inl h
          · simp at h
            exact .inr ⟨j, Nat.le_refl _, by omega, h, e, e2⟩
        · exact .inl h
    · exact .inr ⟨j', by omega, by omega, h3⟩
theorem critAll_mem {l : List (List Int)} {d : List Int} {p : Int} {r : List Int} : ∀ (f i : Nat) (s : List (List Int)), r ∈ critAll l d p f i s → r ∈ s ∨ ∃ i' j' : Nat, i ≤ i' ∧ i' < i + f ∧ j' < l.length ∧ r = [(i' : Int), (j' : Int)] ∧ rd (rd_L1 l (i' : Int)) (j' : Int) ≠ 1000000000 ∧ bufB l d p (i' : Int) (j' : Int) = 0
  | 0, i, s, h => .inl h
  | f + 1, i, s, h => by
    unfold critAll at h
    rcases critAll_mem f (i + 1) _ h with h | ⟨i', j', h1, h2, h3⟩
    · rcases critRow_mem l.length 0 s h with h | ⟨j', h1, h2, h3⟩
      · exact .inl h
      · exact .inr ⟨i, j', Nat.le_refl _, by omega, by omega, h3⟩
    · exact .inr ⟨i', j', by omega, by omega, h3⟩
theorem critRow_keep {l : List (List Int)} {d : List Int} {p i : Int} {r : List Int} : ∀ (f j : Nat) (s : List (List Int)), r ∈ s → r ∈ critRow l d p i f j s
  | 0, j, s, h => h
  | f + 1, j, s, h => by
    unfold critRow
    refine critRow_keep f (j + 1) _ ?_
    split
    · exact h
    · split
      · exact List.mem_append_left _ h
      · exact h
theorem critRow_has {l : List (List Int)} {d : List Int} {p i : Int} {j' : Nat} (h1 : rd (rd_L1 l i) (j' : Int) ≠ 1000000000) (h2 : bufB l d p i (j' : Int) = 0) : ∀ (f j : Nat) (s : List (List Int)), j ≤ j' → j' < j + f → [i, (j' : Int)] ∈ critRow l d p i f j s
  | 0, j, s, h3, h4 => by omega
  | f + 1, j, s, h3, h4 => by
    unfold critRow
    by_cases e : j' = j
    · subst e
      rw [if_neg h1, if_pos h2]
      exact critRow_keep f _ _ (List.mem_append_right _ (by simp))
    · exact critRow_has h1 h2 f (j + 1) _ (by omega) (by omega)
theorem critAll_keep {l : List (List Int)} {d : List Int} {p : Int} {r : List Int} : ∀ (f i : Nat) (s : List (List Int)), r ∈ s → r ∈ critAll l d p f i s
  | 0, i, s, h => h
  | f + 1, i, s, h => critAll_keep f (i + 1) _ (critRow_keep l.length 0 s h)
theorem critAll_has {l : List (List Int)} {d : List Int} {p : Int} {i' j' : Nat} (h1 : rd (rd_L1 l (i' : Int)) (j' : Int) ≠ 1000000000) (h2 : bufB l d p (i' : Int) (j' : Int) = 0) (hj : j' < l.length) : ∀ (f i : Nat) (s : List (List Int)), i ≤ i' → i' < i + f → [(i' : Int), (j' : Int)] ∈ critAll l d p f i s
  | 0, i, s, h3, h4 => by omega
  | f + 1, i, s, h3, h4 => by
    unfold critAll
    by_cases e : i' = i
    · subst e
      exact critAll_keep f _ _ (critRow_has h1 h2 l.length 0 s (Nat.zero_le _) (by omega))
    · exact critAll_has h1 h2 hj f (i + 1) _ (by omega) (by omega)

def LbCell (l : List (List Int)) (s : Int × Int × Bool) : Prop := s.2.2 = true → rd (rd_L1 l s.1) s.2.1 ≠ 1000000000
theorem lbStep_cell {l : List (List Int)} {d : List Int} {p i j : Int} {s : Int × Int × Bool} (h : LbCell l s) : LbCell l (lbStep l d p i j s) := by
 unfold lbStep
 split
 ·
  exact h
 ·
  rename_i e
  split
  ·
   split
   ·
    exact fun _ => e
   ·
    exact h
  ·
   exact fun _ => e
theorem lbRow_cell {l : List (List Int)} {d : List Int} {p i : Int} : ∀ (f j : Nat) (s : Int × Int × Bool), LbCell l s → LbCell l (lbRow l d p i f j s)
  | 0, _, s, h => h
  | f + 1, j, s, h => lbRow_cell f (j + 1) _ (lbStep_cell h)
theorem lbAll_cell {l : List (List Int)} {d : List Int} {p : Int} : ∀ (f i : Nat) (s : Int × Int × Bool), LbCell l s → LbCell l (lbAll l d p f i s)
  | 0, _, s, h => h
  | f + 1, i, s, h => lbAll_cell f (i + 1) _ (lbRow_cell l.length 0 s h)
def LbLe (l : List (List Int)) (d : List Int) (p b : Int) (s : Int × Int × Bool) : Prop := s.2.2 = true ∧ bufB l d p s.1 s.2.1 ≤ b
theorem lbStep_le {l : List (List Int)} {d : List Int} {p b i j : Int} {s : Int × Int × Bool} (h : LbLe l d p b s) : LbLe l d p b (lbStep l d p i j s) := by
 unfold lbStep
 split
 ·
  exact h
 ·
  rw [if_pos h.1]
  split
  ·
   rename_i e
   exact ⟨rfl, by have := h.2; dsimp only; omega⟩
  ·
   exact h
theorem lbRow_le {l : List (List Int)} {d : List Int} {p b i : Int} : ∀ (f j : Nat) (s : Int × Int × Bool), LbLe l d p b s → LbLe l d p b (lbRow l d p i f j s)
  | 0, _, s, h => h
  | f + 1, j, s, h => lbRow_le f (j + 1) _ (lbStep_le h)
theorem lbAll_le {l : List (List Int)} {d : List Int} {p b : Int} : ∀ (f i : Nat) (s : Int × Int × Bool), LbLe l d p b s → LbLe l d p b (lbAll l d p f i s)
  | 0, _, s, h => h
  | f + 1, i, s, h => lbAll_le f (i + 1) _ (lbRow_le l.length 0 s h)
theorem lbStep_at {l : List (List Int)} {d : List Int} {p i j : Int} {s : Int × Int × Bool} (h : rd (rd_L1 l i) j ≠ 1000000000) : LbLe l d p (bufB l d p i j) (lbStep l d p i j s) := by
 unfold lbStep
 rw [if_neg h]
 split
 ·
  rename_i h2
  split
  ·
   exact ⟨rfl, Int.le_refl _⟩
  ·
   exact ⟨h2, by omega⟩
 ·
  exact ⟨rfl, Int.le_refl _⟩
theorem lbRow_at {l : List (List Int)} {d : List Int} {p i : Int} {j' : Nat} (h : rd (rd_L1 l i) (j' : Int) ≠ 1000000000) : ∀ (f j : Nat) (s : Int × Int × Bool), j ≤ j' → j' < j + f → LbLe l d p (bufB l d p i (j' : Int)) (lbRow l d p i f j s)
  | 0, j, s, h1, h2 => by omega
  | f + 1, j, s, h1, h2 => by
    unfold lbRow
    by_cases e : j' = j
    · subst e
      exact lbRow_le f _ _ (lbStep_at h)
    · exact lbRow_at h f (j + 1) _ (by omega) (by omega)
theorem lbAll_at {l : List (List Int)} {d : List Int} {p : Int} {i' j' : Nat} (h : rd (rd_L1 l (i' : Int)) (j' : Int) ≠ 1000000000) (hj : j' < l.length) : ∀ (f i : Nat) (s : Int × Int × Bool), i ≤ i' → i' < i + f → LbLe l d p (bufB l d p (i' : Int) (j' : Int)) (lbAll l d p f i s)
  | 0, i, s, h1, h2 => by omega
  | f + 1, i, s, h1, h2 => by
    unfold lbAll
    by_cases e : i' = i
    · subst e
      exact lbAll_le f _ _ (lbRow_at h l.length 0 s (Nat.zero_le _) (by omega))
    · exact lbAll_at h hj f (i + 1) _ (by omega) (by omega)

theorem harmB_le {l : List (List Int)} {d : List Int} {p j : Int} : ∀ (f i : Nat) (a : Int), harmB l d p j f i a ≤ a
  | 0, _, a => Int.le_refl _
  | f + 1, i, a => by
    unfold harmB
    have := harmB_le (l := l) (d := d) (p := p) (j := j) f (i + 1) (if (i : Int) = j then a else if rd (rd_L1 l (i : Int)) j = 1000000000 then a else min a (bufB l d p (i : Int) j))
    refine Int.le_trans this ?_
    split
    · exact Int.le_refl _
    · split
      · exact Int.le_refl _
      · omega
theorem harmB_at {l : List (List Int)} {d : List Int} {p j : Int} {i' : Nat} (hne : (i' : Int) ≠ j) (h : rd (rd_L1 l (i' : Int)) j ≠ 1000000000) : ∀ (f i : Nat) (a : Int), i ≤ i' → i' < i + f → harmB l d p j f i a ≤ bufB l d p (i' : Int) j
  | 0, i, a, h1, h2 => by omega
  | f + 1, i, a, h1, h2 => by
    unfold harmB
    by_cases e : i' = i
    · subst e
      refine Int.le_trans (harmB_le f _ _) ?_
      rw [if_neg hne, if_neg h]
      omega
    · exact harmB_at hne h f (i + 1) _ (by omega) (by omega)
theorem harmB_nonneg {l : List (List Int)} {d : List Int} {p j : Int} (hg : goodB l d p = true) (h0 : 0 ≤ j) (h1 : j < (l.length : Int)) : ∀ (f i : Nat) (a : Int), i + f = l.length → 0 ≤ a → 0 ≤ harmB l d p j f i a
  | 0, _, a, _, h => h
  | f + 1, i, a, hf, h => by
    unfold harmB
    refine harmB_nonneg hg h0 h1 f (i + 1) _ (by omega) ?_
    split
    · exact h
    · split
      · exact h
      · rename_i e
        have := good_cell hg (by omega : (0 : Int) ≤ (i : Int)) (by omega) h0 h1 e
        omega
theorem lateF_zero {l : List (List Int)} {d : List Int} {p : Int} {x : List Int} {i : Int} (h : ∀ j : Nat, j < l.length → rd (rd_L1 l i) (j : Int) ≠ 1000000000 → rd x (j : Int) - bufB l d p i (j : Int) ≤ 0) : ∀ (f j : Nat), j + f = l.length → lateF l d p x i f j 0 = 0
  | 0, _, _ => rfl
  | f + 1, j, hf => by
    unfold lateF
    by_cases e : rd (rd_L1 l i) (j : Int) = 1000000000
    · rw [if_pos e]
      exact lateF_zero h f (j + 1) (by omega)
    · have := h j (by omega) e
      rw [if_neg e, show max 0 (rd x (j : Int) - bufB l d p i (j : Int)) = 0 by omega]
      exact lateF_zero h f (j + 1) (by omega)

theorem trainOf_ok {c : List Int} (hc : Bytes c) {a : Int} (s : Int) (ha : Spot a) (n : Int) : ∃ v a' s', spec_l1Cur_trainOf.f c a s n = some (v, a', s') ∧ a ≤ a' ∧ a' ≤ a + 4 ∨ 1000000000000 < a + 2 := by
 by_cases hs : a + 2 ≤ 1000000000000
 rotate_left
 ·
  exact ⟨0, 0, 0, .inr (by omega)⟩
 unfold spec_l1Cur_trainOf.f
 have h0 := ha.1
 obtain ⟨b, a1, s1, e, h1, h2⟩ := one_ok hc s ha 12
 rw [e, Option.bind_some]
 dsimp only
 cases b with
 | true =>
  obtain ⟨v, a2, s2, e2, _, h3, h4⟩ := among_ok hc s1 (⟨by omega, by omega⟩ : Spot a1) [(-1), n, wrap64 (n - 1)] (by simp)
  rw [if_pos rfl, e2, Option.bind_some]
  exact ⟨v, a2, s2, .inl ⟨rfl, by omega, by omega⟩⟩
 | false =>
  obtain ⟨v, a2, s2, e2, _, _, _, _, h3, h4⟩ := pick_ok hc s1 (⟨by omega, by omega⟩ : Spot a1) n
  rw [if_neg (by simp), e2, Option.bind_some]
  exact ⟨v, a2, s2, .inl ⟨rfl, by omega, by omega⟩⟩
theorem trainOf_ok' {c : List Int} (hc : Bytes c) {a : Int} (s : Int) (h0 : 0 ≤ a) (h1 : a ≤ 10000000) (n : Int) : ∃ v a' s', spec_l1Cur_trainOf.f c a s n = some (v, a', s') ∧ 0 ≤ a' ∧ a' ≤ a + 4 := by
 obtain ⟨v, a', s', h⟩ := trainOf_ok hc s (⟨h0, by omega⟩ : Spot a) n
 rcases h with ⟨h, h2, h3⟩ | h
 ·
  exact ⟨v, a', s', h, by omega, h3⟩
 ·
  omega
theorem drawCriticalWaits_ok {c : List Int} (hc : Bytes c) : ∃ m d p, Ev (fun k => spec_DrawCriticalWaits.f k c) (m, d, p) ∧ Short m ∧ d.length ≤ 6 := by
 unfold spec_DrawCriticalWaits.f
 obtain ⟨⟨m, d, p, a, s⟩, hr, h1, h2, h3, h4, h5⟩ := planned_ok hc
 exact ⟨m, d, p, ev_bind0 hr rfl, h1, h3⟩
theorem drawHarmlessDelay_ok {c : List Int} (hc : Bytes c) : ∃ m d p v, Ev (fun k => spec_DrawHarmlessDelay.f k c) (m, d, p, v) ∧ Short m ∧ d.length ≤ 6 := by
 unfold spec_DrawHarmlessDelay.f
 obtain ⟨⟨m, d, p, a, s⟩, hr, h1, h2, h3, h4, h5⟩ := planned_ok hc
 dsimp only at h4 h5
 obtain ⟨v, a1, s1, e, g1, g2⟩ := trainOf_ok' hc s h4 (by omega) (m.length : Int)
 exact ⟨m, d, p, v, Ev.bind hr (ev_bind0 (ev_const e) rfl), h1, h3⟩
theorem drawTrainsReached_ok {c : List Int} (hc : Bytes c) : ∃ m d p v y, Ev (fun k => spec_DrawTrainsReached.f k c) (m, d, p, v, y) ∧ Short m ∧ d.length ≤ 6 := by
 unfold spec_DrawTrainsReached.f
 obtain ⟨⟨m, d, p, a, s⟩, hr, h1, h2, h3, h4, h5⟩ := planned_ok hc
 dsimp only at h4 h5
 obtain ⟨v, a1, s1, e, g1, g2⟩ := trainOf_ok' hc s h4 (by omega) (m.length : Int)
 obtain ⟨v2, a2, s2, e2, _, g3, g4⟩ := among_ok hc s1 (⟨by omega, by omega⟩ : Spot a1) [3, 0, 10001] (by simp)
 obtain ⟨v3, a3, s3, e3, _, g5, g6⟩ := among_ok hc s2 (⟨by omega, by omega⟩ : Spot a2) [1, 2, 5, 10, 40, 10000, v2] (by simp)
 exact ⟨m, d, p, v, v3, Ev.bind hr (Ev.bind (ev_const e) (Ev.bind (ev_const e2) (ev_bind0 (ev_const e3) rfl))), h1, h3⟩
theorem drawBufferOf_ok {c : List Int} (hc : Bytes c) : ∃ m d p v y, Ev (fun k => spec_DrawBufferOf.f k c) (m, d, p, v, y) ∧ Short m ∧ d.length ≤ 6 := by
 unfold spec_DrawBufferOf.f
 obtain ⟨⟨m, d, p, a, s⟩, hr, h1, h2, h3, h4, h5⟩ := planned_ok hc
 dsimp only at h2 h4 h5
 obtain ⟨v, a1, s1, e, g1, g2⟩ := trainOf_ok' hc s h4 (by omega) (m.length : Int)
 by_cases hv : 0 ≤ v ∧ v ≤ wrap64 ((m.length : Int) - 1)
 ·
  have hl : spec_l1In.f v 0 (wrap64 ((m.length : Int) - 1)) = some true := by rw [l1In_eq, decide_eq_true hv]
  obtain ⟨b, a2, s2, e2, g3, g4⟩ := one_ok hc s1 (⟨g1, by omega⟩ : Spot a1) 4
  cases b with
  | true =>
   obtain ⟨v3, a3, s3, e3, g5, g6⟩ := trainOf_ok' hc s2 (by omega : 0 ≤ a2) (by omega) (m.length : Int)
   exact ⟨m, d, p, v, v3, Ev.bind hr (Ev.bind (ev_const e) (Ev.bind (ev_const hl) (ev_true (Ev.bind (ev_const e2) (ev_true (ev_bind0 (ev_const e3) rfl)))))), h1, h3⟩
  | false =>
   have hm : ¬ (m.length : Int) = 0 := by
    intro h0
    rw [h0, wr (by omega) (by omega)] at hv
    omega
   exact ⟨m, d, p, v, Int.tmod (wrap64 (v + 1)) (m.length : Int), Ev.bind hr (Ev.bind (ev_const e) (Ev.bind (ev_const hl) (ev_true (Ev.bind (ev_const e2) (ev_false (ev_neg hm (Ev.now _))))))), h1, h3⟩
 ·
  have hl : spec_l1In.f v 0 (wrap64 ((m.length : Int) - 1)) = some false := by rw [l1In_eq, decide_eq_false hv]
  obtain ⟨v3, a3, s3, e3, g5, g6⟩ := trainOf_ok' hc s1 (by omega : 0 ≤ a1) (by omega) (m.length : Int)
  exact ⟨m, d, p, v, v3, Ev.bind hr (Ev.bind (ev_const e) (Ev.bind (ev_const hl) (ev_false (ev_bind0 (ev_const e3) rfl)))), h1, h3⟩

theorem rd_rep_set {n : Nat} {k j : Nat} (hj : j < n) (v : Int) : rd ((List.replicate n (0 : Int)).set k v) (j : Int) = if j = k then v else 0 := by
 rw [rd_get (by simp; omega), List.getElem_set]
 by_cases e : k = j
 ·
  rw [if_pos e, if_pos e.symm]
 ·
  rw [if_neg e, if_neg (fun h => e h.symm)]
  simp
theorem fb_j5 {l1 : List Int} (hc1 : Bytes l1) : Ev (fun k => laws_FnBuffers.j5 k l1) true := by
 obtain ⟨m, d, p, j, y, hd, hm, hd6⟩ := drawTrainsReached_ok hc1
 obtain ⟨m2, d2, p2, i2, j2, hd2, hm2, hd26⟩ := drawBufferOf_ok hc1
 refine Ev.step (fun k => rfl) (Ev.bind hd (Ev.bind (ev_implTrainsReached m d p j y hm) (Ev.bind (ev_specTrainsReached m d p j y hm (by omega)) (Ev.bind hd2 (Ev.bind (ev_implBufferOf m2 d2 p2 i2 j2 hm2) (Ev.bind (ev_specBufferOf m2 d2 p2 i2 j2 hm2 (by omega)) ?_))))))
 have h6 := reachR_length (l := m) (d := d) (p := p) (j := j) (y := y)
 exact ev_pos (by simp) (Ev.bind (ev_qIntsB _ _ (by omega)) (ev_pos (by simp) (ev_pos (by simp) (ev_const (by simp)))))
theorem fb_l1 {l1 : List Int} (hc1 : Bytes l1) (v : Int) (x : List Int) (hx : x.length ≤ 6) (h : ∀ i : Nat, i < x.length → (i : Int) ≠ v → ¬ rd x (i : Int) > 0) : Ev (fun k => laws_FnBuffers.l1 k l1 v x (x.length : Int) 0) true := by
 have key : ∀ i, i ≤ x.length → Ev (fun k => laws_FnBuffers.l1 k l1 v x (x.length : Int) (i : Int)) true := by
  refine up_to _ ?_ ?_
  ·
   exact Ev.step (fun k => rfl) (ev_neg (by omega) (fb_j5 hc1))
  ·
   intro i hi ih
   refine Ev.step (fun k => rfl) (ev_pos (by omega) (ev_pos (by omega) (ev_pos (by omega) ?_)))
   rw [wr1 (by omega)]
   by_cases e : (i : Int) = v
   ·
    exact ev_pos e ih
   ·
    exact ev_neg e (ev_neg (h i hi e) ih)
 exact key 0 (Nat.zero_le _)
theorem fb_j2 {l1 : List Int} (hc1 : Bytes l1) : Ev (fun k => laws_FnBuffers.j2 k l1) true := by
 obtain ⟨m, d, p, v, hd, hm, hd6⟩ := drawHarmlessDelay_ok hc1
 refine Ev.step (fun k => rfl) (Ev.bind hd (Ev.bind (ev_implHarmlessDelay m d p v hm) (Ev.bind (ev_specHarmlessDelay m d p v hm (by omega)) (ev_neg (by simp) ?_))))
 rw [show ((harmR m d p v).1 != (harmR m d p v).1) = false by simp]
 refine ev_j (g := fun k b => laws_FnBuffers.j3 k l1 m d p v (harmR m d p v).2 (harmR m d p v).1 b) (fun _ _ => rfl) (fun hb => nomatch hb) (fun _ => ?_)
 unfold harmR
 by_cases hg : goodB m d p = true ∧ (0 ≤ v ∧ v < (m.length : Int))
 ·
  rw [if_pos hg]
  obtain ⟨hg, h0, h1⟩ := hg
  have hpl := goodB_plan hg
  have h6 := hpl.tr.six
  have e0 : ((m.length : Int) : Int).toNat = m.length := by omega
  refine ev_pos rfl (ev_pos (by omega) (ev_pos (by omega) ?_))
  rw [e0]
  refine Ev.bind (ev_const rfl) (ev_pos h0 (ev_pos (by simp; omega) ?_))
  have hh0 := harmB_nonneg hg h0 h1 m.length 0 10000 (by omega) (by omega)
  have hh1 := harmB_le (l := m) (d := d) (p := p) (j := v) m.length 0 10000
  have hat := fun (i : Nat) (hi : i < m.length) (hne : (i : Int) ≠ v) (hc : rd (rd_L1 m (i : Int)) v ≠ 1000000000) => harmB_at (d := d) (p := p) hne hc m.length 0 10000 (Nat.zero_le _) (by omega)
  dsimp only
  generalize harmB m d p v m.length 0 10000 = H at hh0 hh1 hat ⊢
  obtain ⟨n, rfl⟩ := Int.eq_ofNat_of_zero_le h0
  rw [Int.toNat_natCast]
  have hx : lateOk m ((List.replicate m.length (0 : Int)).set n H) = true := by
   unfold lateOk
   rw [Bool.and_eq_true, decide_eq_true_eq, List.all_eq_true]
   refine ⟨by simp, fun y hy => ?_⟩
   rcases List.mem_or_eq_of_mem_set hy with hy | hy
   ·
    have := List.eq_of_mem_replicate hy
    subst this
    simp
   ·
    subst hy
    simp
    omega
  have hA : (goodB m d p && lateOk m ((List.replicate m.length (0 : Int)).set n H)) = true := by rw [hg, hx]; rfl
  have e1 := ev_implNextDelays m d p ((List.replicate m.length (0 : Int)).set n H) hm
  unfold delR at e1
  rw [if_pos hA] at e1
  refine Ev.bind e1 (ev_pos rfl (fb_l1 hc1 _ _ (by rw [delB_length]; omega) ?_))
  intro i hi hne
  rw [delB_length] at hi
  rw [rd_delB hi, lateF_zero ?_ m.length 0 (by omega)]
  ·
   omega
  ·
   intro j hj hc
   rw [rd_rep_set hj]
   have hcell := good_cell hg (by omega : (0 : Int) ≤ (i : Int)) (by omega) (by omega : (0 : Int) ≤ (j : Int)) (by omega) hc
   by_cases e : j = n
   ·
    subst e
    rw [if_pos rfl]
    have := hat i hi hne hc
    omega
   ·
    rw [if_neg e]
    omega
 ·
  rw [if_neg hg]
  exact ev_neg (by simp) (fb_j5 hc1)
theorem FnBuffers : laws_FnBuffers.Pure := by
 intro l0 l1 _ hz0 hb0 _ hz1 hb1
 have hc0 := bytes_of hz0 hb0
 have hc1 := bytes_of hz1 hb1
 refine Ev.rounds ?_
 unfold laws_FnBuffers.f
 by_cases hbig : wrap64 ((l0.length : Int) + (l1.length : Int)) > 1048576
 ·
  exact ev_pos hbig (Ev.now true)
 refine ev_neg hbig ?_
 obtain ⟨m, d, p, hd, hm, hd6⟩ := drawCriticalWaits_ok hc0
 refine Ev.bind hd (Ev.bind (ev_implCriticalWaits m d p hm) (Ev.bind (ev_specCriticalWaits m d p hm (by omega)) (Ev.bind (ev_implLeastBuffer m d p hm) (Ev.bind (ev_specLeastBuffer m d p hm (by omega)) (ev_neg (by simp) ?_)))))
 have hcs := critR_size (l := m) (d := d) (p := p)
 have hq : Ev (fun k => laws_qLists.f k (critR m d p).1 (critR m d p).1) true := ev_qLists _ (by omega) (fun r hr => by
  have := len_le_sum hr
  omega)
 refine Ev.bind hq (ev_true (ev_neg (by simp) (ev_pos rfl (ev_pos rfl (ev_pos rfl ?_)))))
 have e9 : (lbR m d p).2.2.2 = (critR m d p).2 := by
  unfold lbR critR
  by_cases hg : goodB m d p = true
  ·
   rw [if_pos hg, if_pos hg]
  ·
   rw [if_neg hg, if_neg hg]
 rw [show ((lbR m d p).2.2.2 != (critR m d p).2) = false by rw [e9]; simp]
 refine ev_j (g := fun k b => laws_FnBuffers.j0 k l1 m d p (critR m d p).2 (critR m d p).1 (lbR m d p).1 (lbR m d p).2.1 (lbR m d p).2.2.1 b) (fun _ _ => rfl) (fun hb => nomatch hb) (fun _ => ?_)
 unfold critR lbR
 by_cases hg : goodB m d p = true
 ·
  rw [if_pos hg, if_pos hg]
  dsimp only
  have hpl := goodB_plan hg
  have h6 := hpl.tr.six
  have hcm := fun r => critAll_mem (l := m) (d := d) (p := p) (r := r) m.length 0 []
  have hfound := lbAll_found hg
  have hok := lbAll_ok (l := m) (d := d) (p := p) m.length 0 (0, 0, false) (by omega) (fun h => nomatch h) hfound
  have hcell := lbAll_cell (l := m) (d := d) (p := p) m.length 0 (0, 0, false) (fun h => nomatch h) hfound
  have hle := fun (i j : Nat) (hi : i < m.length) (hj : j < m.length) (hc : rd (rd_L1 m (i : Int)) (j : Int) ≠ 1000000000) => (lbAll_at (d := d) (p := p) hc hj m.length 0 (0, 0, false) (Nat.zero_le _) (by omega)).2
  have hhas := fun (i j : Nat) (hi : i < m.length) (hj : j < m.length) (hc : rd (rd_L1 m (i : Int)) (j : Int) ≠ 1000000000) (hb : bufB m d p (i : Int) (j : Int) = 0) => critAll_has (d := d) (p := p) hc hb hj m.length 0 [] (Nat.zero_le _) (by omega)
  unfold critR at hcs
  rw [if_pos hg] at hcs
  dsimp only at hcs
  generalize critAll m d p m.length 0 [] = C at hcm hhas hcs ⊢
  generalize lbAll m d p m.length 0 (0, 0, false) = s at hfound hok hcell hle ⊢
  have hbuf := good_cell hg hok.1.1 hok.1.2 hok.2.1 hok.2.2 hcell
  refine ev_pos rfl ?_
  have key : ∀ i, i ≤ C.length → Ev (fun k => laws_FnBuffers.l0 k l1 m d p C s.1 s.2.1 (bufB m d p s.1 s.2.1) C (C.length : Int) (i : Int)) true := by
   refine up_to _ ?_ ?_
   ·
    have e1 := ev_implBufferOf m d p s.1 s.2.1 hm
    unfold bufR at e1
    rw [if_pos ⟨hg, hok.1, hok.2, hcell⟩] at e1
    refine Ev.step (fun k => rfl) (ev_neg (by omega) (Ev.bind e1 (ev_pos rfl (ev_pos rfl (ev_neg ?_ (fb_j2 hc1))))))
    by_cases e : bufB m d p s.1 s.2.1 = 0
    ·
     have hin : [s.1, s.2.1] ∈ C := by
      obtain ⟨i, hi⟩ := Int.eq_ofNat_of_zero_le hok.1.1
      obtain ⟨j, hj⟩ := Int.eq_ofNat_of_zero_le hok.2.1
      have h1 := hok.1.2
      have h2 := hok.2.2
      rw [hi, hj] at e hcell ⊢
      exact hhas i j (by omega) (by omega) hcell e
     have : 0 < C.length := List.length_pos_of_mem hin
     simp [e, this]
    ·
     have : C.length = 0 := by
      rcases Nat.eq_zero_or_pos C.length with h | h
      ·
       exact h
      ·
       obtain ⟨r, hr⟩ := List.exists_mem_of_length_pos h
       rcases hcm r hr with h | ⟨i, j, _, h1, h2, _, h3, h4⟩
       ·
        cases h
       ·
        have := hle i j (by omega) h2 h3
        omega
     simp [e, this]
   ·
    intro i hi ih
    have hmem := rrd_mem hi
    rcases hcm _ hmem with h | ⟨i', j', _, h1, h2, h3, h4, h5⟩
    ·
     cases h
    ·
     refine Ev.step (fun k => rfl) (ev_pos (by omega) (ev_pos (by omega) (ev_pos (by omega) ?_)))
     rw [h3]
     have e1 := ev_implBufferOf m d p (i' : Int) (j' : Int) hm
     unfold bufR at e1
     rw [if_pos ⟨hg, ⟨by omega, by omega⟩, ⟨by omega, by omega⟩, h4⟩, h5] at e1
     refine ev_pos (by simp) (ev_pos (by simp) (Ev.bind e1 (ev_pos rfl (ev_pos rfl ?_))))
     rw [wr1 (by omega)]
     exact ih
  exact key 0 (Nat.zero_le _)
 ·
  rw [if_neg hg, if_neg hg]
  exact ev_neg (by simp) (fb_j2 hc1)
end Go.Proofs.Ytebjiooojkhkpaa.Pure
