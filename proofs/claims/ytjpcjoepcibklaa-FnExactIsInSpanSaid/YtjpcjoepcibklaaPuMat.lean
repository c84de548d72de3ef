/- Matrices, families, turned matrices, products of rows: what the program's functions come to. Condition: lists no longer than memory allows. -/
import Derived.Test.YtjpcjoepcibklaaPu1
import Derived.Test.YtjpcjoepcibklaaExtG
import Derived.Test.YtjpcjoepcibklaaX0
import Derived.Test.YtjpcjoepcibklaaX6
import Derived.Test.YtjpcjoepcibklaaX7
namespace Go.Proofs.Ytjpcjoepcibklaa.Pure
open Go.RowKit Go.Proofs.Ytjpcjoepcibklaa.X Go.Proofs.YtjpcjoepcibklaaW.PrintWords Go.Proofs.YtjpcjoepcibklaaW.PrintMore
set_option linter.unusedVariables false
set_option linter.unusedSimpArgs false

theorem rrd_get {xs : List (List Int)} {i : Nat} (h : i < xs.length) : rd_L1 xs (i : Int) = xs[i] := by simp [rd_L1, h]
theorem rrd_mem {xs : List (List Int)} {i : Nat} (h : i < xs.length) : rd_L1 xs (i : Int) ∈ xs := by rw [rrd_get h]; exact List.getElem_mem h
theorem drop_rrd {xs : List (List Int)} {i : Nat} (h : i < xs.length) : xs.drop i = rd_L1 xs (i : Int) :: xs.drop (i + 1) := by rw [List.drop_eq_getElem_cons h, rrd_get h]
theorem take_rrd {xs : List (List Int)} {i : Nat} (h : i < xs.length) : xs.take (i + 1) = xs.take i ++ [rd_L1 xs (i : Int)] := by rw [List.take_succ_eq_append_getElem h, rrd_get h]
theorem rrd_zero (xs : List (List Int)) : rd_L1 xs 0 = xs.getD 0 [] := rfl
theorem mx_max' (a b : Int) : mx a b = max a b := by unfold mx; omega
theorem mn_min' (a b : Int) : mn a b = min a b := by unfold mn; omega

/-- Rows are no longer than memory. -/
def Short (l : List (List Int)) : Prop := (l.length : Int) ≤ 1048576 ∧ ∀ r ∈ l, (r.length : Int) ≤ 1048576
theorem len_le_sum {l : List (List Int)} {r : List Int} (h : r ∈ l) : r.length ≤ (l.map List.length).sum := by
  induction l with
  | nil => cases h
  | cons y ys ih =>
    simp only [List.map_cons, List.sum_cons]
    rcases List.mem_cons.1 h with rfl | h
    · omega
    · have := ih h
      omega
theorem short_of {l : List (List Int)} (h : l.length + (l.map List.length).sum ≤ 1048576) : Short l := by
  refine ⟨by omega, fun r hr => ?_⟩
  have : r.length ≤ (l.map List.length).sum := len_le_sum hr
  omega
/-- A matrix. -/
def matB (l : List (List Int)) : Bool := decide (1 ≤ l.length ∧ l.length ≤ 6) && l.all fun r => vecB r && decide (r.length = (l.getD 0 []).length)
theorem ev_isMatrix (l : List (List Int)) (h : Short l) : Ev (fun k => impl_isMatrix.f k l) (matB l) := by
  unfold impl_isMatrix.f
  refine Ev.bind (ev_const (within_eq _ _ _)) ?_
  by_cases h1 : 1 ≤ l.length ∧ l.length ≤ 6
  · refine ev_pos (by simp; omega) ?_
    have e : Ev (fun k => Ext.anyO (impl_isMatrix.g k l) l) (l.any fun r => !(vecB r && decide (r.length = (l.getD 0 []).length))) := by
      refine Ext.ev_anyO l fun r hr => ?_
      unfold impl_isMatrix.g
      refine Ev.bind (ev_isVector r (by have := h.2 r hr; omega)) ?_
      cases hv : vecB r with
      | false => exact ev_false (ev_const (by simp))
      | true =>
        refine ev_true (ev_const ?_)
        generalize (l.getD 0 []).length = m
        by_cases e : r.length = m
        · simp [e]
        · have e2 : ¬ ((r.length : Int) = (m : Int)) := by omega
          simp [e, e2]
    refine ev_bind0 e ?_
    simp only [matB, h1, and_self, decide_true, Bool.true_and]
    congr 1
    rw [List.any_eq_not_all_not]
    simp
  · refine ev_neg (by simp; omega) (ev_const ?_)
    simp [matB, h1]
/-- All rows have the length m. -/
def Wide (l : List (List Int)) (m : Nat) : Prop := ∀ r ∈ l, r.length = m
theorem matB_parts {l : List (List Int)} (h : matB l = true) : 1 ≤ l.length ∧ l.length ≤ 6 ∧ 1 ≤ (l.getD 0 []).length ∧ (l.getD 0 []).length ≤ 6 ∧ Wide l (l.getD 0 []).length ∧ ∀ r ∈ l, ∀ x ∈ r, numB x = true := by
  simp only [matB, Bool.and_eq_true, decide_eq_true_eq, List.all_eq_true, vecB] at h
  have h0 : l.getD 0 [] ∈ l := by
    cases l with
    | nil => simp at h
    | cons a t => simp
  have h1 := (h.2 _ h0).1.1
  exact ⟨h.1.1, h.1.2, h1.1, h1.2, fun r hr => (h.2 r hr).2, fun r hr x hx => (h.2 r hr).1.2 x hx⟩
theorem wide_rrd {l : List (List Int)} {m i : Nat} (h : Wide l m) (hi : i < l.length) : (rd_L1 l (i : Int)).length = m := h _ (rrd_mem hi)

/-- Column k. -/
def col (l : List (List Int)) (k : Nat) : List Int := l.map fun r => rd r (k : Int)
/-- The turned matrix of m columns. -/
def turned (l : List (List Int)) (m : Nat) : List (List Int) := (List.range m).map fun k => col l k
def trS (l : List (List Int)) (m i kk : Nat) : List (List Int) := (List.range m).map fun k => col (l.take (if k < kk then i + 1 else i)) k
theorem trS_length (l : List (List Int)) (m i kk : Nat) : (trS l m i kk).length = m := by simp [trS]
theorem trS_at (l : List (List Int)) {m i kk k : Nat} (h : k < m) : rd_L1 (trS l m i kk) (k : Int) = col (l.take (if k < kk then i + 1 else i)) k := by
  rw [rrd_get (by rw [trS_length]; exact h)]
  simp [trS]
theorem trS_step (l : List (List Int)) {m i kk : Nat} (h : kk < m) (hi : i < l.length) : (trS l m i kk).set kk (rd_L1 (trS l m i kk) (kk : Int) ++ [rd (rd_L1 l (i : Int)) (kk : Int)]) = trS l m i (kk + 1) := by
  rw [trS_at l h, if_neg (Nat.lt_irrefl _)]
  apply List.ext_getElem
  · simp [trS]
  · intro j h1 h2
    simp only [trS, List.length_set, List.length_map, List.length_range] at h1
    rw [List.getElem_set]
    by_cases e : kk = j
    · subst e
      rw [if_pos rfl]
      simp only [trS, List.getElem_map, List.getElem_range]
      rw [if_pos (by omega), take_rrd hi, col, col, List.map_append]
      rfl
    · rw [if_neg e]
      simp only [trS, List.getElem_map, List.getElem_range]
      by_cases e2 : j < kk
      · rw [if_pos e2, if_pos (by omega)]
      · rw [if_neg e2, if_neg (by omega)]
theorem trS_full (l : List (List Int)) (m i : Nat) : trS l m i m = trS l m (i + 1) 0 := by
  unfold trS
  apply List.map_congr_left
  intro k hk
  rw [if_pos (List.mem_range.1 hk), if_neg (Nat.not_lt_zero k)]
theorem ev_transposed (l : List (List Int)) (h0 : 0 < l.length) (m : Nat) (hm : m = (l.getD 0 []).length) (hw : Wide l m) (hs : Short l) : Ev (fun k => impl_transposed.f k l) (turned l m) := by
  unfold impl_transposed.f
  have hm6 : m ≤ 1048576 := by
    have hx := hs.2 (rd_L1 l ((0 : Nat) : Int)) (rrd_mem h0)
    rw [show rd_L1 l ((0 : Nat) : Int) = l.getD 0 [] from rfl, ← hm] at hx
    omega
  have e0 : ((rd_L1 l 0).length : Int) = (m : Int) := by rw [rrd_zero, hm]
  refine ev_pos (by omega) (ev_pos (by omega) (ev_pos (by rw [e0]; omega) ?_))
  have e1 : (((rd_L1 l 0).length : Int) : Int).toNat = m := by rw [e0]; omega
  rw [e1]
  have key : ∀ i, i ≤ l.length → Ev (fun k => impl_transposed.l0 k (trS l m i 0) l (l.length : Int) (i : Int)) (turned l m) := by
    refine up_to _ ?_ ?_
    · refine Ev.step (fun k => rfl) (ev_neg (by omega) (ev_const ?_))
      simp [trS, turned]
    · intro i hi ih
      have hwi := wide_rrd hw hi
      refine Ev.step (fun k => rfl) (ev_pos (by omega) (ev_pos (by omega) (ev_pos (by omega) ?_)))
      have inner : ∀ kk, kk ≤ m → Ev (fun k => impl_transposed.l1 k (trS l m i kk) l (l.length : Int) (i : Int) (rd_L1 l (i : Int)) ((rd_L1 l (i : Int)).length : Int) (kk : Int)) (turned l m) := by
        refine up_to _ ?_ ?_
        · refine Ev.step (fun k => rfl) (ev_neg (by rw [hwi]; omega) ?_)
          rw [wr1 (by have := hs.1; omega), trS_full]
          exact ih
        · intro kk hkk ih2
          refine Ev.step (fun k => rfl) (ev_pos (by rw [hwi]; omega) (ev_pos (by omega) (ev_pos (by rw [hwi]; omega) (ev_pos (by rw [trS_length]; omega) (ev_pos ?_ ?_)))))
          · rw [trS_at l hkk, if_neg (Nat.lt_irrefl _), col, List.length_map, List.length_take]
            have := hs.1
            omega
          · rw [wr1 (by omega), Int.toNat_natCast, trS_step l hkk hi]
            exact ih2
      exact inner 0 (Nat.zero_le _)
  have := key 0 (Nat.zero_le _)
  refine ev_eq rfl ?_
  have e2 : trS l m 0 0 = List.replicate m [] := by
    apply List.ext_getElem
    · simp [trS]
    · intro j h1 h2
      simp [trS, col]
  rw [e2] at this
  exact this
theorem turned_length (l : List (List Int)) (m : Nat) : (turned l m).length = m := by simp [turned]
theorem turned_mem {l : List (List Int)} {m : Nat} {c : List Int} (h : c ∈ turned l m) : ∃ k, k < m ∧ c = col l k := by
  simp only [turned, List.mem_map, List.mem_range] at h
  obtain ⟨k, hk, rfl⟩ := h
  exact ⟨k, hk, rfl⟩

/-- The product of two numbers, Infinity let in. -/
def prodB (a b : Int) : Int := if a = 1000000000 then 1000000000 else if b = 1000000000 then 1000000000 else a + b
theorem product_eq {a b : Int} (h1 : -9000000000000000 ≤ a) (h2 : a ≤ 9000000000000000) (h3 : -9000000000000000 ≤ b) (h4 : b ≤ 9000000000000000) : impl_product.f a b = some (prodB a b) := by
  unfold impl_product.f prodB
  rw [wr (by omega) (by omega)]
  split
  · rfl
  · split <;> rfl
/-- The product of a row and a vector, from a start on. -/
def dotB (a : Int) (r x : List Int) : Int := (List.zipWith prodB r x).foldl min a
/-- Numbers far from the ends of a word. -/
def Mild (l : List Int) : Prop := ∀ x ∈ l, -9000000000000000 ≤ x ∧ x ≤ 9000000000000000
theorem mild_rd {l : List Int} (h : Mild l) {i : Nat} (hi : i < l.length) : -9000000000000000 ≤ rd l (i : Int) ∧ rd l (i : Int) ≤ 9000000000000000 := h _ (rd_mem hi)
theorem zip_drop {i : Nat} {r x : List Int} (h1 : i < r.length) (h2 : i < x.length) : List.zipWith prodB (r.drop i) (x.drop i) = prodB (rd r (i : Int)) (rd x (i : Int)) :: List.zipWith prodB (r.drop (i + 1)) (x.drop (i + 1)) := by
  rw [drop_rd h1, drop_rd h2, List.zipWith_cons_cons]
theorem ev_dot (r x : List Int) (h : r.length ≤ x.length) (hn : (r.length : Int) ≤ 1048576) (hr : Mild r) (hx : Mild x) : Ev (fun k => impl_dot.f k r x) (dotB 1000000000 r x) := by
  unfold impl_dot.f
  have key : ∀ i, i ≤ r.length → ∀ a, Ev (fun k => impl_dot.l0 k r x a (r.length : Int) (i : Int)) (dotB a (r.drop i) (x.drop i)) := by
    refine up_to _ ?_ ?_
    · intro a
      rw [drop_all (Nat.le_refl _)]
      exact Ev.step (fun k => rfl) (ev_neg (by omega) (Ev.now _))
    · intro i hi ih a
      have b1 := mild_rd hr hi
      have b2 := mild_rd hx (by omega : i < x.length)
      refine Ev.step (fun k => rfl) (ev_pos (by omega) (ev_pos (by omega) (ev_pos (by omega) (ev_pos (by omega) (Ev.bind (ev_const (product_eq b1.1 b1.2 b2.1 b2.2)) ?_)))))
      rw [wr1 (by omega), mn_min']
      refine ev_eq ?_ (ih _)
      rw [dotB, dotB, zip_drop hi (by omega), List.foldl_cons]
  have := key 0 (Nat.zero_le _) 1000000000
  simpa using this
/-- A matrix at a vector. -/
def applyB (l : List (List Int)) (x : List Int) : List Int := l.map fun r => dotB 1000000000 r x
theorem ev_applied (l : List (List Int)) (x : List Int) (hs : Short l) (hw : ∀ r ∈ l, r.length ≤ x.length) (hr : ∀ r ∈ l, Mild r) (hx : Mild x) : Ev (fun k => impl_applied.f k l x) (applyB l x) := by
  unfold impl_applied.f
  have key : ∀ i, i ≤ l.length → Ev (fun k => impl_applied.l0 k x ((l.take i).map fun r => dotB 1000000000 r x) l (l.length : Int) (i : Int)) (applyB l x) := by
    refine up_to _ ?_ ?_
    · rw [take_all (Nat.le_refl _)]
      exact Ev.step (fun k => rfl) (ev_neg (by omega) (Ev.now _))
    · intro i hi ih
      have hm := rrd_mem hi
      refine Ev.step (fun k => rfl) (ev_pos (by omega) (ev_pos (by omega) (ev_pos (by omega) (Ev.bind (ev_dot (rd_L1 l (i : Int)) x (hw _ hm) (hs.2 _ hm) (hr _ hm) hx) (ev_pos (by simp; have := hs.1; omega) ?_)))))
      rw [wr1 (by have := hs.1; omega)]
      rw [take_rrd hi, List.map_append] at ih
      exact ih
  have := key 0 (Nat.zero_le _)
  simpa using this
end Go.Proofs.Ytjpcjoepcibklaa.Pure
