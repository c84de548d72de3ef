/- The greatest less the least difference of two vectors: the program and the reference come to the same. Condition: vectors of finite numbers of one length. -/
import Derived.Test.YtjpcjoepcibklaaPu1
import Derived.Test.YtjpcjoepcibklaaX1
import Derived.Test.YtjpcjoepcibklaaX2
import Derived.Test.YtjpcjoepcibklaaX3
import Derived.Test.YtjpcjoepcibklaaX4
namespace Go.Proofs.Ytjpcjoepcibklaa.Pure
open Go.RowKit Go.Proofs.Ytjpcjoepcibklaa.X Go.Proofs.YtjpcjoepcibklaaW.PrintWords Go.Proofs.YtjpcjoepcibklaaW.PrintMore
set_option linter.unusedVariables false
set_option linter.unusedSimpArgs false

/-- The differences, place by place. -/
def diffs (u v : List Int) : List Int := List.zipWith (fun a b => a - b) u v
theorem diffs_length {u v : List Int} (h : u.length = v.length) : (diffs u v).length = u.length := by simp [diffs, h]
theorem rd_diffs {u v : List Int} {i : Nat} (h : i < u.length) (h2 : u.length = v.length) : rd (diffs u v) (i : Int) = rd u (i : Int) - rd v (i : Int) := by
  rw [rd_get (by rw [diffs_length h2]; exact h), rd_get h, rd_get (by omega)]
  simp [diffs]
/-- Finite numbers. -/
def Fin6 (l : List Int) : Prop := ∀ x ∈ l, -1000000 ≤ x ∧ x ≤ 1000000
theorem fin6_rd {l : List Int} (h : Fin6 l) {i : Nat} (hi : i < l.length) : -1000000 ≤ rd l (i : Int) ∧ rd l (i : Int) ≤ 1000000 := h _ (rd_mem hi)
theorem fvecB_iff {l : List Int} : fvecB l = true ↔ (1 ≤ l.length ∧ l.length ≤ 6) ∧ Fin6 l := by
  simp only [fvecB, Bool.and_eq_true, decide_eq_true_eq, List.all_eq_true, finB_iff, Fin6]
theorem l1Least_eq (a b : Int) : spec_l1Least.f a b = some (min a b) := by
  unfold spec_l1Least.f
  by_cases h : a < b
  · rw [if_pos h, Int.min_eq_left (by omega)]
  · rw [if_neg h, Int.min_eq_right (by omega)]
theorem l1Most_eq (a b : Int) : spec_l1Most.f a b = some (max a b) := by
  unfold spec_l1Most.f
  by_cases h : a > b
  · rw [if_pos h, Int.max_eq_left (by omega)]
  · rw [if_neg h, Int.max_eq_right (by omega)]
theorem mx_max (a b : Int) : mx a b = max a b := by unfold mx; omega
theorem mn_min (a b : Int) : mn a b = min a b := by unfold mn; omega
/-- The greatest and the least of a list, from a start on. -/
def gmax (a : Int) (l : List Int) : Int := l.foldl max a
def gmin (a : Int) (l : List Int) : Int := l.foldl min a
theorem gmax_le {a B : Int} : ∀ {l : List Int}, (∀ x ∈ l, x ≤ B) → a ≤ B → gmax a l ≤ B
  | [], _, h => h
  | x :: l, h, ha => gmax_le (a := max a x) (l := l) (fun y hy => h y (List.mem_cons_of_mem _ hy)) (by have := h x List.mem_cons_self; omega)
theorem le_gmax {a : Int} : ∀ {l : List Int}, a ≤ gmax a l
  | [] => Int.le_refl _
  | x :: l => by have := le_gmax (a := max a x) (l := l); unfold gmax at *; simp only [List.foldl_cons]; omega
theorem gmin_ge {a B : Int} : ∀ {l : List Int}, (∀ x ∈ l, B ≤ x) → B ≤ a → B ≤ gmin a l
  | [], _, h => h
  | x :: l, h, ha => gmin_ge (a := min a x) (l := l) (fun y hy => h y (List.mem_cons_of_mem _ hy)) (by have := h x List.mem_cons_self; omega)
theorem gmin_le {a : Int} : ∀ {l : List Int}, gmin a l ≤ a
  | [] => Int.le_refl _
  | x :: l => by have := gmin_le (a := min a x) (l := l); unfold gmin at *; simp only [List.foldl_cons]; omega

theorem ev_slicesMax (l : List Int) (hp : 0 < l.length) (hn : (l.length : Int) ≤ 140737488355328) : Ev (fun k => slices_Max_int_int.f k l) (gmax (rd l 0) (l.drop 1)) := by
  unfold slices_Max_int_int.f
  refine ev_neg (by omega) (ev_pos (by omega) ?_)
  have key : ∀ i, i ≤ l.length → ∀ a, Ev (fun k => slices_Max_int_int.l0 k l a (i : Int)) (gmax a (l.drop i)) := by
    refine up_to _ ?_ ?_
    · intro a
      rw [drop_all (Nat.le_refl _)]
      exact Ev.step (fun k => rfl) (ev_neg (by omega) (Ev.now _))
    · intro i hi ih a
      rw [drop_rd hi]
      refine Ev.step (fun k => rfl) (ev_pos (by omega) (ev_pos (by omega) ?_))
      rw [wr1 (by omega), mx_max]
      exact ih _
  exact key 1 hp _
theorem ev_slicesMin (l : List Int) (hp : 0 < l.length) (hn : (l.length : Int) ≤ 140737488355328) : Ev (fun k => slices_Min_int_int.f k l) (gmin (rd l 0) (l.drop 1)) := by
  unfold slices_Min_int_int.f
  refine ev_neg (by omega) (ev_pos (by omega) ?_)
  have key : ∀ i, i ≤ l.length → ∀ a, Ev (fun k => slices_Min_int_int.l0 k l a (i : Int)) (gmin a (l.drop i)) := by
    refine up_to _ ?_ ?_
    · intro a
      rw [drop_all (Nat.le_refl _)]
      exact Ev.step (fun k => rfl) (ev_neg (by omega) (Ev.now _))
    · intro i hi ih a
      rw [drop_rd hi]
      refine Ev.step (fun k => rfl) (ev_pos (by omega) (ev_pos (by omega) ?_))
      rw [wr1 (by omega), mn_min]
      exact ih _
  exact key 1 hp _
theorem ev_differences (u v : List Int) (h : u.length = v.length) (hn : (u.length : Int) ≤ 1000) (hu : Fin6 u) (hv : Fin6 v) : Ev (fun k => impl_differences.f k u v) (diffs u v) := by
  unfold impl_differences.f
  have key : ∀ i, i ≤ u.length → Ev (fun k => impl_differences.l0 k v ((diffs u v).take i) u (u.length : Int) (i : Int)) (diffs u v) := by
    refine up_to _ ?_ ?_
    · rw [take_all (by rw [diffs_length h]; exact Nat.le_refl _)]
      exact Ev.step (fun k => rfl) (ev_neg (by omega) (Ev.now _))
    · intro i hi ih
      have b1 := fin6_rd hu hi
      have b2 := fin6_rd hv (by omega : i < v.length)
      refine Ev.step (fun k => rfl) (ev_pos (by omega) (ev_pos (by omega) (ev_pos (by omega) (ev_pos (by omega) (ev_pos (by simp; omega) ?_)))))
      rw [wr1 (by omega), wr (by omega) (by omega), ← rd_diffs hi h, ← take_rd (by rw [diffs_length h]; exact hi)]
      exact ih
  have := key 0 (Nat.zero_le _)
  simpa using this
/-- The spread of two vectors. -/
def spreadOf (u v : List Int) : Int := gmax (rd (diffs u v) 0) ((diffs u v).drop 1) - gmin (rd (diffs u v) 0) ((diffs u v).drop 1)
theorem diffs_bound {u v : List Int} (hu : Fin6 u) (hv : Fin6 v) : ∀ x ∈ diffs u v, -2000000 ≤ x ∧ x ≤ 2000000 := by
  intro x hx
  unfold diffs at hx
  obtain ⟨i, hi, rfl⟩ := List.getElem_of_mem hx
  simp only [List.length_zipWith] at hi
  have b1 := hu u[i] (List.getElem_mem (by omega))
  have b2 := hv v[i] (List.getElem_mem (by omega))
  simp only [List.getElem_zipWith]
  omega
theorem ev_spread (u v : List Int) (h : u.length = v.length) (hp : 0 < u.length) (hn : (u.length : Int) ≤ 1000) (hu : Fin6 u) (hv : Fin6 v) : Ev (fun k => impl_spread.f k u v) (spreadOf u v) := by
  unfold impl_spread.f
  have hl := diffs_length h
  have hb := diffs_bound hu hv
  have h0 := hb _ (rd_mem (xs := diffs u v) (i := 0) (by omega))
  refine Ev.bind (ev_differences u v h hn hu hv) (Ev.bind (ev_slicesMax _ (by omega) (by omega)) (ev_bind0 (ev_slicesMin _ (by omega) (by omega)) ?_))
  have g1 : gmax (rd (diffs u v) 0) ((diffs u v).drop 1) ≤ 2000000 := gmax_le (fun x hx => (hb x (List.mem_of_mem_drop hx)).2) (by simpa using h0.2)
  have g2 : -2000000 ≤ gmin (rd (diffs u v) 0) ((diffs u v).drop 1) := gmin_ge (fun x hx => (hb x (List.mem_of_mem_drop hx)).1) (by simpa using h0.1)
  have g3 : rd (diffs u v) 0 ≤ gmax (rd (diffs u v) 0) ((diffs u v).drop 1) := le_gmax
  have g4 : gmin (rd (diffs u v) 0) ((diffs u v).drop 1) ≤ rd (diffs u v) 0 := gmin_le
  rw [wr (by simp at h0; omega) (by simp at h0; omega)]
  rfl
theorem gmax_skip {a b : Int} {l : List Int} (h : b ≤ a) : gmax a (b :: l) = gmax a l := by simp [gmax, Int.max_eq_left h]
theorem gmin_skip {a b : Int} {l : List Int} (h : a ≤ b) : gmin a (b :: l) = gmin a l := by simp [gmin, Int.min_eq_left h]
theorem ev_spApart (u v : List Int) (h : u.length = v.length) (hp : 0 < u.length) (hn : (u.length : Int) ≤ 1000) (hu : Fin6 u) (hv : Fin6 v) : Ev (fun k => spec_spApart.f k u v) (spreadOf u v) := by
  unfold spec_spApart.f
  have hl := diffs_length h
  have hb := diffs_bound hu hv
  refine ev_pos (by omega) (ev_pos (by omega) ?_)
  have u0 := fin6_rd hu hp
  have v0 := fin6_rd hv (by omega : 0 < v.length)
  have e0 : rd (diffs u v) 0 = rd u 0 - rd v 0 := rd_diffs (i := 0) hp h
  rw [wr (by simp at u0 v0; omega) (by simp at u0 v0; omega), ← e0]
  have key : ∀ i, i ≤ u.length → ∀ a b, -2000000 ≤ a → a ≤ 2000000 → -2000000 ≤ b → b ≤ 2000000 → Ev (fun k => spec_spApart.l0 k v a b u (u.length : Int) (i : Int)) (gmax b ((diffs u v).drop i) - gmin a ((diffs u v).drop i)) := by
    refine up_to _ ?_ ?_
    · intro a b a1 a2 b1 b2
      rw [drop_all (by omega)]
      refine Ev.step (fun k => rfl) (ev_neg (by omega) (ev_const ?_))
      rw [wr (by omega) (by omega)]
      rfl
    · intro i hi ih a b a1 a2 b1 b2
      have d1 := fin6_rd hu hi
      have d2 := fin6_rd hv (by omega : i < v.length)
      rw [drop_rd (by omega : i < (diffs u v).length)]
      refine Ev.step (fun k => rfl) (ev_pos (by omega) (ev_pos (by omega) (ev_pos (by omega) (ev_pos (by omega) (Ev.bind (ev_const (l1Least_eq _ _)) (Ev.bind (ev_const (l1Most_eq _ _)) ?_))))))
      rw [wr1 (by omega), wr (by omega) (by omega), ← rd_diffs hi h]
      have d3 := rd_diffs hi h
      exact ih _ _ (by omega) (by omega) (by omega) (by omega)
  have h0 := hb _ (rd_mem (xs := diffs u v) (i := 0) (by omega))
  have := key 0 (Nat.zero_le _) (rd (diffs u v) 0) (rd (diffs u v) 0) h0.1 h0.2 h0.1 h0.2
  refine ev_eq ?_ this
  rw [drop_rd (xs := diffs u v) (i := 0) (by omega)]
  have e1 : ((0 : Nat) : Int) = 0 := rfl
  rw [e1, gmax_skip (Int.le_refl _), gmin_skip (Int.le_refl _)]
  rfl
/-- Two vectors of one length. -/
def alikeB (u v : List Int) : Bool := fvecB u && (fvecB v && decide (u.length = v.length))
theorem ev_areAlike (u v : List Int) (h1 : (u.length : Int) ≤ 140737488355328) (h2 : (v.length : Int) ≤ 140737488355328) : Ev (fun k => impl_areAlike.f k u v) (alikeB u v) := by
  unfold impl_areAlike.f
  refine Ev.bind (ev_isFiniteVector u h1) ?_
  cases h : fvecB u with
  | false => exact ev_false (ev_const (by simp [alikeB, h]))
  | true =>
    refine ev_true (Ev.bind (ev_isFiniteVector v h2) ?_)
    cases h' : fvecB v with
    | false => exact ev_false (ev_const (by simp [alikeB, h']))
    | true => exact ev_true (ev_const (by simp [alikeB, h, h']; by_cases e : u.length = v.length <;> simp [e]; omega))
theorem ev_spVector (l : List Int) (hn : (l.length : Int) ≤ 140737488355328) : Ev (fun k => spec_spVector.f k l) (fvecB l) := by
  unfold spec_spVector.f
  refine Ev.bind (ev_const (l1In_eq _ _ _)) ?_
  by_cases h : 1 ≤ l.length ∧ l.length ≤ 6
  · refine ev_pos (by simp; omega) (ev_bind0 (ev_l1AllFin l hn) ?_)
    simp [fvecB, h]
  · refine ev_neg (by simp; omega) (ev_const ?_)
    simp [fvecB, h]
theorem ev_spTwo (u v : List Int) (h1 : (u.length : Int) ≤ 140737488355328) (h2 : (v.length : Int) ≤ 140737488355328) : Ev (fun k => spec_spTwo.f k u v) (alikeB u v) := by
  unfold spec_spTwo.f
  refine Ev.bind (ev_spVector u h1) ?_
  cases h : fvecB u with
  | false => exact ev_false (ev_const (by simp [alikeB, h]))
  | true =>
    refine ev_true (Ev.bind (ev_spVector v h2) ?_)
    cases h' : fvecB v with
    | false => exact ev_false (ev_const (by simp [alikeB, h']))
    | true => exact ev_true (ev_const (by simp [alikeB, h, h']; by_cases e : u.length = v.length <;> simp [e]; omega))
theorem alike_parts {u v : List Int} (h : alikeB u v = true) : u.length = v.length ∧ 0 < u.length ∧ (u.length : Int) ≤ 1000 ∧ Fin6 u ∧ Fin6 v := by
  simp only [alikeB, Bool.and_eq_true, fvecB_iff, decide_eq_true_eq] at h
  exact ⟨h.2.2, by omega, by omega, h.1.2, h.2.1.2⟩
theorem ev_implIsMultiple (u v : List Int) (h1 : (u.length : Int) ≤ 140737488355328) (h2 : (v.length : Int) ≤ 140737488355328) : Ev (fun k => impl_IsMultiple.f k u v) (if alikeB u v = true then (spreadOf u v == 0, true) else (false, false)) := by
  unfold impl_IsMultiple.f
  refine Ev.bind (ev_areAlike u v h1 h2) ?_
  cases h : alikeB u v with
  | false => exact ev_false (Ev.now _)
  | true =>
    obtain ⟨e, hp, hn, hu, hv⟩ := alike_parts h
    exact ev_true (ev_bind0 (ev_spread u v e hp hn hu hv) rfl)
theorem ev_specIsMultiple (u v : List Int) (h1 : (u.length : Int) ≤ 140737488355328) (h2 : (v.length : Int) ≤ 140737488355328) : Ev (fun k => spec_IsMultiple.f k u v) (if alikeB u v = true then (spreadOf u v == 0, true) else (false, false)) := by
  unfold spec_IsMultiple.f
  refine Ev.bind (ev_spTwo u v h1 h2) ?_
  cases h : alikeB u v with
  | false => exact ev_false (Ev.now _)
  | true =>
    obtain ⟨e, hp, hn, hu, hv⟩ := alike_parts h
    exact ev_true (ev_bind0 (ev_spApart u v e hp hn hu hv) rfl)
theorem ev_implSpanDistance (u v : List Int) (h1 : (u.length : Int) ≤ 140737488355328) (h2 : (v.length : Int) ≤ 140737488355328) : Ev (fun k => impl_SpanDistance.f k u v) (if alikeB u v = true then (spreadOf u v, true) else (0, false)) := by
  unfold impl_SpanDistance.f
  refine Ev.bind (ev_areAlike u v h1 h2) ?_
  cases h : alikeB u v with
  | false => exact ev_false (Ev.now _)
  | true =>
    obtain ⟨e, hp, hn, hu, hv⟩ := alike_parts h
    exact ev_true (ev_bind0 (ev_spread u v e hp hn hu hv) rfl)
theorem ev_specSpanDistance (u v : List Int) (h1 : (u.length : Int) ≤ 140737488355328) (h2 : (v.length : Int) ≤ 140737488355328) : Ev (fun k => spec_SpanDistance.f k u v) (if alikeB u v = true then (spreadOf u v, true) else (0, false)) := by
  unfold spec_SpanDistance.f
  refine Ev.bind (ev_spTwo u v h1 h2) ?_
  cases h : alikeB u v with
  | false => exact ev_false (Ev.now _)
  | true =>
    obtain ⟨e, hp, hn, hu, hv⟩ := alike_parts h
    exact ev_true (ev_bind0 (ev_spApart u v e hp hn hu hv) rfl)
end Go.Proofs.Ytjpcjoepcibklaa.Pure
