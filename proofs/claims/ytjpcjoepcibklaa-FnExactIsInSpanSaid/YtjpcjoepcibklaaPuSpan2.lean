/- Least coefficients, projections, membership in a span: the program and the reference come to the same. Condition: lists no longer than memory allows. -/
import Derived.Test.YtjpcjoepcibklaaPuSpan
import Derived.Test.YtjpcjoepcibklaaX0
import Derived.Test.YtjpcjoepcibklaaX10
import Derived.Test.YtjpcjoepcibklaaX8
import Derived.Test.YtjpcjoepcibklaaX9
namespace Go.Proofs.Ytjpcjoepcibklaa.Pure
open Go.RowKit Go.Proofs.Ytjpcjoepcibklaa.X Go.Proofs.YtjpcjoepcibklaaW.PrintWords Go.Proofs.YtjpcjoepcibklaaW.PrintMore
set_option linter.unusedVariables false
set_option linter.unusedSimpArgs false

/-- A vector of the family's length. -/
def memB (l : List (List Int)) (v : List Int) : Bool := famB l && (fvecB v && decide (v.length = (l.getD 0 []).length))
theorem ev_isMember (l : List (List Int)) (v : List Int) (hs : Short l) (hv : (v.length : Int) ≤ 1048576) : Ev (fun k => impl_isMember.f k l v) (memB l v) := by
  unfold impl_isMember.f
  refine Ev.bind (ev_isFamily l hs) ?_
  cases hf : famB l with
  | false => exact ev_false (ev_const (by simp [memB, hf]))
  | true =>
    refine ev_true (Ev.bind (ev_isFiniteVector v (by omega)) ?_)
    cases hw : fvecB v with
    | false => exact ev_false (ev_const (by simp [memB, hw]))
    | true =>
      have := famB_parts hf
      refine ev_true (ev_pos (by omega) (ev_const ?_))
      rw [rrd_zero]
      generalize hm : (l.getD 0 []).length = m
      by_cases e : v.length = m
      · rw [memB, hf, hw, hm, decide_eq_true e]
        simp [e]
      · have e2 : ¬ ((v.length : Int) = (m : Int)) := by omega
        rw [memB, hf, hw, hm, decide_eq_false e]
        simp [e2]
theorem ev_spAsked (l : List (List Int)) (v : List Int) (hs : Short l) (hv : (v.length : Int) ≤ 1048576) : Ev (fun k => spec_spAsked.f k l v) (memB l v) := by
  unfold spec_spAsked.f
  refine Ev.bind (ev_spFamily l hs) ?_
  cases hf : famB l with
  | false => exact ev_false (ev_const (by simp [memB, hf]))
  | true =>
    refine ev_true (Ev.bind (ev_spVector v (by omega)) ?_)
    cases hw : fvecB v with
    | false => exact ev_false (ev_const (by simp [memB, hw]))
    | true =>
      have := famB_parts hf
      refine ev_true (ev_pos (by omega) (ev_const ?_))
      rw [rrd_zero]
      generalize hm : (l.getD 0 []).length = m
      by_cases e : v.length = m
      · rw [memB, hf, hw, hm, decide_eq_true e]
        simp [e]
      · have e2 : ¬ ((v.length : Int) = (m : Int)) := by omega
        rw [memB, hf, hw, hm, decide_eq_false e]
        simp [e2]
theorem memB_parts {l : List (List Int)} {v : List Int} (h : memB l v = true) : famB l = true ∧ v.length = (l.getD 0 []).length ∧ 1 ≤ v.length ∧ v.length ≤ 6 ∧ Fin6 v := by
  simp only [memB, Bool.and_eq_true, decide_eq_true_eq, fvecB_iff] at h
  exact ⟨h.1, h.2.2, h.2.1.1.1, h.2.1.1.2, h.2.1.2⟩
/-- The least coefficient for one vector of the family. -/
def leastB (v u : List Int) : Int := gmax (rd (diffs v u) 0) ((diffs v u).drop 1)
theorem leastB_bound {v u : List Int} (h : v.length = u.length) (hp : 0 < v.length) (hv : Fin6 v) (hu : Fin6 u) : -2000000 ≤ leastB v u ∧ leastB v u ≤ 2000000 := by
  have hl := diffs_length h
  have hb := diffs_bound hv hu
  have h0 := hb _ (rd_mem (xs := diffs v u) (i := 0) (by omega))
  have g3 : rd (diffs v u) 0 ≤ leastB v u := le_gmax
  have g1 : leastB v u ≤ 2000000 := gmax_le (fun x hx => (hb x (List.mem_of_mem_drop hx)).2) (by simpa using h0.2)
  simp at h0
  omega
def leastsB (l : List (List Int)) (v : List Int) : List Int := l.map fun u => leastB v u
theorem leastsB_within {l : List (List Int)} {v : List Int} (h : memB l v = true) : Within 90000000 (leastsB l v) := by
  obtain ⟨hf, hl, h1, h2, h3⟩ := memB_parts h
  obtain ⟨_, _, _, _, hw, hfin⟩ := famB_parts hf
  intro x hx
  simp only [leastsB, List.mem_map] at hx
  obtain ⟨u, hu, rfl⟩ := hx
  have := leastB_bound (hl.trans (hw u hu).symm) (by omega) h3 (hfin u hu)
  omega
theorem ev_leastFor (l : List (List Int)) (v : List Int) (h : memB l v = true) : Ev (fun k => impl_leastFor.f k l v) (leastsB l v) := by
  unfold impl_leastFor.f
  obtain ⟨hf, hl, h1, h2, h3⟩ := memB_parts h
  obtain ⟨f1, f2, _, _, hw, hfin⟩ := famB_parts hf
  have key : ∀ i, i ≤ l.length → Ev (fun k => impl_leastFor.l0 k v ((leastsB l v).take i) l (l.length : Int) (i : Int)) (leastsB l v) := by
    refine up_to _ ?_ ?_
    · rw [take_all (by simp [leastsB])]
      exact Ev.step (fun k => rfl) (ev_neg (by omega) (Ev.now _))
    · intro i hi ih
      have hm := rrd_mem hi
      have hvl : v.length = (rd_L1 l (i : Int)).length := hl.trans (hw _ hm).symm
      have hdl := diffs_length hvl
      refine Ev.step (fun k => rfl) (ev_pos (by omega) (ev_pos (by omega) (ev_pos (by omega) (Ev.bind (ev_differences v _ hvl (by omega) h3 (hfin _ hm)) (Ev.bind (ev_slicesMax _ (by omega) (by omega)) (ev_pos (by simp; omega) ?_))))))
      rw [wr1 (by omega)]
      have e : (leastsB l v).take i ++ [gmax (rd (diffs v (rd_L1 l (i : Int))) 0) ((diffs v (rd_L1 l (i : Int))).drop 1)] = (leastsB l v).take (i + 1) := by
        rw [leastsB, ← List.map_take, ← List.map_take, take_rrd hi, List.map_append]
        rfl
      rw [e]
      exact ih
  have := key 0 (Nat.zero_le _)
  simpa using this
theorem ev_spLeast (l : List (List Int)) (v : List Int) (h : memB l v = true) : Ev (fun k => spec_spLeast.f k l v) (leastsB l v) := by
  unfold spec_spLeast.f
  obtain ⟨hf, hl, h1, h2, h3⟩ := memB_parts h
  obtain ⟨f1, f2, _, _, hw, hfin⟩ := famB_parts hf
  have key : ∀ i, i ≤ l.length → Ev (fun k => spec_spLeast.l0 k v ((leastsB l v).take i) l (l.length : Int) (i : Int)) (leastsB l v) := by
    refine up_to _ ?_ ?_
    · rw [take_all (by simp [leastsB])]
      exact Ev.step (fun k => rfl) (ev_neg (by omega) (Ev.now _))
    · intro i hi ih
      have hm := rrd_mem hi
      have hvl : v.length = (rd_L1 l (i : Int)).length := hl.trans (hw _ hm).symm
      have hu := hfin _ hm
      generalize hU : rd_L1 l (i : Int) = u at hm hvl hu
      have hdl := diffs_length hvl
      have hb := diffs_bound h3 hu
      have b0 := fin6_rd h3 (by omega : 0 < v.length)
      have c0 := fin6_rd hu (by omega : 0 < u.length)
      refine Ev.step (fun k => rfl) (ev_pos (by omega) (ev_pos (by omega) (ev_pos (by omega) (ev_pos (by omega) (ev_pos (by rw [hU]; omega) ?_)))))
      rw [hU, wr (by simp at b0 c0; omega) (by simp at b0 c0; omega)]
      have hd0 : rd (diffs v u) ((0 : Nat) : Int) = rd v ((0 : Nat) : Int) - rd u ((0 : Nat) : Int) := rd_diffs (by omega) hvl
      have inner : ∀ j, j ≤ u.length → ∀ a, -2000000 ≤ a → a ≤ 2000000 → gmax a ((diffs v u).drop j) = leastB v u → Ev (fun k => spec_spLeast.l1 k v ((leastsB l v).take i) a l (l.length : Int) (i : Int) u (u.length : Int) (j : Int)) (leastsB l v) := by
        refine up_to _ ?_ ?_
        · intro a a1 a2 ha
          rw [drop_all (by omega)] at ha
          refine Ev.step (fun k => rfl) (ev_neg (by omega) (ev_pos (by simp; omega) ?_))
          rw [wr1 (by omega)]
          have e : (leastsB l v).take i ++ [a] = (leastsB l v).take (i + 1) := by
            have ha' : a = leastB v u := ha
            rw [ha', leastsB, ← List.map_take, ← List.map_take, take_rrd hi, List.map_append, hU]
            rfl
          rw [e]
          exact ih
        · intro j hj ih2 a a1 a2 ha
          have b1 := fin6_rd h3 (by omega : j < v.length)
          have c1 := fin6_rd hu hj
          refine Ev.step (fun k => rfl) (ev_pos (by omega) (ev_pos (by omega) (ev_pos (by omega) (ev_pos (by omega) (Ev.bind (ev_const (l1Most_eq _ _)) ?_)))))
          rw [wr1 (by omega), wr (by omega) (by omega), ← rd_diffs (by omega : j < v.length) hvl]
          have d := rd_diffs (by omega : j < v.length) hvl
          refine ih2 _ (by omega) (by omega) ?_
          rw [← ha, drop_rd (by omega : j < (diffs v u).length)]
          rfl
      refine inner 0 (Nat.zero_le _) _ (by simp at b0 c0; omega) (by simp at b0 c0; omega) ?_
      have e1 : rd v 0 - rd u 0 = rd (diffs v u) 0 := hd0.symm
      rw [e1, drop_rd (xs := diffs v u) (i := 0) (by omega)]
      exact gmax_skip (Int.le_refl _)
  have := key 0 (Nat.zero_le _)
  simpa using this
theorem ev_implLeast (l : List (List Int)) (v : List Int) (hs : Short l) (hv : (v.length : Int) ≤ 1048576) : Ev (fun k => impl_LeastCoefficientsFor.f k l v) (if memB l v = true then (leastsB l v, true) else ([], false)) := by
  unfold impl_LeastCoefficientsFor.f
  refine Ev.bind (ev_isMember l v hs hv) ?_
  cases h : memB l v with
  | false => exact ev_false (Ev.now _)
  | true => exact ev_true (ev_bind0 (ev_leastFor l v h) rfl)
theorem ev_specLeast (l : List (List Int)) (v : List Int) (hs : Short l) (hv : (v.length : Int) ≤ 1048576) : Ev (fun k => spec_LeastCoefficientsFor.f k l v) (if memB l v = true then (leastsB l v, true) else ([], false)) := by
  unfold spec_LeastCoefficientsFor.f
  refine Ev.bind (ev_spAsked l v hs hv) ?_
  cases h : memB l v with
  | false => exact ev_false (Ev.now _)
  | true => exact ev_true (ev_bind0 (ev_spLeast l v h) rfl)
/-- The projection. -/
def projB (l : List (List Int)) (v : List Int) : List Int := combB l (leastsB l v)
theorem leastsB_length (l : List (List Int)) (v : List Int) : (leastsB l v).length = l.length := by simp [leastsB]
theorem ev_implProject (l : List (List Int)) (v : List Int) (hs : Short l) (hv : (v.length : Int) ≤ 1048576) : Ev (fun k => impl_ProjectVector.f k l v) (if memB l v = true then (projB l v, true) else ([], false)) := by
  unfold impl_ProjectVector.f
  refine Ev.bind (ev_isMember l v hs hv) ?_
  cases h : memB l v with
  | false => exact ev_false (Ev.now _)
  | true => exact ev_true (Ev.bind (ev_leastFor l v h) (ev_bind0 (ev_combination l _ (memB_parts h).1 hs (leastsB_length l v) (leastsB_within h)) rfl))
theorem ev_spProject (l : List (List Int)) (v : List Int) (hs : Short l) (h : memB l v = true) : Ev (fun k => spec_spProject.f k l v) (projB l v) := by
  unfold spec_spProject.f
  exact Ev.bind (ev_spLeast l v h) (ev_bind0 (ev_spCombine l _ (memB_parts h).1 hs (leastsB_length l v) (leastsB_within h)) rfl)
theorem ev_specProject (l : List (List Int)) (v : List Int) (hs : Short l) (hv : (v.length : Int) ≤ 1048576) : Ev (fun k => spec_ProjectVector.f k l v) (if memB l v = true then (projB l v, true) else ([], false)) := by
  unfold spec_ProjectVector.f
  refine Ev.bind (ev_spAsked l v hs hv) ?_
  cases h : memB l v with
  | false => exact ev_false (Ev.now _)
  | true => exact ev_true (ev_bind0 (ev_spProject l v hs h) rfl)
/-- Two lists compared with their length asked first. -/
theorem ev_same2 {L : Nat → Int → Option Bool} {xs ys : List Int} (hn : (xs.length : Int) ≤ 140737488355328) (he : xs.length = ys.length)
    (hL : ∀ k i, L (k + 1) i = if i < (xs.length : Int) then (if 0 ≤ i then (if i < (xs.length : Int) then (if i < (ys.length : Int) then (if rd xs i = rd ys i then L k (wrap64 (i + 1)) else some false) else none) else none) else none) else some true)
    : Ev (fun k => L k 0) (decide (xs = ys)) := by
  have key : ∀ i, i ≤ xs.length → Ev (fun k => L k (i : Int)) (decide (xs.drop i = ys.drop i)) := by
    refine up_to _ ?_ ?_
    · rw [drop_all (Nat.le_refl _), drop_all (by omega)]
      exact Ev.step (fun k => hL k _) (ev_neg (by omega) (ev_eq (by simp) (Ev.now true)))
    · intro i hi ih
      rw [drop_rd hi, drop_rd (by omega : i < ys.length)]
      refine Ev.step (fun k => hL k _) (ev_pos (by omega) (ev_pos (by omega) (ev_pos (by omega) (ev_pos (by omega) ?_))))
      rw [wr1 (by omega)]
      by_cases e : rd xs (i : Int) = rd ys (i : Int)
      · refine ev_pos e (ev_eq ?_ ih)
        simp [e]
      · refine ev_neg e (ev_eq ?_ (Ev.now false))
        simp [e]
  have := key 0 (Nat.zero_le _)
  simpa using this
theorem ev_slicesEqual (a b : List Int) (hn : (a.length : Int) ≤ 140737488355328) : Ev (fun k => slices_Equal_int_int.f k a b) (decide (a = b)) := by
  unfold slices_Equal_int_int.f
  by_cases h : a.length = b.length
  · exact ev_pos (by omega) (ev_same2 (L := fun k i => slices_Equal_int_int.l0 k a b (a.length : Int) i) hn h (fun _ _ => rfl))
  · refine ev_neg (by omega) (ev_const ?_)
    have : ¬ a = b := fun e => h (by rw [e])
    simp [this]
theorem ev_l1Same (a b : List Int) (hn : (a.length : Int) ≤ 140737488355328) : Ev (fun k => spec_l1Same.f k a b) (decide (a = b)) := by
  unfold spec_l1Same.f
  by_cases h : a.length = b.length
  · exact ev_pos (by omega) (ev_same2 (L := fun k i => spec_l1Same.l0 k a b (a.length : Int) i) hn h (fun _ _ => rfl))
  · refine ev_neg (by omega) (ev_const ?_)
    have : ¬ a = b := fun e => h (by rw [e])
    simp [this]
theorem projB_short {l : List (List Int)} {v : List Int} (h : memB l v = true) : ((projB l v).length : Int) ≤ 6 := by
  obtain ⟨hf, hl, h1, h2, h3⟩ := memB_parts h
  rw [projB, combB_length]
  omega
theorem ev_isIn (l : List (List Int)) (v : List Int) (hs : Short l) (h : memB l v = true) : Ev (fun k => impl_isIn.f k l v) (decide (projB l v = v)) := by
  unfold impl_isIn.f
  have hf := (memB_parts h).1
  have h1 := (famB_parts hf).1
  have := projB_short h
  exact ev_pos (by omega) (Ev.bind (ev_leastFor l v h) (Ev.bind (ev_combination l _ hf hs (leastsB_length l v) (leastsB_within h)) (ev_bind0 (ev_slicesEqual (projB l v) v (by omega)) rfl)))
theorem ev_spIn (l : List (List Int)) (v : List Int) (hs : Short l) (h : memB l v = true) : Ev (fun k => spec_spIn.f k l v) (decide (projB l v = v)) := by
  unfold spec_spIn.f
  have := projB_short h
  exact Ev.bind (ev_spProject l v hs h) (ev_bind0 (ev_l1Same (projB l v) v (by omega)) rfl)
theorem ev_implIsInSpan (l : List (List Int)) (v : List Int) (hs : Short l) (hv : (v.length : Int) ≤ 1048576) : Ev (fun k => impl_IsInSpan.f k l v) (if memB l v = true then (decide (projB l v = v), true) else (false, false)) := by
  unfold impl_IsInSpan.f
  refine Ev.bind (ev_isMember l v hs hv) ?_
  cases h : memB l v with
  | false => exact ev_false (Ev.now _)
  | true => exact ev_true (ev_bind0 (ev_isIn l v hs h) rfl)
theorem ev_specIsInSpan (l : List (List Int)) (v : List Int) (hs : Short l) (hv : (v.length : Int) ≤ 1048576) : Ev (fun k => spec_IsInSpan.f k l v) (if memB l v = true then (decide (projB l v = v), true) else (false, false)) := by
  unfold spec_IsInSpan.f
  refine Ev.bind (ev_spAsked l v hs hv) ?_
  cases h : memB l v with
  | false => exact ev_false (Ev.now _)
  | true => exact ev_true (ev_bind0 (ev_spIn l v hs h) rfl)
end Go.Proofs.Ytjpcjoepcibklaa.Pure
