/- Families, combinations, least coefficients: the program and the reference come to the same. Condition: lists no longer than memory allows. -/
import Derived.Test.YtjpcjoepcibklaaPuApart
import Derived.Test.YtjpcjoepcibklaaPuMat
import Derived.Test.YtjpcjoepcibklaaX0
import Derived.Test.YtjpcjoepcibklaaX5
import Derived.Test.YtjpcjoepcibklaaX6
import Derived.Test.YtjpcjoepcibklaaX7
namespace Go.Proofs.Ytjpcjoepcibklaa.Pure
open Go.RowKit Go.Proofs.Ytjpcjoepcibklaa.X Go.Proofs.YtjpcjoepcibklaaW.PrintWords Go.Proofs.YtjpcjoepcibklaaW.PrintMore
set_option linter.unusedVariables false
set_option linter.unusedSimpArgs false

/-- A family. -/
def famB (l : List (List Int)) : Bool := decide (1 ≤ l.length ∧ l.length ≤ 6) && l.all fun r => fvecB r && decide (r.length = (l.getD 0 []).length)
theorem fvec_vec {r : List Int} (h : fvecB r = true) : vecB r = true := by
  simp only [fvecB, vecB, Bool.and_eq_true] at h ⊢
  exact ⟨h.1, all_fin_num h.2⟩
theorem fam_mat {l : List (List Int)} (h : famB l = true) : matB l = true := by
  simp only [famB, matB, Bool.and_eq_true, List.all_eq_true] at h ⊢
  exact ⟨h.1, fun r hr => ⟨fvec_vec (h.2 r hr).1, (h.2 r hr).2⟩⟩
theorem ev_isFamily (l : List (List Int)) (h : Short l) : Ev (fun k => impl_isFamily.f k l) (famB l) := by
  unfold impl_isFamily.f
  refine Ev.bind (ev_isMatrix l h) ?_
  cases hm : matB l with
  | false =>
    refine ev_false (ev_const ?_)
    cases hf : famB l with
    | false => rfl
    | true => rw [fam_mat hf] at hm; cases hm
  | true =>
    have e : Ev (fun k => Ext.anyO (impl_isFamily.g k) l) (l.any fun r => !(fvecB r)) := by
      refine Ext.ev_anyO l fun r hr => ?_
      unfold impl_isFamily.g
      exact ev_bind0 (ev_isFiniteVector r (by have := h.2 r hr; omega)) rfl
    refine ev_true (ev_bind0 e ?_)
    congr 1
    simp only [matB, Bool.and_eq_true, List.all_eq_true] at hm
    rw [Bool.eq_iff_iff]
    simp only [famB, Bool.not_eq_true', List.any_eq_false, Bool.and_eq_true, List.all_eq_true]
    constructor
    · intro h1
      exact ⟨hm.1, fun r hr => ⟨by simpa using h1 r hr, (hm.2 r hr).2⟩⟩
    · intro h1 r hr
      simp [(h1.2 r hr).1]
theorem ev_spFamily (l : List (List Int)) (h : Short l) : Ev (fun k => spec_spFamily.f k l) (famB l) := by
  unfold spec_spFamily.f
  have key : ∀ i, i ≤ l.length → Ev (fun k => spec_spFamily.l0 k l l (l.length : Int) (i : Int)) (decide (1 ≤ l.length ∧ l.length ≤ 6) && (l.drop i).all fun r => fvecB r && decide (r.length = (l.getD 0 []).length)) := by
    refine up_to _ ?_ ?_
    · rw [drop_all (Nat.le_refl _)]
      refine Ev.step (fun k => rfl) (ev_neg (by omega) (Ev.bind (ev_const (l1In_eq _ _ _)) (ev_const ?_)))
      rw [List.all_nil, Bool.and_true]
      congr 1
      rw [decide_eq_decide]
      omega
    · intro i hi ih
      rw [drop_rrd hi]
      have hr := rrd_mem hi
      refine Ev.step (fun k => rfl) (ev_pos (by omega) (ev_pos (by omega) (ev_pos (by omega) (Ev.bind (ev_spVector _ (by have := h.2 _ hr; omega)) ?_))))
      cases hv : fvecB (rd_L1 l (i : Int)) with
      | false => exact ev_false (ev_const (by simp [hv]))
      | true =>
        refine ev_true (ev_pos (by omega) ?_)
        by_cases e : (rd_L1 l (i : Int)).length = (l.getD 0 []).length
        · refine ev_pos (by rw [rrd_zero]; omega) ?_
          rw [wr1 (by have := h.1; omega)]
          refine ev_eq ?_ ih
          rw [List.all_cons, hv, decide_eq_true e]
          simp
        · refine ev_neg (by rw [rrd_zero]; omega) (ev_const ?_)
          rw [List.all_cons, hv, decide_eq_false e]
          simp
  have := key 0 (Nat.zero_le _)
  simpa [famB] using this
theorem famB_parts {l : List (List Int)} (h : famB l = true) : 1 ≤ l.length ∧ l.length ≤ 6 ∧ 1 ≤ (l.getD 0 []).length ∧ (l.getD 0 []).length ≤ 6 ∧ Wide l (l.getD 0 []).length ∧ ∀ r ∈ l, Fin6 r := by
  have hm := matB_parts (fam_mat h)
  refine ⟨hm.1, hm.2.1, hm.2.2.1, hm.2.2.2.1, hm.2.2.2.2.1, fun r hr => ?_⟩
  simp only [famB, Bool.and_eq_true, List.all_eq_true] at h
  exact (fvecB_iff.1 (h.2 r hr).1).2

theorem prodB_fin {a b : Int} (h1 : a ≤ 90000000) (h2 : b ≤ 90000000) : prodB a b = a + b := by
  unfold prodB
  rw [if_neg (by omega), if_neg (by omega)]
theorem fin_mild {l : List Int} (h : Fin6 l) : Mild l := fun x hx => by have := h x hx; omega
/-- Numbers of some size. -/
def Within (B : Int) (l : List Int) : Prop := ∀ x ∈ l, -B ≤ x ∧ x ≤ B
theorem within_rd {B : Int} {l : List Int} (h : Within B l) {i : Nat} (hi : i < l.length) : -B ≤ rd l (i : Int) ∧ rd l (i : Int) ≤ B := h _ (rd_mem hi)
/-- A combination. -/
def combB (l : List (List Int)) (x : List Int) : List Int := applyB (turned l (l.getD 0 []).length) x
theorem ev_combination (l : List (List Int)) (x : List Int) (hf : famB l = true) (hs : Short l) (hx : x.length = l.length) (hb : Within 90000000 x) : Ev (fun k => impl_combination.f k l x) (combB l x) := by
  unfold impl_combination.f
  obtain ⟨h1, h2, h3, h4, h5, h6⟩ := famB_parts hf
  refine Ev.bind (ev_transposed l (by omega) _ rfl h5 hs) (ev_bind0 (ev_applied _ x ?_ ?_ ?_ (fun y hy => by have := hb y hy; omega)) rfl)
  · refine ⟨by rw [turned_length]; omega, fun r hr => ?_⟩
    obtain ⟨k, hk, rfl⟩ := turned_mem hr
    simp [col]
    omega
  · intro r hr
    obtain ⟨k, hk, rfl⟩ := turned_mem hr
    simp [col]
    omega
  · intro r hr
    obtain ⟨k, hk, rfl⟩ := turned_mem hr
    intro y hy
    simp only [col, List.mem_map] at hy
    obtain ⟨v, hv, rfl⟩ := hy
    have := fin6_rd (h6 v hv) (by rw [h5 v hv]; exact hk : k < v.length)
    omega
theorem combB_length (l : List (List Int)) (x : List Int) : (combB l x).length = (l.getD 0 []).length := by simp [combB, applyB, turned]
theorem col_drop {l : List (List Int)} {i k : Nat} (h : i < l.length) : (col l k).drop i = rd (rd_L1 l (i : Int)) (k : Int) :: (col l k).drop (i + 1) := by
  unfold col
  rw [← List.map_drop, drop_rrd h, List.map_cons, List.map_drop]
theorem rd_turned {l : List (List Int)} {m k : Nat} (h : k < m) : rd_L1 (turned l m) (k : Int) = col l k := by
  rw [rrd_get (by rw [turned_length]; exact h)]
  simp [turned]
theorem rd_combB {l : List (List Int)} {x : List Int} {k : Nat} (h : k < (l.getD 0 []).length) : rd (combB l x) (k : Int) = dotB 1000000000 (col l k) x := by
  rw [rd_get (by rw [combB_length]; exact h)]
  simp only [combB, applyB, List.getElem_map, turned, List.getElem_range]
theorem dot_step {i : Nat} {a : Int} {r x : List Int} (h1 : i < r.length) (h2 : i < x.length) (b1 : rd r (i : Int) ≤ 90000000) (b2 : rd x (i : Int) ≤ 90000000) : dotB a (r.drop i) (x.drop i) = dotB (min a (rd x (i : Int) + rd r (i : Int))) (r.drop (i + 1)) (x.drop (i + 1)) := by
  rw [dotB, dotB, zip_drop h1 h2, List.foldl_cons, prodB_fin b1 b2, Int.add_comm]
theorem ev_spCombine (l : List (List Int)) (x : List Int) (hf : famB l = true) (hs : Short l) (hx : x.length = l.length) (hb : Within 90000000 x) : Ev (fun k => spec_spCombine.f k l x) (combB l x) := by
  unfold spec_spCombine.f
  obtain ⟨h1, h2, h3, h4, h5, h6⟩ := famB_parts hf
  have hm : ∃ m, m = (l.getD 0 []).length := ⟨_, rfl⟩
  obtain ⟨m, hm⟩ := hm
  refine ev_pos (by omega) ?_
  have e0 : ((rd_L1 l 0).length : Int) = (m : Int) := by rw [rrd_zero, hm]
  rw [e0]
  rw [← hm] at h3 h4 h5
  have hcl := combB_length l x
  rw [← hm] at hcl
  have key : ∀ kk, kk ≤ m → Ev (fun k => spec_spCombine.l0 k l x ((combB l x).take kk) (m : Int) (kk : Int)) (combB l x) := by
    refine up_to _ ?_ ?_
    · rw [take_all (by omega)]
      exact Ev.step (fun k => rfl) (ev_neg (by omega) (Ev.now _))
    · intro kk hkk ih
      refine Ev.step (fun k => rfl) (ev_pos (by omega) ?_)
      have inner : ∀ i, i ≤ l.length → ∀ a, dotB a ((col l kk).drop i) (x.drop i) = rd (combB l x) (kk : Int) → Ev (fun k => spec_spCombine.l1 k l x ((combB l x).take kk) (kk : Int) a (m : Int) (kk : Int) l (l.length : Int) (i : Int)) (combB l x) := by
        refine up_to _ ?_ ?_
        · intro a ha
          rw [drop_all (by simp [col]), drop_all (by omega)] at ha
          have ha' : a = rd (combB l x) (kk : Int) := ha
          refine Ev.step (fun k => rfl) (ev_neg (by omega) (ev_pos (by simp; omega) ?_))
          rw [wr1 (by omega), ha', ← take_rd (by omega)]
          exact ih
        · intro i hi ih2 a ha
          have hri := rrd_mem hi
          have b1 := fin6_rd (h6 _ hri) (by rw [h5 _ hri]; exact hkk : kk < (rd_L1 l (i : Int)).length)
          have b2 := within_rd hb (by omega : i < x.length)
          have hcr : rd (col l kk) (i : Int) = rd (rd_L1 l (i : Int)) (kk : Int) := by
            rw [rd_get (by simp [col]; exact hi)]
            simp only [col, List.getElem_map]
            rw [rrd_get hi]
          refine Ev.step (fun k => rfl) (ev_pos (by omega) (ev_pos (by omega) (ev_pos (by omega) (ev_pos (by omega) (ev_pos (by omega) (ev_pos (by rw [h5 _ hri]; omega) (Ev.bind (ev_const (l1Least_eq _ _)) ?_)))))))
          rw [wr1 (by omega), wr (by omega) (by omega)]
          refine ih2 _ ?_
          rw [← hcr, ← dot_step (by simp [col]; exact hi) (by omega) (by rw [hcr]; omega) (by omega)]
          exact ha
      refine inner 0 (Nat.zero_le _) 1000000000 ?_
      rw [rd_combB (by omega), List.drop_zero, List.drop_zero]
  have := key 0 (Nat.zero_le _)
  simpa using this

/-- What a combination asks. -/
theorem ev_implCombineVectors (l : List (List Int)) (x : List Int) (hs : Short l) (hx : (x.length : Int) ≤ 1048576) : Ev (fun k => impl_CombineVectors.f k l x) (if famB l = true ∧ x.length = l.length ∧ x.all finB = true then (combB l x, true) else ([], false)) := by
  unfold impl_CombineVectors.f
  refine Ev.bind (ev_isFamily l hs) ?_
  cases hf : famB l with
  | false => exact ev_false (ev_const (by simp))
  | true =>
    refine ev_true ?_
    by_cases h : x.length = l.length
    · refine ev_pos (by omega) (Ev.bind (ev_areFinite x (by omega)) ?_)
      cases ha : x.all finB with
      | false => exact ev_false (ev_const (by simp))
      | true =>
        refine ev_true (ev_bind0 (ev_combination l x hf hs h (fun y hy => ?_)) (by simp [h]))
        rw [List.all_eq_true] at ha
        have := finB_iff.1 (ha y hy)
        omega
    · exact ev_neg (by omega) (ev_const (by simp [h]))
theorem ev_specCombineVectors (l : List (List Int)) (x : List Int) (hs : Short l) (hx : (x.length : Int) ≤ 1048576) : Ev (fun k => spec_CombineVectors.f k l x) (if famB l = true ∧ x.length = l.length ∧ x.all finB = true then (combB l x, true) else ([], false)) := by
  unfold spec_CombineVectors.f
  refine Ev.bind (ev_spFamily l hs) ?_
  cases hf : famB l with
  | false => exact ev_false (ev_const (by simp))
  | true =>
    refine ev_true ?_
    by_cases h : x.length = l.length
    · refine ev_pos (by omega) (Ev.bind (ev_l1AllFin x (by omega)) ?_)
      cases ha : x.all finB with
      | false => exact ev_false (ev_const (by simp))
      | true =>
        refine ev_true (ev_bind0 (ev_spCombine l x hf hs h (fun y hy => ?_)) (by simp [h]))
        rw [List.all_eq_true] at ha
        have := finB_iff.1 (ha y hy)
        omega
    · exact ev_neg (by omega) (ev_const (by simp [h]))
end Go.Proofs.Ytjpcjoepcibklaa.Pure
