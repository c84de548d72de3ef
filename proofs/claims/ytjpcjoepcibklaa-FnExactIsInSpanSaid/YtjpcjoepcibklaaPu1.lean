/- What the small tests of numbers and vectors come to, the program's and the reference's. Condition: lists no longer than memory allows. -/
import Derived.Test.YtjpcjoepcibklaaPu0
import Derived.Test.YtjpcjoepcibklaaX1
import Derived.Test.YtjpcjoepcibklaaX2
import Derived.Test.YtjpcjoepcibklaaX3
namespace Go.Proofs.Ytjpcjoepcibklaa.Pure
open Go.RowKit Go.Proofs.Ytjpcjoepcibklaa.X Go.Proofs.YtjpcjoepcibklaaW.PrintWords Go.Proofs.YtjpcjoepcibklaaW.PrintMore
set_option linter.unusedVariables false
set_option linter.unusedSimpArgs false

/-- A number other than Infinity. -/
def finB (n : Int) : Bool := decide (-1000000 ≤ n ∧ n ≤ 1000000)
def numB (n : Int) : Bool := finB n || n == 1000000000
/-- A vector of 1 to 6 numbers other than Infinity. -/
def fvecB (l : List Int) : Bool := decide (1 ≤ l.length ∧ l.length ≤ 6) && l.all finB
def vecB (l : List Int) : Bool := decide (1 ≤ l.length ∧ l.length ≤ 6) && l.all numB
theorem finB_iff {n : Int} : finB n = true ↔ -1000000 ≤ n ∧ n ≤ 1000000 := by simp [finB]
theorem within_eq (a b c : Int) : impl_within.f a b c = some (decide (b ≤ a ∧ a ≤ c)) := by
  unfold impl_within.f
  by_cases h : a ≥ b
  · rw [if_pos h]; simp; omega
  · rw [if_neg h]; simp; omega
theorem l1In_eq (a b c : Int) : spec_l1In.f a b c = some (decide (b ≤ a ∧ a ≤ c)) := by
  unfold spec_l1In.f
  by_cases h : a ≥ b
  · rw [if_pos h]; simp; omega
  · rw [if_neg h]; simp; omega
theorem isFinite_eq (n : Int) : impl_isFinite.f n = some (finB n) := by
  unfold impl_isFinite.f finB
  by_cases h : n ≥ -1000000
  · rw [if_pos h]; simp; omega
  · rw [if_neg h]; simp; omega
theorem isNumber_eq (n : Int) : impl_isNumber.f n = some (numB n) := by
  unfold impl_isNumber.f numB
  rw [isFinite_eq, Option.bind_some]
  cases finB n <;> simp
theorem ev_areFinite (l : List Int) (hn : (l.length : Int) ≤ 140737488355328) : Ev (fun k => impl_areFinite.f k l) (l.all finB) :=
  ev_all hn (T := fun _ x => impl_isFinite.f x) (fun _ _ => rfl) (fun x _ => ev_const (isFinite_eq x))
theorem ev_areNumbers (l : List Int) (hn : (l.length : Int) ≤ 140737488355328) : Ev (fun k => impl_areNumbers.f k l) (l.all numB) :=
  ev_all hn (T := fun _ x => impl_isNumber.f x) (fun _ _ => rfl) (fun x _ => ev_const (isNumber_eq x))
theorem ev_isVector (l : List Int) (hn : (l.length : Int) ≤ 140737488355328) : Ev (fun k => impl_isVector.f k l) (vecB l) := by
  unfold impl_isVector.f
  refine Ev.bind (ev_const (within_eq _ _ _)) ?_
  by_cases h : 1 ≤ l.length ∧ l.length ≤ 6
  · refine ev_pos (by simp; omega) (ev_bind0 (ev_areNumbers l hn) ?_)
    simp [vecB, h]
  · refine ev_neg (by simp; omega) (ev_const ?_)
    simp [vecB, h]
theorem finB_num {n : Int} (h : finB n = true) : numB n = true := by simp [numB, h]
theorem all_fin_num {l : List Int} (h : l.all finB = true) : l.all numB = true := by
  rw [List.all_eq_true] at h ⊢
  exact fun x hx => finB_num (h x hx)
theorem ev_isFiniteVector (l : List Int) (hn : (l.length : Int) ≤ 140737488355328) : Ev (fun k => impl_isFiniteVector.f k l) (fvecB l) := by
  unfold impl_isFiniteVector.f
  refine Ev.bind (ev_isVector l hn) ?_
  cases h : vecB l with
  | true =>
    refine ev_true (ev_bind0 (ev_areFinite l hn) ?_)
    simp only [vecB, Bool.and_eq_true] at h
    simp [fvecB, h.1]
  | false =>
    refine ev_false (ev_const ?_)
    have : fvecB l = false := by
      cases h2 : fvecB l with
      | false => rfl
      | true =>
        simp only [fvecB, Bool.and_eq_true] at h2
        rw [vecB, h2.1, all_fin_num h2.2] at h
        cases h
    rw [this]
theorem ev_l1All (l : List Int) (lo hi : Int) (hn : (l.length : Int) ≤ 140737488355328) : Ev (fun k => spec_l1All.f k l lo hi) (l.all fun n => decide (lo ≤ n ∧ n ≤ hi)) :=
  ev_all hn (L := fun k i => spec_l1All.l0 k lo hi l (l.length : Int) i) (T := fun _ x => spec_l1In.f x lo hi) (fun _ _ => rfl) (fun x _ => ev_const (l1In_eq x lo hi))
theorem ev_l1AllFin (l : List Int) (hn : (l.length : Int) ≤ 140737488355328) : Ev (fun k => spec_l1All.f k l (-1000000) 1000000) (l.all finB) := ev_l1All l _ _ hn
theorem ev_toIntS (l : List Int) (hn : (l.length : Int) ≤ 35184372088832) : Ev (fun k => laws_toIntS.f k l) l := by
  unfold laws_toIntS.f
  refine ev_pos (by omega) (ev_pos (by omega) ?_)
  have e : ((l.length : Int) : Int).toNat = l.length := by omega
  rw [e]
  exact ev_copy (L := fun k ys i => laws_toIntS.l0 k l ys i) (by omega) (fun _ _ _ => rfl)
theorem ev_eqIntS (a b : List Int) (hn : (a.length : Int) ≤ 140737488355328) : Ev (fun k => laws_eqIntS.f k a b) (decide (a = b)) := by
  unfold laws_eqIntS.f
  by_cases h : a.length = b.length
  · exact ev_pos (by omega) (ev_same (L := fun k i => laws_eqIntS.l0 k a b i) hn h (fun _ _ => rfl))
  · refine ev_neg (by omega) (ev_const ?_)
    have : ¬ a = b := fun e => h (by rw [e])
    simp [this]
end Go.Proofs.Ytjpcjoepcibklaa.Pure
