/- What the laws' own helpers over numbers and rows of numbers come to (copied, compared, sized, marked, held). Condition: lists no longer than memory allows. -/
import Derived.Test.YtjpcjoepcibklaaPu1
import Derived.Test.YtjpcjoepcibklaaX0
import Derived.Test.YtjpcjoepcibklaaX13
import Derived.Test.YtjpcjoepcibklaaX4
import Derived.Test.YtjpcjoepcibklaaX5
import Derived.Test.YtjpcjoepcibklaaX6
import Derived.Test.YtjpcjoepcibklaaX7
import Derived.Test.YtjpcjoepcibklaaX8
namespace Go.Proofs.Ytjpcjoepcibklaa.Pure
open Go.RowKit Go.Proofs.Ytjpcjoepcibklaa.X Go.Proofs.YtjpcjoepcibklaaW.PrintWords Go.Proofs.YtjpcjoepcibklaaW.PrintMore
set_option linter.unusedVariables false
set_option linter.unusedSimpArgs false

/-- How many numbers rows have together. -/
def tot (xs : List (List Int)) : Nat := (xs.map List.length).sum
theorem tot_cons (r : List Int) (xs : List (List Int)) : tot (r :: xs) = r.length + tot xs := rfl
theorem tot_append (xs ys : List (List Int)) : tot (xs ++ ys) = tot xs + tot ys := by simp [tot]
theorem tot_mem {r : List Int} {xs : List (List Int)} (h : r ∈ xs) : r.length ≤ tot xs := by
  induction xs with
  | nil => cases h
  | cons y ys ih =>
    rw [tot_cons]
    rcases List.mem_cons.1 h with rfl | h
    · omega
    · have := ih h; omega
theorem rdr_get {xs : List (List Int)} {i : Nat} (h : i < xs.length) : rd_L1 xs (i : Int) = xs[i] := by simp [rd_L1, h]
theorem rdr_mem {xs : List (List Int)} {i : Nat} (h : i < xs.length) : rd_L1 xs (i : Int) ∈ xs := by rw [rdr_get h]; exact List.getElem_mem h
theorem drop_rdr {xs : List (List Int)} {i : Nat} (h : i < xs.length) : xs.drop i = rd_L1 xs (i : Int) :: xs.drop (i + 1) := by rw [List.drop_eq_getElem_cons h, rdr_get h]
theorem take_rdr {xs : List (List Int)} {i : Nat} (h : i < xs.length) : xs.take (i + 1) = xs.take i ++ [rd_L1 xs (i : Int)] := by rw [List.take_succ_eq_append_getElem h, rdr_get h]

/-- The marks from a on. -/
def marks : Int → Nat → List Int
  | _, 0 => []
  | a, n + 1 => a :: marks (a + 1) n
theorem marks_length : ∀ (a : Int) (n : Nat), (marks a n).length = n
  | _, 0 => rfl
  | a, n + 1 => by simp [marks, marks_length (a + 1) n]
def marksS : Int → List (List Int) → List (List Int)
  | _, [] => []
  | a, r :: rest => marks a r.length :: marksS (a + (r.length : Int)) rest

theorem szIntS_eq (l : List Int) (left : Int) (h0 : 0 ≤ left) (h1 : left ≤ 1048576) (hn : (l.length : Int) ≤ 9223372036854775807) : laws_szIntS.f l left = some (if (l.length : Int) ≤ left then left - (l.length : Int) else -1) := by
  unfold laws_szIntS.f
  rw [wr (by omega) (by omega)]
  by_cases h : (l.length : Int) ≤ left
  · rw [if_neg (by omega), if_pos h]
  · rw [if_pos (by omega), if_neg h]
theorem ev_szIntSS (xs : List (List Int)) (left : Int) (h0 : 0 ≤ left) (h1 : left ≤ 1048576) (hn : (xs.length : Int) ≤ 140737488355328) (hr : ∀ r ∈ xs, (r.length : Int) ≤ 9223372036854775807) :
    Ev (fun k => laws_szIntSS.f k xs left) (if (xs.length : Int) + (tot xs : Int) ≤ left then left - ((xs.length : Int) + (tot xs : Int)) else -1) := by
  unfold laws_szIntSS.f
  rw [wr (by omega) (by omega)]
  by_cases h : left - (xs.length : Int) < 0
  · refine ev_pos h (ev_const ?_)
    rw [if_neg (by omega)]
  · refine ev_neg h ?_
    have key : ∀ i, i ≤ xs.length → ∀ b : Int, 0 ≤ b → b ≤ 1048576 → Ev (fun k => laws_szIntSS.l0 k xs b (i : Int)) (if (tot (xs.drop i) : Int) ≤ b then b - (tot (xs.drop i) : Int) else -1) := by
      refine up_to _ ?_ ?_
      · intro b b0 b1
        rw [drop_all (Nat.le_refl _)]
        refine Ev.step (fun k => rfl) (ev_neg (by omega) (ev_const ?_))
        simp [tot, b0]
      · intro i hi ih b b0 b1
        rw [drop_rdr hi, tot_cons]
        refine Ev.step (fun k => rfl) (ev_pos (by omega) (ev_pos (by omega) (Ev.bind (ev_const (szIntS_eq _ b b0 b1 (hr _ (rdr_mem hi)))) ?_)))
        by_cases hh : ((rd_L1 xs (i : Int)).length : Int) ≤ b
        · rw [if_pos hh]
          refine ev_neg (by omega) ?_
          rw [wr1 (by omega)]
          refine ev_eq ?_ (ih _ (by omega) (by omega))
          by_cases h3 : ((tot (xs.drop (i + 1)) : Nat) : Int) ≤ b - ((rd_L1 xs (i : Int)).length : Int)
          · rw [if_pos h3, if_pos (by omega)]; omega
          · rw [if_neg h3, if_neg (by omega)]
        · rw [if_neg hh]
          refine ev_pos (by omega) (ev_const ?_)
          rw [if_neg (by omega)]
    have := key 0 (Nat.zero_le _) (left - (xs.length : Int)) (by omega) (by omega)
    rw [List.drop_zero] at this
    refine ev_eq ?_ this
    by_cases h3 : ((tot xs : Nat) : Int) ≤ left - (xs.length : Int)
    · rw [if_pos h3, if_pos (by omega)]; omega
    · rw [if_neg h3, if_neg (by omega)]
theorem ev_toIntSS (xs : List (List Int)) (hn : (xs.length : Int) ≤ 11728124029610) (hr : ∀ r ∈ xs, (r.length : Int) ≤ 35184372088832) : Ev (fun k => laws_toIntSS.f k xs) xs := by
  unfold laws_toIntSS.f
  refine ev_pos (by omega) (ev_pos (by omega) ?_)
  have e : ((xs.length : Int) : Int).toNat = xs.length := by omega
  rw [e]
  have key : ∀ i, i ≤ xs.length → Ev (fun k => laws_toIntSS.l0 k xs (xs.take i ++ List.replicate (xs.length - i) []) (i : Int)) xs := by
    refine up_to _ ?_ ?_
    · rw [take_all (Nat.le_refl _), Nat.sub_self, List.replicate_zero, List.append_nil]
      exact Ev.step (fun k => rfl) (ev_neg (by omega) (Ev.now xs))
    · intro i hi ih
      refine Ev.step (fun k => rfl) (ev_pos (by omega) (ev_pos (by omega) (Ev.bind (ev_toIntS (rd_L1 xs (i : Int)) (hr _ (rdr_mem hi))) (ev_pos (by simp; omega) ?_))))
      rw [wr1 (by omega)]
      have e : (xs.take i ++ List.replicate (xs.length - i) []).set ((i : Int).toNat) (rd_L1 xs (i : Int)) = xs.take (i + 1) ++ List.replicate (xs.length - (i + 1)) [] := by
        rw [take_rdr hi]
        have e2 : xs.length - i = (xs.length - (i + 1)) + 1 := by omega
        rw [e2, List.replicate_succ, Int.toNat_natCast, List.set_append_right _ _ (by simp; omega)]
        have e3 : i - (xs.take i).length = 0 := by simp; omega
        rw [e3]
        simp
      rw [e]
      exact ih
  have := key 0 (Nat.zero_le _)
  simpa using this
theorem ev_eqIntSS (xs : List (List Int)) (hn : (xs.length : Int) ≤ 140737488355328) (hr : ∀ r ∈ xs, (r.length : Int) ≤ 140737488355328) : Ev (fun k => laws_eqIntSS.f k xs xs) true := by
  unfold laws_eqIntSS.f
  refine ev_pos rfl ?_
  have key : ∀ i, i ≤ xs.length → Ev (fun k => laws_eqIntSS.l0 k xs xs (i : Int)) true := by
    refine up_to _ ?_ ?_
    · exact Ev.step (fun k => rfl) (ev_neg (by omega) (Ev.now true))
    · intro i hi ih
      have e := ev_eqIntS (rd_L1 xs (i : Int)) (rd_L1 xs (i : Int)) (hr _ (rdr_mem hi))
      rw [decide_eq_true rfl] at e
      refine Ev.step (fun k => rfl) (ev_pos (by omega) (ev_pos (by omega) (ev_pos (by omega) (Ev.bind e (ev_true ?_)))))
      rw [wr1 (by omega)]
      exact ih
  exact key 0 (Nat.zero_le _)
theorem marks_snoc : ∀ (n : Nat) (a : Int), marks a (n + 1) = marks a n ++ [a + (n : Int)]
  | 0, a => by simp [marks]
  | n + 1, a => by
    rw [marks, marks_snoc n (a + 1), marks, List.cons_append]
    congr 3
    omega
theorem ev_markIntS (xs : List Int) (a : Int) (h0 : 0 ≤ a) (h1 : a + (xs.length : Int) ≤ 140737488355328) : Ev (fun k => laws_markIntS.f k xs a) (a + (xs.length : Int), marks a xs.length) := by
  unfold laws_markIntS.f
  have key : ∀ i, i ≤ xs.length → Ev (fun k => laws_markIntS.l0 k (marks a i ++ xs.drop i) (a + (i : Int)) (i : Int)) (a + (xs.length : Int), marks a xs.length) := by
    have hl : ∀ i, i ≤ xs.length → ((marks a i ++ xs.drop i).length : Int) = (xs.length : Int) := by intro i hi; simp [marks_length]; omega
    refine up_to _ ?_ ?_
    · refine Ev.step (fun k => rfl) (ev_neg (by rw [hl _ (Nat.le_refl _)]; omega) (ev_const ?_))
      rw [drop_all (Nat.le_refl _), List.append_nil]
    · intro i hi ih
      refine Ev.step (fun k => rfl) (ev_pos (by rw [hl _ (by omega)]; omega) (ev_pos (by omega) ?_))
      rw [wr1 (by omega), wr (by omega) (by omega)]
      have e : (marks a i ++ xs.drop i).set ((i : Int).toNat) (a + (i : Int)) = marks a (i + 1) ++ xs.drop (i + 1) := by
        rw [drop_rd hi, Int.toNat_natCast, List.set_append_right _ _ (by rw [marks_length]; exact Nat.le_refl _), marks_length, Nat.sub_self, List.set_cons_zero, marks_snoc]
        simp
      have e2 : a + (i : Int) + 1 = a + ((i + 1 : Nat) : Int) := by omega
      rw [e, e2]
      exact ih
  have := key 0 (Nat.zero_le _)
  simpa [marks] using this
theorem ev_heldIntS_from (n : Nat) : ∀ (ys : List Int) (a : Int) (xs : List Int), xs = ys ++ marks a n → 0 ≤ a → a + (n : Int) ≤ 140737488355328 → (ys.length : Int) + (n : Int) ≤ 140737488355328 → Ev (fun k => laws_heldIntS.l0 k xs a (ys.length : Int)) (a + (n : Int)) := by
  induction n with
  | zero =>
    intro ys a xs e h0 h1 h2
    subst e
    refine Ev.step (fun k => rfl) (ev_neg (by simp [marks]) (ev_const ?_))
    simp
  | succ n ih =>
    intro ys a xs e h0 h1 h2
    have hl : xs.length = ys.length + (n + 1) := by rw [e]; simp [marks_length]
    have hr : rd xs (ys.length : Int) = a := by
      rw [rd_get (by omega)]
      subst e
      rw [List.getElem_append_right (Nat.le_refl _)]
      simp [marks]
    refine Ev.step (fun k => rfl) (ev_pos (by omega) (ev_pos (by omega) (ev_pos hr ?_)))
    rw [wr1 (by omega), wr (by omega) (by omega)]
    have := ih (ys ++ [a]) (a + 1) xs (by rw [e]; simp [marks]) (by omega) (by omega) (by simp; omega)
    rw [List.length_append, List.length_singleton] at this
    refine ev_eq ?_ this
    omega
theorem ev_heldIntS (a : Int) (n : Nat) (h0 : 0 ≤ a) (h1 : a + (n : Int) ≤ 140737488355328) : Ev (fun k => laws_heldIntS.f k (marks a n) a) (a + (n : Int)) := by
  unfold laws_heldIntS.f
  exact ev_heldIntS_from n [] a (marks a n) rfl h0 h1 (by simp; omega)
theorem marksS_length : ∀ (xs : List (List Int)) (a : Int), (marksS a xs).length = xs.length
  | [], _ => rfl
  | r :: xs, a => by simp [marksS, marksS_length xs]
theorem ev_heldIntSS_from (zs xs : List (List Int)) : ∀ (ys : List (List Int)) (a : Int), zs = ys ++ marksS a xs → 0 ≤ a → a + (tot xs : Int) ≤ 140737488355328 → (ys.length : Int) + (xs.length : Int) ≤ 140737488355328 → Ev (fun k => laws_heldIntSS.l0 k zs a (ys.length : Int)) (a + (tot xs : Int)) := by
  induction xs with
  | nil =>
    intro ys a e h0 h1 h2
    have hl : zs.length = ys.length := by rw [e]; simp [marksS]
    refine Ev.step (fun k => rfl) (ev_neg (by omega) (ev_const ?_))
    simp [tot]
  | cons r xs ih =>
    intro ys a e h0 h1 h2
    have hl : zs.length = ys.length + (xs.length + 1) := by rw [e]; simp [marksS_length]
    have hr : rd_L1 zs (ys.length : Int) = marks a r.length := by
      rw [rdr_get (by omega)]
      subst e
      rw [List.getElem_append_right (Nat.le_refl _)]
      simp [marksS]
    rw [tot_cons] at h1 ⊢
    refine Ev.step (fun k => rfl) (ev_pos (by omega) (ev_pos (by omega) ?_))
    have eh := ev_heldIntS a r.length h0 (by omega)
    rw [← hr] at eh
    refine Ev.bind eh (ev_neg (by omega) ?_)
    rw [wr1 (by simp at h2; omega)]
    have := ih (ys ++ [marks a r.length]) (a + (r.length : Int)) (by rw [e]; simp [marksS]) (by omega) (by omega) (by simp at h2 ⊢; omega)
    rw [List.length_append, List.length_singleton] at this
    refine ev_eq ?_ this
    omega
theorem ev_heldIntSS (a : Int) (xs : List (List Int)) (h0 : 0 ≤ a) (h1 : a + (tot xs : Int) ≤ 140737488355328) (h2 : (xs.length : Int) ≤ 140737488355328) : Ev (fun k => laws_heldIntSS.f k (marksS a xs) a) (a + (tot xs : Int)) := by
  unfold laws_heldIntSS.f
  exact ev_heldIntSS_from (marksS a xs) xs [] a rfl h0 h1 (by simp; omega)
end Go.Proofs.Ytjpcjoepcibklaa.Pure
