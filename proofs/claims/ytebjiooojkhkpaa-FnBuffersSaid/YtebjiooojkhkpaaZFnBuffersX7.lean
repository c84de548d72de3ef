-- Shaken out of the printed texts.
import Derived.Test.YtebjiooojkhkpaaZFnBuffersWBX0
import Derived.Test.YtebjiooojkhkpaaZFnBuffersQ
import Derived.Test.YtebjiooojkhkpaaZFnBuffersX0
import Derived.Test.YtebjiooojkhkpaaZFnBuffersX3
import Derived.Test.YtebjiooojkhkpaaZFnBuffersX6
namespace Go.Proofs.Ytebjiooojkhkpaa.X
open Go.RowKit Go.Proofs.YtebjiooojkhkpaaW.PrintWords Go.Proofs.YtebjiooojkhkpaaW.PrintLast Go.Proofs.YtebjiooojkhkpaaW.PrintMore
attribute [local go_sem] max2_int min2_int max_two min_two max_three min_three max_four min_four   -- for this text's walks alone
set_option linter.unusedVariables false
set_option linter.unusedSimpArgs false

-- NOT PRINTED: function 11 (laws_FnExactTrainsReached)

/-! ### spec_trNext: function 107 -/
mutual
def spec_trNext.l0 : Nat → List Int → List Int → List (List Int) → Int → Int → Option (List Int)
  | 0, _, _, _, _, _ => none
  | k + 1, x1, x5, x11, x12, x13 => if x13 < x12 then (if 0 ≤ x13 then (if x13 < (x11.length : Int) then (spec_trNext.l1 k x1 x5 0 x11 x12 x13 (rd_L1 x11 x13) ((rd_L1 x11 x13).length : Int) 0) else (none)) else (none)) else (some x5)
def spec_trNext.l1 : Nat → List Int → List Int → Int → List (List Int) → Int → Int → List Int → Int → Int → Option (List Int)
  | 0, _, _, _, _, _, _, _, _, _ => none
  | k + 1, x1, x5, x8, x11, x12, x13, x17, x18, x19 => if x19 < x18 then (if 0 ≤ x19 then (if x19 < (x17.length : Int) then (if (rd x17 x19) = 1000000000 then (spec_trNext.l1 k x1 x5 x8 x11 x12 x13 x17 x18 (wrap64 (x19 + 1))) else (if x19 < (x1.length : Int) then ((spec_l1Most.f x8 (wrap64 ((rd x1 x19) + (rd x17 x19)))).bind fun t775 => (spec_trNext.l1 k x1 x5 t775 x11 x12 x13 x17 x18 (wrap64 (x19 + 1)))) else (none))) else (none)) else (none)) else (if x5.length < 17592186044416 then (spec_trNext.l0 k x1 (x5 ++ [x8]) x11 x12 (wrap64 (x13 + 1))) else (none))
end
def spec_trNext.f (k : Nat) (l0 : List (List Int)) (l1 : List Int) : Option (List Int) := spec_trNext.l0 k l1 ([] : List Int) l0 (l0.length : Int) 0
theorem spec_trNext.mono_l : ∀ k, (∀ y0 y1 y2 y3 y4, LeO (spec_trNext.l0 k y0 y1 y2 y3 y4) (spec_trNext.l0 (k + 1) y0 y1 y2 y3 y4)) ∧ (∀ y0 y1 y2 y3 y4 y5 y6 y7 y8, LeO (spec_trNext.l1 k y0 y1 y2 y3 y4 y5 y6 y7 y8) (spec_trNext.l1 (k + 1) y0 y1 y2 y3 y4 y5 y6 y7 y8))
  | 0 => ⟨fun _ _ _ _ _ r h => by simp [spec_trNext.l0] at h, fun _ _ _ _ _ _ _ _ _ r h => by simp [spec_trNext.l1] at h⟩
  | k + 1 => by
    obtain ⟨ih0, ih1⟩ := spec_trNext.mono_l k
    refine ⟨?_, ?_⟩
    all_goals (intros; first | unfold spec_trNext.l0 | unfold spec_trNext.l1)
    all_goals (repeat' first | (with_reducible first | exact ih0 _ _ _ _ _ | exact ih1 _ _ _ _ _ _ _ _ _ | exact LeO.refl _ | exact LeO.none _ | refine LeO.ite ?_ ?_ | refine LeO.bind ?_ (fun _ => ?_)) | exact ih0 _ _ _ _ _ | exact ih1 _ _ _ _ _ _ _ _ _ | exact LeO.none _ | refine LeO.ite ?_ ?_ | refine LeO.bind ?_ (fun _ => ?_))
theorem spec_trNext.mono : ∀ a0 a1 k, LeO (spec_trNext.f k a0 a1) (spec_trNext.f (k + 1) a0 a1) := by
 intro a0 a1 k
 obtain ⟨ih0, ih1⟩ := spec_trNext.mono_l k
 unfold spec_trNext.f
 repeat' first | (with_reducible first | exact ih0 _ _ _ _ _ | exact ih1 _ _ _ _ _ _ _ _ _ | exact LeO.refl _ | exact LeO.none _ | refine LeO.ite ?_ ?_ | refine LeO.bind ?_ (fun _ => ?_)) | exact ih0 _ _ _ _ _ | exact ih1 _ _ _ _ _ _ _ _ _ | exact LeO.none _ | refine LeO.ite ?_ ?_ | refine LeO.bind ?_ (fun _ => ?_)
set_option maxHeartbeats 8000000 in
set_option maxRecDepth 100000 in
theorem spec_trNext.calls (k : Nat) (A0 : Option Addr) (c0 : Nat) (l0 : List (List Int)) (A1 : Option Addr) (c1 : Nat) (l1 : List Int) (r : List Int) (w : World) (hr0 : Kd.C (Kd.slice 3 (Kd.int .i64)) w A0 l0.length l0) (hc0 : l0.length ≤ c0) (hr1 : Kd.C (Kd.int .i64) w A1 l1.length l1) (hc1 : l1.length ≤ c1) (h : spec_trNext.f k l0 l1 = some r) :
 Calls Try.prog 107 #[.slice A0 l0.length c0, .slice A1 l1.length c1] w fun e w' => ∃ v0_ : Value, e = .returned (v0_) ∧ Kd.R (Kd.int .i64) 3 w' w.heap.size (fun _ => True) v0_ r ∧ Below w.heap.size w w' := by
 have HR0 := A_ hr0
 have HC0 := A_ hc0
 clear hr0 hc0
 have HR1 := A_ hr1
 have HC1 := A_ hc1
 clear hr1 hc1
 have HB := A_ (Below.refl w.heap.size w)
 have H : (spec_trNext.l0 k l1 ([] : List Int) l0 (l0.length : Int) 0) = some r := h
 clear h
 have H' := A_ H; clear H
 go_enter Try.func107, Try.ntmps107
 go_wp2
 go_loopg [5, 13] k (fun kq v5 v13 w' => ∃ (x5_1 : List Int) (x13_1 : Int), v13 = .int .i64 x13_1 ∧ Aside0 (spec_trNext.l0 kq l1 x5_1 l0 (l0.length : Int) x13_1 = some r) ∧ Aside0 (kq ≤ k) ∧ Aside0 (Kd.R (Kd.int .i64) 3 w' w.heap.size (fun _ => True) v5 x5_1) ∧ Aside0 (Below w.heap.size w w'))
 case atStart => exact ⟨(([] : List Int)), (0), es_, H', ⟨Nat.le_refl _⟩, ⟨by first | exact Kd.R_nil _ _ _ _ _ | exact Kd.N_nil _ _ _ _ _ | exact Kd.V_nil _ _ _ _ _ | exact Kd.Q_nil _ _ _ _ _ | exact Kd.S_nil _ _ _ _ _⟩, ⟨bl_⟩⟩
 case round =>
  clear H'
  (try clear c1); (try clear p2)
  obtain ⟨x5_1, x13_1, rfl, HA, HK1, HO_5, HB⟩ := hrel
  cases gk with
  | zero => exact absurd HA.out (by simp [spec_trNext.l0])
  | succ k1 =>
   have H := HA.out
   clear HA
   simp only [spec_trNext.l0] at H
   by_cases c3 : x13_1 < (l0.length : Int)
   ·
    rw [if_pos c3] at H
    have c3b0 := decide_eq_true c3
    clear c3
    by_cases c4 : 0 ≤ x13_1
    ·
     rw [if_pos c4] at H
     have c4b0 := decide_eq_true c4
     clear c4
     by_cases c5 : x13_1 < (l0.length : Int)
     ·
      rw [if_pos c5] at H
      have c5b0 := decide_eq_true c5
      clear c5
      have H' := A_ H; clear H
      have p772 : 0 ≤ (x13_1 : Int) := od_
      have q772 : x13_1 < (l0.length : Int) := od_
      obtain ⟨ad772, A772_0, c772_0, e772, hx772_0, hl772_0, hi772_0⟩ := at_L1 HR0.out x13_1 p772 q772
      cases e772
      try replace hx772_0 := (HB.out.cell (World.block_lt_of_cell? w _ hx772_0)).trans hx772_0
      have HR772_0 := A_ hi772_0
      have HC772_0 := A_ hl772_0
      clear hi772_0 hl772_0
      replace p772 := eq_true p772
      replace q772 := eq_true q772
      go_wp2
      go_loopg [8, 19] k1 (fun kq v8 v19 w' => ∃ (x8_2 : Int) (x19_2 : Int), v8 = .int .i64 x8_2 ∧ v19 = .int .i64 x19_2 ∧ Aside0 (spec_trNext.l1 kq l1 x5_1 x8_2 l0 (l0.length : Int) x13_1 (rd_L1 l0 x13_1) ((rd_L1 l0 x13_1).length : Int) x19_2 = some r) ∧ Aside0 (kq ≤ k1) ∧ Aside0 (Kd.R (Kd.int .i64) 3 w' w.heap.size (fun _ => True) u5 x5_1) ∧ Aside0 (Below w.heap.size w w'))
      case atStart => exact ⟨(0), (0), es_, es_, H', ⟨Nat.le_refl _⟩, ⟨kR_ HO_5.out⟩, ⟨bl_⟩⟩
      case round =>
       clear H'
       (try clear c1); (try clear p2); (try clear c3); (try clear c3b0); (try clear c4); (try clear c4b0); (try clear c5); (try clear c5b0); (try clear hx772_0); (try clear p2); (try clear p772); (try clear q772)
       obtain ⟨x8_2, x19_2, rfl, rfl, HA, HK2, HO_5, HB⟩ := hrel
       cases gk with
       | zero => exact absurd HA.out (by simp [spec_trNext.l1])
       | succ k2 =>
        have H := HA.out
        clear HA
        simp only [spec_trNext.l1] at H
        by_cases c6 : x19_2 < ((rd_L1 l0 x13_1).length : Int)
        ·
         rw [if_pos c6] at H
         have c6b0 := decide_eq_true c6
         clear c6
         by_cases c7 : 0 ≤ x19_2
         ·
          rw [if_pos c7] at H
          have c7b0 := decide_eq_true c7
          clear c7
          by_cases c8 : x19_2 < ((rd_L1 l0 x13_1).length : Int)
          ·
           rw [if_pos c8] at H
           have c8b0 := decide_eq_true c8
           clear c8
           by_cases c9 : (rd (rd_L1 l0 x13_1) x19_2) = 1000000000
           ·
            rw [if_pos c9] at H
            have c9b0 : ((rd (rd_L1 l0 x13_1) x19_2) == 1000000000) = true := beq_iff_eq.mpr c9
            have c9b1 : ((rd (rd_L1 l0 x13_1) x19_2) != 1000000000) = false := bne_eq_false_iff_eq.mpr c9
            clear c9
            have H' := A_ H; clear H
            have p773 : 0 ≤ (x19_2 : Int) := od_
            have q773 : x19_2 < ((rd_L1 l0 x13_1).length : Int) := od_
            obtain ⟨ad773, e773, hx773_0⟩ := Kd.at_int HR772_0.out x19_2 p773 q773
            cases e773
            try replace hx773_0 := (HB.out.cell (World.block_lt_of_cell? w _ hx773_0)).trans hx773_0
            replace p773 := eq_true p773
            replace q773 := eq_true q773
            go_wp2
            go_roundg k2
            case measure => have := HK1.out; have := HK2.out; omega
            case rel => exact ⟨(x8_2), (wrap64 (x19_2 + 1)), es_, es_, H', ⟨by have := HK1.out; have := HK2.out; omega⟩, ⟨kR_ HO_5.out⟩, ⟨bl_⟩⟩
           ·
            rw [if_neg c9] at H
            have c9b0 : ((rd (rd_L1 l0 x13_1) x19_2) == 1000000000) = false := beq_eq_false_iff_ne.mpr c9
            have c9b1 : ((rd (rd_L1 l0 x13_1) x19_2) != 1000000000) = true := bne_iff_ne.mpr c9
            by_cases c10 : x19_2 < (l1.length : Int)
            ·
             rw [if_pos c10] at H
             have c10b0 := decide_eq_true c10
             clear c10
             obtain ⟨t775, A110, H⟩ := Option.bind_eq_some_iff.mp H
             try dsimp only at H
             have A11 := A_ A110; clear A110
             have H' := A_ H; clear H
             have p773 : 0 ≤ (x19_2 : Int) := od_
             have q773 : x19_2 < ((rd_L1 l0 x13_1).length : Int) := od_
             obtain ⟨ad773, e773, hx773_0⟩ := Kd.at_int HR772_0.out x19_2 p773 q773
             cases e773
             try replace hx773_0 := (HB.out.cell (World.block_lt_of_cell? w _ hx773_0)).trans hx773_0
             replace p773 := eq_true p773
             replace q773 := eq_true q773
             have p774 : 0 ≤ (x19_2 : Int) := od_
             have q774 : x19_2 < (l1.length : Int) := od_
             obtain ⟨ad774, e774, hx774_0⟩ := Kd.at_int HR1.out x19_2 p774 q774
             cases e774
             try replace hx774_0 := (HB.out.cell (World.block_lt_of_cell? w _ hx774_0)).trans hx774_0
             replace p774 := eq_true p774
             replace q774 := eq_true q774
             go_wp2_with (first | ((with_reducible refine gate_callee (f := 85) rfl ?_); refine goesL_ (some 33) rfl rfl Try.func85 kr_ rfl #[.int .i64 x8_2, .int .i64 (wrap64 ((rd l1 x19_2) + (rd (rd_L1 l0 x13_1) x19_2)))] rfl am_ ?_; (with_reducible refine (spec_l1Most.calls x8_2 (wrap64 ((rd l1 x19_2) + (rd (rd_L1 l0 x13_1) x19_2))) t775 _ A11.out).mono ?_); rintro e w' ⟨rfl, ⟨nd, rfl⟩⟩; refine ⟨_, rfl, ?_⟩))
             go_roundg k2
             case measure => have := HK1.out; have := HK2.out; omega
             case rel => exact ⟨(t775), (wrap64 (x19_2 + 1)), es_, es_, H', ⟨by have := HK1.out; have := HK2.out; omega⟩, ⟨kR_ HO_5.out⟩, ⟨bl_⟩⟩
            ·
             rw [if_neg c10] at H; cases H
          ·
           rw [if_neg c8] at H; cases H
         ·
          rw [if_neg c7] at H; cases H
        ·
         rw [if_neg c6] at H
         have c6b0 := decide_eq_false c6
         clear c6
         by_cases c12 : x5_1.length < 17592186044416
         ·
          rw [if_pos c12] at H
          have LMc12 := A_ c12
          clear c12
          obtain ⟨y776, hy776⟩ : ∃ y_ : List Int, y_ = (x5_1 ++ [x8_2]) := ⟨_, rfl⟩
          replace H : (spec_trNext.l0 k2 l1 y776 l0 (l0.length : Int) (wrap64 (x13_1 + 1))) = some r := by first | (rw [hy776]; with_reducible exact H) | (have H2_ := (Option.bind_some _ _).symm.trans H; rw [hy776]; with_reducible exact H2_) | (have H2_ := (Option.bind_some _ _).symm.trans H; with_reducible exact H2_) | with_reducible exact H | (rw [hy776]; exact H) | exact H
          have Ny776 := A_ hy776
          clear hy776
          have H' := A_ H; clear H
          go_wp2_with (first | ((with_reducible refine gate_builtin (b := .append) (xs := #[.tmp 35, .tmp 37]) rfl ?_); at_builtin; refine Kd.R_append (Kd.int .i64) (w0 := w) w.heap.size rfl (.tmp 35) (.tmp 37) 23 3 (.int .i64 0) 8 rfl Try.underlying23 info3 rfl (by decide) (by omega) u5 x5_1 x8_2 [.int .i64 x8_2] (fun _ => True) (fun _ => False) rfl rfl ?aP (fun _ hk => hk.elim) ?aF ?aO ?aB ?aS ?aL ?_; (case aP => exact rfl); (case aB => exact bl_); (case aF => exact (fun _ _ => trivial)); (case aO => exact (kR_ HO_5.out)); (case aS => exact (below_size bl_)); (case aL => have := LMc12.out; omega); intro v777 w13 ho hb hg hat; rw [← Ny776.out] at ho; have n0_ := A_ (hb); have n1_ := A_ (ho); clear HB; clear HO_5; have HB := n0_; have HO778 := n1_; clear n0_ n1_; clear ho hb hg hat))
          go_roundg k2
          case measure => have := HK1.out; have := HK2.out; omega
          case rel => exact ⟨(y776), (wrap64 (x13_1 + 1)), es_, H', ⟨by have := HK1.out; have := HK2.out; omega⟩, ⟨kR_ HO778.out⟩, ⟨bl_⟩⟩
         ·
          rw [if_neg c12] at H; cases H
     ·
      rw [if_neg c5] at H; cases H
    ·
     rw [if_neg c4] at H; cases H
   ·
    rw [if_neg c3] at H
    have c3b0 := decide_eq_false c3
    clear c3
    obtain rfl := Option.some.inj H
    go_wp2
    go_ret
    exact ⟨_, ew_, kR_ HO_5.out, bl_⟩

end Go.Proofs.Ytebjiooojkhkpaa.X

namespace Go.Proofs.Ytebjiooojkhkpaa.X
open Go.RowKit Go.Proofs.YtebjiooojkhkpaaW.PrintWords Go.Proofs.YtebjiooojkhkpaaW.PrintLast Go.Proofs.YtebjiooojkhkpaaW.PrintMore
attribute [local go_sem] max2_int min2_int max_two min_two max_three min_three max_four min_four   -- for this text's walks alone
set_option linter.unusedVariables false
set_option linter.unusedSimpArgs false

/-! ### spec_l1Same: function 108 -/
def spec_l1Same.l0 : Nat → List Int → List Int → Int → Int → Option (Bool)
  | 0, _, _, _, _ => none
  | k + 1, x0, x1, x12, x13 => if x13 < x12 then (if 0 ≤ x13 then (if x13 < (x0.length : Int) then (if x13 < (x1.length : Int) then (if (rd x0 x13) = (rd x1 x13) then (spec_l1Same.l0 k x0 x1 x12 (wrap64 (x13 + 1))) else (some false)) else (none)) else (none)) else (none)) else (some true)
def spec_l1Same.f (k : Nat) (l0 : List Int) (l1 : List Int) : Option (Bool) := if (l0.length : Int) = (l1.length : Int) then (spec_l1Same.l0 k l0 l1 (l0.length : Int) 0) else (some false)
theorem spec_l1Same.mono_l : ∀ k, (∀ y0 y1 y2 y3, LeO (spec_l1Same.l0 k y0 y1 y2 y3) (spec_l1Same.l0 (k + 1) y0 y1 y2 y3))
  | 0 => fun _ _ _ _ r h => by simp [spec_l1Same.l0] at h
  | k + 1 => by
    have ih0 := spec_l1Same.mono_l k
    · intro y0 y1 y2 y3
      unfold spec_l1Same.l0
      repeat' first | (with_reducible first | exact ih0 _ _ _ _ | exact LeO.refl _ | exact LeO.none _ | refine LeO.ite ?_ ?_ | refine LeO.bind ?_ (fun _ => ?_)) | exact ih0 _ _ _ _ | exact LeO.none _ | refine LeO.ite ?_ ?_ | refine LeO.bind ?_ (fun _ => ?_)
theorem spec_l1Same.mono : ∀ a0 a1 k, LeO (spec_l1Same.f k a0 a1) (spec_l1Same.f (k + 1) a0 a1) := by
 intro a0 a1 k
 have ih0 := spec_l1Same.mono_l k
 unfold spec_l1Same.f
 repeat' first | (with_reducible first | exact ih0 _ _ _ _ | exact LeO.refl _ | exact LeO.none _ | refine LeO.ite ?_ ?_ | refine LeO.bind ?_ (fun _ => ?_)) | exact ih0 _ _ _ _ | exact LeO.none _ | refine LeO.ite ?_ ?_ | refine LeO.bind ?_ (fun _ => ?_)
set_option maxHeartbeats 8000000 in
set_option maxRecDepth 100000 in
theorem spec_l1Same.calls (k : Nat) (A0 : Option Addr) (c0 : Nat) (l0 : List Int) (A1 : Option Addr) (c1 : Nat) (l1 : List Int) (r : Bool) (w : World) (hr0 : Kd.C (Kd.int .i64) w A0 l0.length l0) (hc0 : l0.length ≤ c0) (hr1 : Kd.C (Kd.int .i64) w A1 l1.length l1) (hc1 : l1.length ≤ c1) (h : spec_l1Same.f k l0 l1 = some r) :
 Calls Try.prog 108 #[.slice A0 l0.length c0, .slice A1 l1.length c1] w fun e w' => e = .returned (.bool r) ∧ Drawn0 w w' := by
 have HR0 := A_ hr0
 have HC0 := A_ hc0
 clear hr0 hc0
 have HR1 := A_ hr1
 have HC1 := A_ hc1
 clear hr1 hc1
 have H : (if (l0.length : Int) = (l1.length : Int) then (spec_l1Same.l0 k l0 l1 (l0.length : Int) 0) else (some false)) = some r := h
 clear h
 by_cases c3 : (l0.length : Int) = (l1.length : Int)
 ·
  rw [if_pos c3] at H
  have c3b0 : ((l0.length : Int) == (l1.length : Int)) = true := beq_iff_eq.mpr c3
  have c3b1 : ((l0.length : Int) != (l1.length : Int)) = false := bne_eq_false_iff_eq.mpr c3
  have c3b2 : (l0.length == l1.length) = true := by first | simpa using c3 | (simp at c3 ⊢; omega)
  clear c3
  have H' := A_ H; clear H
  go_enter Try.func108, Try.ntmps108
  go_wp2
  repeat (go_quiet (fail); try go_wp2)
  go_loopg [13] k (fun kq v13 w' => ∃ (x13_1 : Int), v13 = .int .i64 x13_1 ∧ Aside0 (spec_l1Same.l0 kq l0 l1 (l0.length : Int) x13_1 = some r) ∧ Aside0 (kq ≤ k) ∧ Drawn0 w w')
  case atStart => exact ⟨(0), es_, H', ⟨Nat.le_refl _⟩, by repeat (first | exact Drawn0.refl _ | apply Drawn0.step)⟩
  case round =>
   clear H'
   (try clear c1); (try clear p2); (try clear c3); (try clear c3b0); (try clear c3b1); (try clear c3b2)
   obtain ⟨x13_1, rfl, HA, HK1, ⟨m1, rfl⟩⟩ := hrel
   cases gk with
   | zero => exact absurd HA.out (by simp [spec_l1Same.l0])
   | succ k1 =>
    have H := HA.out
    clear HA
    simp only [spec_l1Same.l0] at H
    by_cases c4 : x13_1 < (l0.length : Int)
    ·
     rw [if_pos c4] at H
     have c4b0 := decide_eq_true c4
     clear c4
     by_cases c5 : 0 ≤ x13_1
     ·
      rw [if_pos c5] at H
      have c5b0 := decide_eq_true c5
      clear c5
      by_cases c6 : x13_1 < (l0.length : Int)
      ·
       rw [if_pos c6] at H
       have c6b0 := decide_eq_true c6
       clear c6
       by_cases c7 : x13_1 < (l1.length : Int)
       ·
        rw [if_pos c7] at H
        have c7b0 := decide_eq_true c7
        clear c7
        by_cases c8 : (rd l0 x13_1) = (rd l1 x13_1)
        ·
         rw [if_pos c8] at H
         have c8b0 : ((rd l0 x13_1) == (rd l1 x13_1)) = true := beq_iff_eq.mpr c8
         have c8b1 : ((rd l0 x13_1) != (rd l1 x13_1)) = false := bne_eq_false_iff_eq.mpr c8
         clear c8
         have H' := A_ H; clear H
         have p779 : 0 ≤ (x13_1 : Int) := od_
         have q779 : x13_1 < (l0.length : Int) := od_
         obtain ⟨ad779, e779, hx779_0⟩ := Kd.at_int HR0.out x13_1 p779 q779
         cases e779
         replace p779 := eq_true p779
         replace q779 := eq_true q779
         have p780 : 0 ≤ (x13_1 : Int) := od_
         have q780 : x13_1 < (l1.length : Int) := od_
         obtain ⟨ad780, e780, hx780_0⟩ := Kd.at_int HR1.out x13_1 p780 q780
         cases e780
         replace p780 := eq_true p780
         replace q780 := eq_true q780
         go_wp2
         repeat (go_quiet (fail); try go_wp2)
         go_roundg k1
         case measure => have := HK1.out; omega
         case rel => exact ⟨(wrap64 (x13_1 + 1)), es_, H', ⟨by have := HK1.out; omega⟩, by repeat (first | exact Drawn0.refl _ | apply Drawn0.step)⟩
        ·
         rw [if_neg c8] at H
         have c8b0 : ((rd l0 x13_1) == (rd l1 x13_1)) = false := beq_eq_false_iff_ne.mpr c8
         have c8b1 : ((rd l0 x13_1) != (rd l1 x13_1)) = true := bne_iff_ne.mpr c8
         obtain rfl := Option.some.inj H
         have p779 : 0 ≤ (x13_1 : Int) := od_
         have q779 : x13_1 < (l0.length : Int) := od_
         obtain ⟨ad779, e779, hx779_0⟩ := Kd.at_int HR0.out x13_1 p779 q779
         cases e779
         replace p779 := eq_true p779
         replace q779 := eq_true q779
         have p780 : 0 ≤ (x13_1 : Int) := od_
         have q780 : x13_1 < (l1.length : Int) := od_
         obtain ⟨ad780, e780, hx780_0⟩ := Kd.at_int HR1.out x13_1 p780 q780
         cases e780
         replace p780 := eq_true p780
         replace q780 := eq_true q780
         go_wp2
         repeat (go_quiet (fail); try go_wp2)
         go_ret
         exact ⟨es_, by repeat (first | exact Drawn0.refl _ | apply Drawn0.step)⟩
       ·
        rw [if_neg c7] at H; cases H
      ·
       rw [if_neg c6] at H; cases H
     ·
      rw [if_neg c5] at H; cases H
    ·
     rw [if_neg c4] at H
     have c4b0 := decide_eq_false c4
     clear c4
     obtain rfl := Option.some.inj H
     go_wp2
     repeat (go_quiet (fail); try go_wp2)
     go_ret
     exact ⟨es_, by repeat (first | exact Drawn0.refl _ | apply Drawn0.step)⟩
 ·
  rw [if_neg c3] at H
  have c3b0 : ((l0.length : Int) == (l1.length : Int)) = false := beq_eq_false_iff_ne.mpr c3
  have c3b1 : ((l0.length : Int) != (l1.length : Int)) = true := bne_iff_ne.mpr c3
  have c3b2 : (l0.length == l1.length) = false := by first | simpa using c3 | (simp at c3 ⊢; omega)
  obtain rfl := Option.some.inj H
  go_enter Try.func108, Try.ntmps108
  go_wp2
  repeat (go_quiet (fail); try go_wp2)
  go_ret
  exact ⟨es_, by repeat (first | exact Drawn0.refl _ | apply Drawn0.step)⟩

/-! ### spec_trStarts: function 101 -/
mutual
def spec_trStarts.l0 : Nat → List (List Int) → Int → List Int → Int → Option (List Int × Bool)
  | 0, _, _, _, _ => none
  | k + 1, x0, x1, x6, x7 => if x7 ≤ (x0.length : Int) then ((spec_trNext.f k x0 x6).bind fun t784 => (spec_trStarts.l1 k x0 x1 x6 x7 ([] : List Int) t784 (t784.length : Int) 0)) else (some (([] : List Int), false))
def spec_trStarts.l1 : Nat → List (List Int) → Int → List Int → Int → List Int → List Int → Int → Int → Option (List Int × Bool)
  | 0, _, _, _, _, _, _, _, _ => none
  | k + 1, x0, x1, x6, x7, x8, x22, x23, x24 => if x24 < x23 then (if 0 ≤ x24 then (if x24 < (x22.length : Int) then (if x24 < (x6.length : Int) then ((spec_l1Most.f (rd x6 x24) (wrap64 ((rd x22 x24) - x1))).bind fun t789 => (if x8.length < 17592186044416 then (spec_trStarts.l1 k x0 x1 x6 x7 (x8 ++ [t789]) x22 x23 (wrap64 (x24 + 1))) else (none))) else (none)) else (none)) else (none)) else ((spec_l1Same.f k x8 x6).bind fun t793 => (if t793 = true then (some (x6, true)) else (spec_trStarts.l0 k x0 x1 x8 (wrap64 (x7 + 1)))))
end
def spec_trStarts.f (k : Nat) (l0 : List (List Int)) (a1 : Int) : Option (List Int × Bool) := if 0 ≤ (l0.length : Int) then (if ((l0.length : Int) : Int).toNat ≤ 35184372088832 then (spec_trStarts.l0 k l0 a1 (List.replicate ((l0.length : Int) : Int).toNat 0) 0) else (none)) else (none)
theorem spec_trStarts.mono_l : ∀ k, (∀ y0 y1 y2 y3, LeO (spec_trStarts.l0 k y0 y1 y2 y3) (spec_trStarts.l0 (k + 1) y0 y1 y2 y3)) ∧ (∀ y0 y1 y2 y3 y4 y5 y6 y7, LeO (spec_trStarts.l1 k y0 y1 y2 y3 y4 y5 y6 y7) (spec_trStarts.l1 (k + 1) y0 y1 y2 y3 y4 y5 y6 y7))
  | 0 => ⟨fun _ _ _ _ r h => by simp [spec_trStarts.l0] at h, fun _ _ _ _ _ _ _ _ r h => by simp [spec_trStarts.l1] at h⟩
  | k + 1 => by
    obtain ⟨ih0, ih1⟩ := spec_trStarts.mono_l k
    refine ⟨?_, ?_⟩
    all_goals (intros; first | unfold spec_trStarts.l0 | unfold spec_trStarts.l1)
    all_goals (repeat' first | (with_reducible first | exact ih0 _ _ _ _ | exact ih1 _ _ _ _ _ _ _ _ | exact spec_l1Same.mono _ _ _ | exact spec_trNext.mono _ _ _ | exact LeO.refl _ | exact LeO.none _ | refine LeO.ite ?_ ?_ | refine LeO.bind ?_ (fun _ => ?_)) | exact ih0 _ _ _ _ | exact ih1 _ _ _ _ _ _ _ _ | exact spec_l1Same.mono _ _ _ | exact spec_trNext.mono _ _ _ | exact LeO.none _ | refine LeO.ite ?_ ?_ | refine LeO.bind ?_ (fun _ => ?_))
theorem spec_trStarts.mono : ∀ a0 a1 k, LeO (spec_trStarts.f k a0 a1) (spec_trStarts.f (k + 1) a0 a1) := by
 intro a0 a1 k
 obtain ⟨ih0, ih1⟩ := spec_trStarts.mono_l k
 unfold spec_trStarts.f
 repeat' first | (with_reducible first | exact ih0 _ _ _ _ | exact ih1 _ _ _ _ _ _ _ _ | exact spec_l1Same.mono _ _ _ | exact spec_trNext.mono _ _ _ | exact LeO.refl _ | exact LeO.none _ | refine LeO.ite ?_ ?_ | refine LeO.bind ?_ (fun _ => ?_)) | exact ih0 _ _ _ _ | exact ih1 _ _ _ _ _ _ _ _ | exact spec_l1Same.mono _ _ _ | exact spec_trNext.mono _ _ _ | exact LeO.none _ | refine LeO.ite ?_ ?_ | refine LeO.bind ?_ (fun _ => ?_)
set_option maxHeartbeats 8000000 in
set_option maxRecDepth 100000 in
theorem spec_trStarts.calls (k : Nat) (A0 : Option Addr) (c0 : Nat) (l0 : List (List Int)) (a1 : Int) (r1 : List Int) (r2 : Bool) (w : World) (hr0 : Kd.C (Kd.slice 3 (Kd.int .i64)) w A0 l0.length l0) (hc0 : l0.length ≤ c0) (h : spec_trStarts.f k l0 a1 = some (r1, r2)) :
 Calls Try.prog 101 #[.slice A0 l0.length c0, .int .i64 a1] w fun e w' => ∃ v0_ : Value, e = .returned (.tuple #[v0_, .bool r2]) ∧ Kd.R (Kd.int .i64) 3 w' w.heap.size (fun _ => True) v0_ r1 ∧ Below w.heap.size w w' := by
 have HR0 := A_ hr0
 have HC0 := A_ hc0
 clear hr0 hc0
 have HB := A_ (Below.refl w.heap.size w)
 have H : (if 0 ≤ (l0.length : Int) then (if ((l0.length : Int) : Int).toNat ≤ 35184372088832 then (spec_trStarts.l0 k l0 a1 (List.replicate ((l0.length : Int) : Int).toNat 0) 0) else (none)) else (none)) = some (r1, r2) := h
 clear h
 by_cases c3 : 0 ≤ (l0.length : Int)
 ·
  rw [if_pos c3] at H
  have c3b0 := eq_true c3
  have c3b1 : decide (0 ≤ (l0.length : Int)) = true := decide_eq_true c3
  clear c3
  by_cases c4 : ((l0.length : Int) : Int).toNat ≤ 35184372088832
  ·
   rw [if_pos c4] at H
   have c4b0 := eq_true c4
   have c4b1 : decide (((l0.length : Int) : Int).toNat ≤ 35184372088832) = true := decide_eq_true c4
   clear c4
   obtain ⟨y781, hy781⟩ : ∃ y_ : List Int, y_ = (List.replicate ((l0.length : Int) : Int).toNat 0) := ⟨_, rfl⟩
   replace H : (spec_trStarts.l0 k l0 a1 y781 0) = some (r1, r2) := by first | (rw [hy781]; with_reducible exact H) | (have H2_ := (Option.bind_some _ _).symm.trans H; rw [hy781]; with_reducible exact H2_) | (have H2_ := (Option.bind_some _ _).symm.trans H; with_reducible exact H2_) | with_reducible exact H | (rw [hy781]; exact H) | exact H
   have Ny781 := A_ hy781
   clear hy781
   have H' := A_ H; clear H
   go_enter Try.func101, Try.ntmps101
   go_wp2_with (first | ((with_reducible refine gate_dst (N := 13) rfl ?_); refine Kd.R_make (Kd.int .i64) _ 3 rfl (N := 13) rfl 23 _ _ rfl (l0.length : Int) rfl rfl Try.underlying23 (.int .i64 0) 8 info3 rfl (by decide) (by omega) 0 (ok := fun _ => True) (okp := fun _ => True) rfl (fun _ hk => hk) trivial (od_) (Nat.le_trans (Nat.mul_le_mul_right _ (od_ : (l0.length : Int).toNat ≤ 35184372088832)) (by omega)) (Below.refl _ _) (Nat.le_refl _) ?_; intro v782 w5 ho6 hb hg_ hnew_; clear hg_ hnew_; (first | rw [← Ny781.out] at ho6 | (simp only [Int.reduceToNat] at ho6; rw [← Ny781.out] at ho6)); have n0_ := A_ (Kd.R_lower ho6 (below_size bl_)); have n1_ := A_ (below_step bl_ hb); clear HB; have HO783 := n0_; have HB := n1_; clear n0_ n1_; clear hb ho6))
   go_loopg [6, 7] k (fun kq v6 v7 w' => ∃ (x6_1 : List Int) (x7_1 : Int), v7 = .int .i64 x7_1 ∧ Aside0 (spec_trStarts.l0 kq l0 a1 x6_1 x7_1 = some (r1, r2)) ∧ Aside0 (kq ≤ k) ∧ Aside0 (Kd.R (Kd.int .i64) 3 w' w.heap.size (fun _ => True) v6 x6_1) ∧ Aside0 (Below w.heap.size w w'))
   case atStart => exact ⟨(y781), (0), es_, H', ⟨Nat.le_refl _⟩, ⟨kR_ HO783.out⟩, ⟨bl_⟩⟩
   case round =>
    clear H'
    (try clear c1); (try clear p2); (try clear c3); (try clear c3b0); (try clear c3b1); (try clear c4); (try clear c4b0); (try clear c4b1)
    obtain ⟨x6_1, x7_1, rfl, HA, HK1, HO_6, HB⟩ := hrel
    cases gk with
    | zero => exact absurd HA.out (by simp [spec_trStarts.l0])
    | succ k1 =>
     have H := HA.out
     clear HA
     simp only [spec_trStarts.l0] at H
     by_cases c7 : x7_1 ≤ (l0.length : Int)
     ·
      rw [if_pos c7] at H
      have c7b0 := decide_eq_true c7
      clear c7
      obtain ⟨t784, A80, H⟩ := Option.bind_eq_some_iff.mp H
      try dsimp only at H
      have A8 := A_ A80; clear A80
      have H' := A_ H; clear H
      obtain ⟨Ao9, co9, eo9⟩ := Kd.R_slice HO_6.out
      subst eo9
      go_wp2_with (first | ((with_reducible refine gate_callee (f := 107) rfl ?_); refine goesL_ (some 22) rfl rfl Try.func107 kr_ rfl #[.slice A0 l0.length c0, .slice Ao9 x6_1.length co9] rfl am_ ?_; (with_reducible refine (spec_trNext.calls k1 _ _ l0 _ _ x6_1 t784 _ ?side1 ?side2 ?side3 ?side4 A8.out).mono ?_); (case side1 => exact kC_ (Kd.C_below HR0.out HB.out)); (case side2 => exact HC0.out); (case side3 => exact kC_ ((Kd.R_reads' HO_6.out).2.2)); (case side4 => exact (Kd.R_reads' HO_6.out).2.1); rintro e w10 ⟨v785, rfl, ho0, hb⟩; refine ⟨_, rfl, ?_⟩; have n0_ := A_ (Kd.R_elder' (kR_ HO_6.out) (Kd.R_base ho0) hb); have n1_ := A_ (Kd.R_lower (Kd.R_new' ho0 (Kd.R_lt (kR_ HO_6.out))) (below_size bl_)); have n2_ := A_ (below_step bl_ hb); clear HO_6; clear HB; have HO_6 := n0_; have HO786 := n1_; have HB := n2_; clear n0_ n1_ n2_; (try clear hb); (try clear hb2); (try clear hk); (try clear hi); (try clear ho0); obtain ⟨Ao11, co11, eo11⟩ := Kd.R_slice HO786.out; subst eo11))
      go_loopg [8, 24] k1 (fun kq v8 v24 w' => ∃ (x8_2 : List Int) (x24_2 : Int), v24 = .int .i64 x24_2 ∧ Aside0 (spec_trStarts.l1 kq l0 a1 x6_1 x7_1 x8_2 t784 (t784.length : Int) x24_2 = some (r1, r2)) ∧ Aside0 (kq ≤ k1) ∧ Aside0 (Kd.R (Kd.int .i64) 3 w' w.heap.size (fun k_ => some k_ ≠ (v8 : Value).ownBlock ∧ some k_ ≠ ((.slice Ao11 t784.length co11) : Value).ownBlock) (.slice Ao9 x6_1.length co9) x6_1) ∧ Aside0 (Kd.R (Kd.int .i64) 3 w' w.heap.size (fun k_ => some k_ ≠ ((.slice Ao9 x6_1.length co9) : Value).ownBlock ∧ some k_ ≠ ((.slice Ao11 t784.length co11) : Value).ownBlock) v8 x8_2) ∧ Aside0 (Kd.R (Kd.int .i64) 3 w' w.heap.size (fun k_ => some k_ ≠ ((.slice Ao9 x6_1.length co9) : Value).ownBlock ∧ some k_ ≠ (v8 : Value).ownBlock) (.slice Ao11 t784.length co11) t784) ∧ Aside0 (Below w.heap.size w w'))
      case atStart => exact ⟨(([] : List Int)), (0), es_, H', ⟨Nat.le_refl _⟩, ⟨by (with_reducible repeat (first | apply Kd.R_alloc | apply Kd.R_drewN | apply Kd.R_drew)); exact Kd.R_mono HO_6.out (fun _ hk => ⟨(by simp [Value.ownBlock]), hk.2⟩)⟩, ⟨by first | exact Kd.R_nil _ _ _ _ _ | exact Kd.N_nil _ _ _ _ _ | exact Kd.V_nil _ _ _ _ _ | exact Kd.Q_nil _ _ _ _ _ | exact Kd.S_nil _ _ _ _ _⟩, ⟨by (with_reducible repeat (first | apply Kd.R_alloc | apply Kd.R_drewN | apply Kd.R_drew)); exact Kd.R_mono HO786.out (fun _ hk => ⟨hk.2, (by simp [Value.ownBlock])⟩)⟩, ⟨bl_⟩⟩
      case round =>
       clear H'
       (try clear c1); (try clear p2); (try clear c3); (try clear c3b0); (try clear c3b1); (try clear c4); (try clear c4b0); (try clear c4b1); (try clear c7); (try clear c7b0); (try clear c10); (try clear p2)
       obtain ⟨x8_2, x24_2, rfl, HA, HK2, HO_6, HO_8, HO_22, HB⟩ := hrel
       cases gk with
       | zero => exact absurd HA.out (by simp [spec_trStarts.l1])
       | succ k2 =>
        have H := HA.out
        clear HA
        simp only [spec_trStarts.l1] at H
        by_cases c12 : x24_2 < (t784.length : Int)
        ·
         rw [if_pos c12] at H
         have c12b0 := decide_eq_true c12
         clear c12
         by_cases c13 : 0 ≤ x24_2
         ·
          rw [if_pos c13] at H
          have c13b0 := decide_eq_true c13
          clear c13
          by_cases c14 : x24_2 < (t784.length : Int)
          ·
           rw [if_pos c14] at H
           have c14b0 := decide_eq_true c14
           clear c14
           by_cases c15 : x24_2 < (x6_1.length : Int)
           ·
            rw [if_pos c15] at H
            have c15b0 := decide_eq_true c15
            clear c15
            obtain ⟨t789, A160, H⟩ := Option.bind_eq_some_iff.mp H
            try dsimp only at H
            have A16 := A_ A160; clear A160
            by_cases c17 : x8_2.length < 17592186044416
            ·
             rw [if_pos c17] at H
             have LMc17 := A_ c17
             clear c17
             obtain ⟨y790, hy790⟩ : ∃ y_ : List Int, y_ = (x8_2 ++ [t789]) := ⟨_, rfl⟩
             replace H : (spec_trStarts.l1 k2 l0 a1 x6_1 x7_1 y790 t784 (t784.length : Int) (wrap64 (x24_2 + 1))) = some (r1, r2) := by first | (rw [hy790]; with_reducible exact H) | (have H2_ := (Option.bind_some _ _).symm.trans H; rw [hy790]; with_reducible exact H2_) | (have H2_ := (Option.bind_some _ _).symm.trans H; with_reducible exact H2_) | with_reducible exact H | (rw [hy790]; exact H) | exact H
             have Ny790 := A_ hy790
             clear hy790
             have H' := A_ H; clear H
             have p787 : 0 ≤ (x24_2 : Int) := od_
             have q787 : x24_2 < (t784.length : Int) := od_
             obtain ⟨ad787, e787, hx787_0⟩ := Kd.at_int (Kd.R_reads' HO_22.out).2.2 x24_2 p787 q787
             cases e787
             replace p787 := eq_true p787
             replace q787 := eq_true q787
             have p788 : 0 ≤ (x24_2 : Int) := od_
             have q788 : x24_2 < (x6_1.length : Int) := od_
             obtain ⟨ad788, e788, hx788_0⟩ := Kd.at_int (Kd.R_reads' HO_6.out).2.2 x24_2 p788 q788
             cases e788
             replace p788 := eq_true p788
             replace q788 := eq_true q788
             go_wp2_with (first | ((with_reducible refine gate_callee (f := 85) rfl ?_); refine goesL_ (some 37) rfl rfl Try.func85 kr_ rfl #[.int .i64 (rd x6_1 x24_2), .int .i64 (wrap64 ((rd t784 x24_2) - a1))] rfl am_ ?_; (with_reducible refine (spec_l1Most.calls (rd x6_1 x24_2) (wrap64 ((rd t784 x24_2) - a1)) t789 _ A16.out).mono ?_); rintro e w' ⟨rfl, ⟨nd, rfl⟩⟩; refine ⟨_, rfl, ?_⟩) | ((with_reducible refine gate_builtin (b := .append) (xs := #[.tmp 29, .tmp 38]) rfl ?_); at_builtin; refine Kd.R_append (Kd.int .i64) (w0 := w) w.heap.size rfl (.tmp 29) (.tmp 38) 23 3 (.int .i64 0) 8 rfl Try.underlying23 info3 rfl (by decide) (by omega) u8 x8_2 t789 [.int .i64 t789] (fun k_ => some k_ ≠ (.slice (some ad788) x6_1.length co9 : Value).ownBlock ∧ some k_ ≠ (.slice (some ad787) t784.length co11 : Value).ownBlock) (fun _ => False) rfl rfl ?aP (fun _ hk => hk.elim) ?aF ?aO ?aB ?aS ?aL ?_; (case aP => exact rfl); (case aB => exact bl_); (case aF => exact (fun k_ hk => ⟨Kd.fresh' (Kd.R_lt (kR_ HO_6.out)) k_ hk, Kd.fresh' (Kd.R_lt (kR_ HO_22.out)) k_ hk⟩)); (case aO => exact (kR_ HO_8.out)); (case aS => exact (below_size bl_)); (case aL => have := LMc17.out; omega); intro v791 w18 ho hb hg hat; rw [← Ny790.out] at ho; have n0_ := A_ (Kd.R_after (ok := (fun k_ => some k_ ≠ (.slice (some ad787) t784.length co11 : Value).ownBlock)) (by (with_reducible repeat (first | apply Kd.R_alloc | apply Kd.R_drewN | apply Kd.R_drew)); exact Kd.R_mono HO_6.out (fun _ hk => ⟨hk.2, hk.1⟩)) hg hat); have n1_ := A_ (Kd.R_after (ok := (fun k_ => some k_ ≠ (.slice (some ad788) x6_1.length co9 : Value).ownBlock)) (kR_ HO_22.out) hg hat); have n2_ := A_ (hb); have n3_ := A_ (ho); clear HO_6; clear HO_22; clear HB; clear HO_8; have HO_6 := n0_; have HO_22 := n1_; have HB := n2_; have HO792 := n3_; clear n0_ n1_ n2_ n3_; clear ho hb hg hat))
             go_roundg k2
             case measure => have := HK1.out; have := HK2.out; omega
             case rel => exact ⟨(y790), (wrap64 (x24_2 + 1)), es_, H', ⟨by have := HK1.out; have := HK2.out; omega⟩, ⟨by (with_reducible repeat (first | apply Kd.R_alloc | apply Kd.R_drewN | apply Kd.R_drew)); exact Kd.R_mono HO_6.out (fun _ hk => ⟨hk.2, hk.1⟩)⟩, ⟨kR_ HO792.out⟩, ⟨kR_ HO_22.out⟩, ⟨bl_⟩⟩
            ·
             rw [if_neg c17] at H; cases H
           ·
            rw [if_neg c15] at H; cases H
          ·
           rw [if_neg c14] at H; cases H
         ·
          rw [if_neg c13] at H; cases H
        ·
         rw [if_neg c12] at H
         have c12b0 := decide_eq_false c12
         clear c12
         obtain ⟨t793, A190, H⟩ := Option.bind_eq_some_iff.mp H
         try dsimp only at H
         have A19 := A_ A190; clear A190
         by_cases c20 : t793 = true
         ·
          subst c20
          rw [if_pos rfl] at H
          simp only [Option.some.injEq, Prod.mk.injEq] at H
          obtain ⟨rfl, rfl⟩ := H
          obtain ⟨Ao21, co21, eo21⟩ := Kd.R_slice HO_8.out
          subst eo21
          go_wp2_with (first | ((with_reducible refine gate_callee (f := 108) rfl ?_); refine goesL_ (some 43) rfl rfl Try.func108 kr_ rfl #[.slice Ao21 x8_2.length co21, .slice Ao9 x6_1.length co9] rfl am_ ?_; (with_reducible refine (spec_l1Same.calls k2 _ _ x8_2 _ _ x6_1 true _ ?side1 ?side2 ?side3 ?side4 A19.out).mono ?_); (case side1 => exact kC_ ((Kd.R_reads' HO_8.out).2.2)); (case side2 => exact (Kd.R_reads' HO_8.out).2.1); (case side3 => exact kC_ ((Kd.R_reads' HO_6.out).2.2)); (case side4 => exact (Kd.R_reads' HO_6.out).2.1); rintro e w' ⟨rfl, ⟨nd, rfl⟩⟩; refine ⟨_, rfl, ?_⟩))
          go_ret2
          exact ⟨_, ew_, by (with_reducible repeat (first | apply Kd.R_alloc | apply Kd.R_drewN | apply Kd.R_drew)); exact Kd.R_mono HO_6.out (fun _ hk => trivial), bl_⟩
         ·
          replace c20 := Bool.eq_false_iff.mpr c20
          subst c20
          rw [if_neg (show ¬ (false = true) by decide)] at H
          have H' := A_ H; clear H
          obtain ⟨Ao22, co22, eo22⟩ := Kd.R_slice HO_8.out
          subst eo22
          go_wp2_with (first | ((with_reducible refine gate_callee (f := 108) rfl ?_); refine goesL_ (some 43) rfl rfl Try.func108 kr_ rfl #[.slice Ao22 x8_2.length co22, .slice Ao9 x6_1.length co9] rfl am_ ?_; (with_reducible refine (spec_l1Same.calls k2 _ _ x8_2 _ _ x6_1 false _ ?side1 ?side2 ?side3 ?side4 A19.out).mono ?_); (case side1 => exact kC_ ((Kd.R_reads' HO_8.out).2.2)); (case side2 => exact (Kd.R_reads' HO_8.out).2.1); (case side3 => exact kC_ ((Kd.R_reads' HO_6.out).2.2)); (case side4 => exact (Kd.R_reads' HO_6.out).2.1); rintro e w' ⟨rfl, ⟨nd, rfl⟩⟩; refine ⟨_, rfl, ?_⟩))
          go_roundg k2
          case measure => have := HK1.out; have := HK2.out; omega
          case rel => exact ⟨(x8_2), (wrap64 (x7_1 + 1)), es_, H', ⟨by have := HK1.out; have := HK2.out; omega⟩, ⟨by (with_reducible repeat (first | apply Kd.R_alloc | apply Kd.R_drewN | apply Kd.R_drew)); exact Kd.R_mono HO_8.out (fun _ hk => trivial)⟩, ⟨bl_⟩⟩
     ·
      rw [if_neg c7] at H
      have c7b0 := decide_eq_false c7
      clear c7
      simp only [Option.some.injEq, Prod.mk.injEq] at H
      obtain ⟨rfl, rfl⟩ := H
      go_wp2
      go_ret2
      exact ⟨_, ew_, by first | exact Kd.R_nil _ _ _ _ _ | exact Kd.N_nil _ _ _ _ _ | exact Kd.V_nil _ _ _ _ _ | exact Kd.Q_nil _ _ _ _ _ | exact Kd.S_nil _ _ _ _ _, bl_⟩
  ·
   rw [if_neg c4] at H; cases H
 ·
  rw [if_neg c3] at H; cases H

/-! ### spec_SteadyStarts: function 91 -/
def spec_SteadyStarts.f (k : Nat) (l0 : List (List Int)) (a1 : Int) : Option (List Int × Bool) := (spec_trGood.f k l0).bind fun t794 => (if t794 = true then ((spec_trPeriod.f a1).bind fun t795 => (if t795 = true then ((spec_trStarts.f k l0 a1).bind fun bt796 => (some (bt796.1, bt796.2))) else (some (([] : List Int), false)))) else (some (([] : List Int), false)))
theorem spec_SteadyStarts.mono : ∀ a0 a1 k, LeO (spec_SteadyStarts.f k a0 a1) (spec_SteadyStarts.f (k + 1) a0 a1) := by
 intro a0 a1 k
 unfold spec_SteadyStarts.f
 repeat' first | (with_reducible first | exact spec_trGood.mono _ _ | exact spec_trStarts.mono _ _ _ | exact LeO.refl _ | exact LeO.none _ | refine LeO.ite ?_ ?_ | refine LeO.bind ?_ (fun _ => ?_)) | exact spec_trGood.mono _ _ | exact spec_trStarts.mono _ _ _ | exact LeO.none _ | refine LeO.ite ?_ ?_ | refine LeO.bind ?_ (fun _ => ?_)
set_option maxHeartbeats 8000000 in
set_option maxRecDepth 100000 in
theorem spec_SteadyStarts.calls (k : Nat) (A0 : Option Addr) (c0 : Nat) (l0 : List (List Int)) (a1 : Int) (r1 : List Int) (r2 : Bool) (w : World) (hr0 : Kd.C (Kd.slice 3 (Kd.int .i64)) w A0 l0.length l0) (hc0 : l0.length ≤ c0) (h : spec_SteadyStarts.f k l0 a1 = some (r1, r2)) :
 Calls Try.prog 91 #[.slice A0 l0.length c0, .int .i64 a1] w fun e w' => ∃ v0_ : Value, e = .returned (.tuple #[v0_, .bool r2]) ∧ Kd.R (Kd.int .i64) 3 w' w.heap.size (fun _ => True) v0_ r1 ∧ Below w.heap.size w w' := by
 have HR0 := A_ hr0
 have HC0 := A_ hc0
 clear hr0 hc0
 have HB := A_ (Below.refl w.heap.size w)
 have H : ((spec_trGood.f k l0).bind fun t794 => (if t794 = true then ((spec_trPeriod.f a1).bind fun t795 => (if t795 = true then ((spec_trStarts.f k l0 a1).bind fun bt796 => (some (bt796.1, bt796.2))) else (some (([] : List Int), false)))) else (some (([] : List Int), false)))) = some (r1, r2) := h
 clear h
 obtain ⟨t794, A30, H⟩ := Option.bind_eq_some_iff.mp H
 try dsimp only at H
 have A3 := A_ A30; clear A30
 by_cases c4 : t794 = true
 ·
  subst c4
  rw [if_pos rfl] at H
  obtain ⟨t795, A50, H⟩ := Option.bind_eq_some_iff.mp H
  try dsimp only at H
  have A5 := A_ A50; clear A50
  by_cases c6 : t795 = true
  ·
   subst c6
   rw [if_pos rfl] at H
   obtain ⟨⟨t796, t797⟩, A70, H⟩ := Option.bind_eq_some_iff.mp H
   try dsimp only at H
   have A7 := A_ A70; clear A70
   simp only [Option.some.injEq, Prod.mk.injEq] at H
   obtain ⟨rfl, rfl⟩ := H
   go_enter Try.func91, Try.ntmps91
   go_wp2_with (first | ((with_reducible refine gate_callee (f := 93) rfl ?_); refine goesL_ (some 7) rfl rfl Try.func93 kr_ rfl #[.slice A0 l0.length c0] rfl am_ ?_; (with_reducible refine (spec_trGood.calls k _ _ l0 true _ ?side1 ?side2 A3.out).mono ?_); (case side1 => exact kC_ HR0.out); (case side2 => exact HC0.out); rintro e w' ⟨rfl, ⟨nd, rfl⟩⟩; refine ⟨_, rfl, ?_⟩) | (go_at_call 80; (with_reducible refine (spec_trPeriod.calls a1 true _ A5.out).mono ?_); rintro e w' ⟨rfl, ⟨nd, rfl⟩⟩) | ((with_reducible refine gate_callee (f := 101) rfl ?_); refine goesL_ (some 16) rfl rfl Try.func101 kr_ rfl #[.slice A0 l0.length c0, .int .i64 a1] rfl am_ ?_; (with_reducible refine (spec_trStarts.calls k _ _ l0 a1 t796 t797 _ ?side1 ?side2 A7.out).mono ?_); (case side1 => exact kC_ HR0.out); (case side2 => exact HC0.out); rintro e w8 ⟨v798, rfl, ho0, hb⟩; refine ⟨_, rfl, ?_⟩; have n0_ := A_ (Kd.R_lower ho0 (below_size bl_)); have n1_ := A_ (below_step bl_ hb); clear HB; have HO799 := n0_; have HB := n1_; clear n0_ n1_; (try clear hb); (try clear hb2); (try clear hk); (try clear hi); (try clear ho0)))
   go_ret2
   exact ⟨_, ew_, kR_ HO799.out, bl_⟩
  ·
   replace c6 := Bool.eq_false_iff.mpr c6
   subst c6
   rw [if_neg (show ¬ (false = true) by decide)] at H
   simp only [Option.some.injEq, Prod.mk.injEq] at H
   obtain ⟨rfl, rfl⟩ := H
   go_enter Try.func91, Try.ntmps91
   go_wp2_with (first | ((with_reducible refine gate_callee (f := 93) rfl ?_); refine goesL_ (some 7) rfl rfl Try.func93 kr_ rfl #[.slice A0 l0.length c0] rfl am_ ?_; (with_reducible refine (spec_trGood.calls k _ _ l0 true _ ?side1 ?side2 A3.out).mono ?_); (case side1 => exact kC_ HR0.out); (case side2 => exact HC0.out); rintro e w' ⟨rfl, ⟨nd, rfl⟩⟩; refine ⟨_, rfl, ?_⟩) | (go_at_call 80; (with_reducible refine (spec_trPeriod.calls a1 false _ A5.out).mono ?_); rintro e w' ⟨rfl, ⟨nd, rfl⟩⟩))
   go_ret2
   exact ⟨_, ew_, by first | exact Kd.R_nil _ _ _ _ _ | exact Kd.N_nil _ _ _ _ _ | exact Kd.V_nil _ _ _ _ _ | exact Kd.Q_nil _ _ _ _ _ | exact Kd.S_nil _ _ _ _ _, bl_⟩
 ·
  replace c4 := Bool.eq_false_iff.mpr c4
  subst c4
  rw [if_neg (show ¬ (false = true) by decide)] at H
  simp only [Option.some.injEq, Prod.mk.injEq] at H
  obtain ⟨rfl, rfl⟩ := H
  go_enter Try.func91, Try.ntmps91
  go_wp2_with (first | ((with_reducible refine gate_callee (f := 93) rfl ?_); refine goesL_ (some 7) rfl rfl Try.func93 kr_ rfl #[.slice A0 l0.length c0] rfl am_ ?_; (with_reducible refine (spec_trGood.calls k _ _ l0 false _ ?side1 ?side2 A3.out).mono ?_); (case side1 => exact kC_ HR0.out); (case side2 => exact HC0.out); rintro e w' ⟨rfl, ⟨nd, rfl⟩⟩; refine ⟨_, rfl, ?_⟩))
  go_ret2
  exact ⟨_, ew_, by first | exact Kd.R_nil _ _ _ _ _ | exact Kd.N_nil _ _ _ _ _ | exact Kd.V_nil _ _ _ _ _ | exact Kd.Q_nil _ _ _ _ _ | exact Kd.S_nil _ _ _ _ _, bl_⟩

/-! ### spec_l1Cur_small: function 102 -/
def spec_l1Cur_small.f (s0_0 : List Int) (s0_1 : Int) (s0_2 : Int) : Option (Int × Int × Int) := (spec_l1Cur_pick.f s0_0 s0_1 s0_2 13).bind fun bt800 => (some (wrap64 (bt800.1 - 4), bt800.2.1, bt800.2.2))
set_option maxHeartbeats 8000000 in
set_option maxRecDepth 100000 in
theorem spec_l1Cur_small.calls (g : Nat) (s0_0 : List Int) (s0_1 : Int) (s0_2 : Int) (r1 : Int) (r2 : Int) (r3 : Int) (w0 w : World) (hI : IsS83 w0 w g s0_0 s0_1 s0_2) (hB : Below w0.heap.size w0 w) (h : spec_l1Cur_small.f s0_0 s0_1 s0_2 = some (r1, r2, r3)) :
 Calls Try.prog 102 #[.pointer (some ⟨g, 0, none⟩)] w fun e w' => e = .returned (.int .i64 r1) ∧ IsS83 w0 w' g s0_0 r2 r3 ∧ Below w0.heap.size w0 w' ∧ KeepBut w w' g none := by
 have HI0 := A_ hI
 have HK := A_ (KeepBut.refl w g none)
 have HL := A_ hB.size
 clear hI
 have HW0 := A_ hB.size
 have HB := A_ hB
 clear hB
 have H : ((spec_l1Cur_pick.f s0_0 s0_1 s0_2 13).bind fun bt800 => (some (wrap64 (bt800.1 - 4), bt800.2.1, bt800.2.2))) = some (r1, r2, r3) := h
 clear h
 obtain ⟨⟨t800, t801, t802⟩, A20, H⟩ := Option.bind_eq_some_iff.mp H
 try dsimp only at H
 have A2 := A_ A20; clear A20
 simp only [Option.some.injEq, Prod.mk.injEq] at H
 obtain ⟨rfl, rfl, rfl⟩ := H
 go_enter Try.func102, Try.ntmps102
 go_wp2_with (first | ((with_reducible refine gate_callee (f := 90) rfl ?_); refine goesL_ (some 4) rfl rfl Try.func90 kr_ rfl #[.pointer (some ⟨g, 0, none⟩), .int .i64 13] rfl am_ ?_; (with_reducible refine (spec_l1Cur_pick.calls g s0_0 s0_1 s0_2 13 t800 t801 t802 w0 _ ?side1 ?side2 A2.out).mono ?_); (case side1 => exact kI_83 HI0.out); (case side2 => exact bs_ (IsS83.ge HI0.out)); rintro e w3 ⟨rfl, hi, hb, hk⟩; refine ⟨_, rfl, ?_⟩; have n0_ := A_ (KeepBut.trans hk_ hk (.inl rfl)); have n1_ := A_ (hb); have n2_ := A_ (hi); clear HK; clear HB; clear HI0; have HK := n0_; have HB := n1_; have HI0 := n2_; clear n0_ n1_ n2_; (try clear hb); (try clear hb2); (try clear hk); (try clear hi)))
 go_ret
 exact ⟨ew_, kI_83 HI0.out, bs_ (IsS83.ge HI0.out), hk_⟩

/-! ### spec_l1Cur_plain: function 92 -/
def spec_l1Cur_plain.l0 : Nat → Int → List Int → List Int → Int → Int → Option (List Int × Int × Int)
  | 0, _, _, _, _, _ => none
  | k + 1, x1, x5, x1000, x1001, x1002 => if (x5.length : Int) < x1 then ((spec_l1Cur_small.f x1000 x1001 x1002).bind fun bt803 => (if x5.length < 17592186044416 then (spec_l1Cur_plain.l0 k x1 (x5 ++ [bt803.1]) x1000 bt803.2.1 bt803.2.2) else (none))) else (some (x5, x1001, x1002))
def spec_l1Cur_plain.f (k : Nat) (s0_0 : List Int) (s0_1 : Int) (s0_2 : Int) (a1 : Int) : Option (List Int × Int × Int) := spec_l1Cur_plain.l0 k a1 ([] : List Int) s0_0 s0_1 s0_2
theorem spec_l1Cur_plain.mono_l : ∀ k, (∀ y0 y1 y2 y3 y4, LeO (spec_l1Cur_plain.l0 k y0 y1 y2 y3 y4) (spec_l1Cur_plain.l0 (k + 1) y0 y1 y2 y3 y4))
  | 0 => fun _ _ _ _ _ r h => by simp [spec_l1Cur_plain.l0] at h
  | k + 1 => by
    have ih0 := spec_l1Cur_plain.mono_l k
    · intro y0 y1 y2 y3 y4
      unfold spec_l1Cur_plain.l0
      repeat' first | (with_reducible first | exact ih0 _ _ _ _ _ | exact LeO.refl _ | exact LeO.none _ | refine LeO.ite ?_ ?_ | refine LeO.bind ?_ (fun _ => ?_)) | exact ih0 _ _ _ _ _ | exact LeO.none _ | refine LeO.ite ?_ ?_ | refine LeO.bind ?_ (fun _ => ?_)
theorem spec_l1Cur_plain.mono : ∀ a0 a1 a2 a3 k, LeO (spec_l1Cur_plain.f k a0 a1 a2 a3) (spec_l1Cur_plain.f (k + 1) a0 a1 a2 a3) := by
 intro a0 a1 a2 a3 k
 have ih0 := spec_l1Cur_plain.mono_l k
 unfold spec_l1Cur_plain.f
 repeat' first | (with_reducible first | exact ih0 _ _ _ _ _ | exact LeO.refl _ | exact LeO.none _ | refine LeO.ite ?_ ?_ | refine LeO.bind ?_ (fun _ => ?_)) | exact ih0 _ _ _ _ _ | exact LeO.none _ | refine LeO.ite ?_ ?_ | refine LeO.bind ?_ (fun _ => ?_)
set_option maxHeartbeats 8000000 in
set_option maxRecDepth 100000 in
theorem spec_l1Cur_plain.calls (k : Nat) (g : Nat) (s0_0 : List Int) (s0_1 : Int) (s0_2 : Int) (a1 : Int) (r1 : List Int) (r2 : Int) (r3 : Int) (w0 w : World) (hI : IsS83 w0 w g s0_0 s0_1 s0_2) (hB : Below w0.heap.size w0 w) (h : spec_l1Cur_plain.f k s0_0 s0_1 s0_2 a1 = some (r1, r2, r3)) :
 Calls Try.prog 92 #[.pointer (some ⟨g, 0, none⟩), .int .i64 a1] w fun e w' => ∃ v0_ : Value, e = .returned (v0_) ∧ Kd.R (Kd.int .i64) 3 w' w.heap.size (fun _ => True) v0_ r1 ∧ IsS83 w0 w' g s0_0 r2 r3 ∧ Below w0.heap.size w0 w' ∧ KeepBut w w' g none := by
 have HI0 := A_ hI
 have HK := A_ (KeepBut.refl w g none)
 have HL := A_ hB.size
 clear hI
 have HW0 := A_ hB.size
 have HB := A_ hB
 clear hB
 have H : (spec_l1Cur_plain.l0 k a1 ([] : List Int) s0_0 s0_1 s0_2) = some (r1, r2, r3) := h
 clear h
 have H' := A_ H; clear H
 go_enter Try.func92, Try.ntmps92
 go_wp2
 go_loopg [5] k (fun kq v5 w' => ∃ (x5_1 : List Int) (x1001_1 : Int) (x1002_1 : Int), Aside0 (spec_l1Cur_plain.l0 kq a1 x5_1 s0_0 x1001_1 x1002_1 = some (r1, r2, r3)) ∧ Aside0 (kq ≤ k) ∧ Aside0 (Kd.R (Kd.int .i64) 3 w' w.heap.size (fun _ => True) v5 x5_1) ∧ Aside0 (IsS83 w0 w' g s0_0 x1001_1 x1002_1) ∧ Aside0 (KeepBut w w' g none) ∧ Aside0 (Below w0.heap.size w0 w'))
 case atStart => exact ⟨(([] : List Int)), (s0_1), (s0_2), H', ⟨Nat.le_refl _⟩, ⟨by first | exact Kd.R_nil _ _ _ _ _ | exact Kd.N_nil _ _ _ _ _ | exact Kd.V_nil _ _ _ _ _ | exact Kd.Q_nil _ _ _ _ _ | exact Kd.S_nil _ _ _ _ _⟩, ⟨kI_83 HI0.out⟩, ⟨hk_⟩, ⟨bs_ (IsS83.ge HI0.out)⟩⟩
 case round =>
  clear H'
  try clear p2
  obtain ⟨x5_1, x1001_1, x1002_1, HA, HK1, HO_5, HI0, HK, HB⟩ := hrel
  cases gk with
  | zero => exact absurd HA.out (by simp [spec_l1Cur_plain.l0])
  | succ k1 =>
   have H := HA.out
   clear HA
   simp only [spec_l1Cur_plain.l0] at H
   by_cases c3 : (x5_1.length : Int) < a1
   ·
    rw [if_pos c3] at H
    have c3b0 := decide_eq_true c3
    clear c3
    obtain ⟨⟨t803, t804, t805⟩, A40, H⟩ := Option.bind_eq_some_iff.mp H
    try dsimp only at H
    have A4 := A_ A40; clear A40
    by_cases c5 : x5_1.length < 17592186044416
    ·
     rw [if_pos c5] at H
     have LMc5 := A_ c5
     clear c5
     obtain ⟨y806, hy806⟩ : ∃ y_ : List Int, y_ = (x5_1 ++ [t803]) := ⟨_, rfl⟩
     replace H : (spec_l1Cur_plain.l0 k1 a1 y806 s0_0 t804 t805) = some (r1, r2, r3) := by first | (rw [hy806]; with_reducible exact H) | (have H2_ := (Option.bind_some _ _).symm.trans H; rw [hy806]; with_reducible exact H2_) | (have H2_ := (Option.bind_some _ _).symm.trans H; with_reducible exact H2_) | with_reducible exact H | (rw [hy806]; exact H) | exact H
     have Ny806 := A_ hy806
     clear hy806
     have H' := A_ H; clear H
     obtain ⟨Ao6, co6, eo6⟩ := Kd.R_slice HO_5.out
     subst eo6
     go_wp2_with (first | ((with_reducible refine gate_callee (f := 102) rfl ?_); refine goesL_ (some 12) rfl rfl Try.func102 kr_ rfl #[.pointer (some ⟨g, 0, none⟩)] rfl am_ ?_; (with_reducible refine (spec_l1Cur_small.calls g s0_0 x1001_1 x1002_1 t803 t804 t805 w0 _ ?side1 ?side2 A4.out).mono ?_); (case side1 => exact kI_83 HI0.out); (case side2 => exact bs_ (IsS83.ge HI0.out)); rintro e w7 ⟨rfl, hi, hb, hk⟩; refine ⟨_, rfl, ?_⟩; have n0_ := A_ (Kd.R_mono (Kd.R_keep (IsS83.apart (show IsS83 w0 _ g s0_0 x1001_1 x1002_1 from kI_83 HI0.out) (kR_ HO_5.out) (by decide)) hk (fun _ h => h.2)) (fun _ h => h.1)); have n1_ := A_ (KeepBut.trans hk_ hk (.inl rfl)); have n2_ := A_ (hb); have n3_ := A_ (hi); clear HO_5; clear HK; clear HB; clear HI0; have HO_5 := n0_; have HK := n1_; have HB := n2_; have HI0 := n3_; clear n0_ n1_ n2_ n3_; (try clear hb); (try clear hb2); (try clear hk); (try clear hi)) | ((with_reducible refine gate_builtin (b := .append) (xs := #[.tmp 10, .tmp 13]) rfl ?_); at_builtin; refine Kd.R_append (Kd.int .i64) w.heap.size rfl (.tmp 10) (.tmp 13) 23 3 (.int .i64 0) 8 rfl Try.underlying23 info3 rfl (by decide) (by omega) (.slice Ao6 x5_1.length co6) x5_1 t803 [.int .i64 t803] (fun _ => True) (fun _ => False) rfl rfl ?aP (fun _ hk => hk.elim) ?aF ?aO (Below.refl _ _) ?aS ?aL ?_; (case aP => exact rfl); (case aF => exact (fun _ _ => trivial)); (case aO => exact (kR_ HO_5.out)); (case aS => exact (keep_size (w := w) (g := g) (row := none) hk_)); (case aL => have := LMc5.out; omega); intro v807 w8 ho hb hg hat; rw [← Ny806.out] at ho; have n0_ := A_ (IsS83.grown (kI_83 HI0.out) hg (IsS83.own_ne HI0.out HO_5.out (by decide))); have n1_ := A_ (below_weaken (bs_ (IsS83.ge HI0.out)) HL.out hb); have n2_ := A_ (KeepBut.trans hk_ (KeepBut.of_grown hg g) (Kd.R_base2 HO_5.out)); have n3_ := A_ (ho); clear HI0; clear HB; clear HK; clear HO_5; have HI0 := n0_; have HB := n1_; have HK := n2_; have HO808 := n3_; clear n0_ n1_ n2_ n3_; clear ho hb hg hat))
     go_roundg k1
     case measure => have := HK1.out; omega
     case rel => exact ⟨(y806), (t804), (t805), H', ⟨by have := HK1.out; omega⟩, ⟨kR_ HO808.out⟩, ⟨kI_83 HI0.out⟩, ⟨hk_⟩, ⟨bs_ (IsS83.ge HI0.out)⟩⟩
    ·
     rw [if_neg c5] at H; cases H
   ·
    rw [if_neg c3] at H
    have c3b0 := decide_eq_false c3
    clear c3
    simp only [Option.some.injEq, Prod.mk.injEq] at H
    obtain ⟨rfl, rfl, rfl⟩ := H
    obtain ⟨Ao9, co9, eo9⟩ := Kd.R_slice HO_5.out
    subst eo9
    go_wp2
    go_ret
    exact ⟨_, ew_, kR_ HO_5.out, kI_83 HI0.out, bs_ (IsS83.ge HI0.out), hk_⟩

end Go.Proofs.Ytebjiooojkhkpaa.X
