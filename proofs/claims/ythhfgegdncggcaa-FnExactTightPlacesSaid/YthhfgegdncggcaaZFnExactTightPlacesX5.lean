-- Shaken by wip/gen/shake.py out of this claim's own printed texts. Lean checks it.
import Derived.Test.YthhfgegdncggcaaX0
import Derived.Test.YthhfgegdncggcaaZFnExactTightPlacesX3
import Derived.Test.YthhfgegdncggcaaZFnExactTightPlacesX4
namespace Go.Proofs.Ythhfgegdncggcaa.X
open Go.RowKit Go.Proofs.YthhfgegdncggcaaW.PrintWords Go.Proofs.YthhfgegdncggcaaW.PrintLast Go.Proofs.YthhfgegdncggcaaW.PrintMore
attribute [local go_sem] max2_int min2_int max_two min_two max_three min_three max_four min_four   -- for this text's walks alone
set_option linter.unusedVariables false
set_option linter.unusedSimpArgs false

/-! ### impl_leastSolution: function 71 -/
mutual
def impl_leastSolution.l0 : Nat → List Int → List Int → List (List Int) → Int → Int → Option (List Int)
  | 0, _, _, _, _, _ => none
  | k + 1, x1, x5, x14, x15, x16 => if x16 < x15 then (if 0 ≤ x16 then (if x16 < (x14.length : Int) then (impl_leastSolution.l1 k x1 x5 0 false x14 x15 x16 (rd_L1 x14 x16) ((rd_L1 x14 x16).length : Int) 0) else (none)) else (none)) else (some x5)
def impl_leastSolution.l1 : Nat → List Int → List Int → Int → Bool → List (List Int) → Int → Int → List Int → Int → Int → Option (List Int)
  | 0, _, _, _, _, _, _, _, _, _, _ => none
  | k + 1, x1, x5, x8, x9, x14, x15, x16, x20, x21, x22 => if x22 < x21 then (if 0 ≤ x22 then (if x22 < (x20.length : Int) then (if (rd x20 x22) = 1000000000 then (impl_leastSolution.l1 k x1 x5 x8 x9 x14 x15 x16 x20 x21 (wrap64 (x22 + 1))) else (if x9 = true then (if x22 < (x1.length : Int) then (if (wrap64 ((rd x1 x22) - (rd x20 x22))) > x8 then (impl_leastSolution.l1 k x1 x5 (wrap64 ((rd x1 x22) - (rd x20 x22))) true x14 x15 x16 x20 x21 (wrap64 (x22 + 1))) else (impl_leastSolution.l1 k x1 x5 x8 x9 x14 x15 x16 x20 x21 (wrap64 (x22 + 1)))) else (none)) else (if x22 < (x1.length : Int) then (impl_leastSolution.l1 k x1 x5 (wrap64 ((rd x1 x22) - (rd x20 x22))) true x14 x15 x16 x20 x21 (wrap64 (x22 + 1))) else (none)))) else (none)) else (none)) else (if x5.length < 17592186044416 then (impl_leastSolution.l0 k x1 (x5 ++ [x8]) x14 x15 (wrap64 (x16 + 1))) else (none))
end
def impl_leastSolution.f (k : Nat) (l0 : List (List Int)) (l1 : List Int) : Option (List Int) := (impl_transposed.f k l0).bind fun t188 => (impl_leastSolution.l0 k l1 (([] : List Int)) t188 (t188.length : Int) 0)
theorem impl_leastSolution.mono_l : ∀ k, (∀ y0 y1 y2 y3 y4, LeO (impl_leastSolution.l0 k y0 y1 y2 y3 y4) (impl_leastSolution.l0 (k + 1) y0 y1 y2 y3 y4)) ∧ (∀ y0 y1 y2 y3 y4 y5 y6 y7 y8 y9, LeO (impl_leastSolution.l1 k y0 y1 y2 y3 y4 y5 y6 y7 y8 y9) (impl_leastSolution.l1 (k + 1) y0 y1 y2 y3 y4 y5 y6 y7 y8 y9))
  | 0 => ⟨fun _ _ _ _ _ r h => by simp [impl_leastSolution.l0] at h, fun _ _ _ _ _ _ _ _ _ _ r h => by simp [impl_leastSolution.l1] at h⟩
  | k + 1 => by
    obtain ⟨ih0, ih1⟩ := impl_leastSolution.mono_l k
    refine ⟨?_, ?_⟩
    · intro y0 y1 y2 y3 y4
      unfold impl_leastSolution.l0
      repeat' first
      | (with_reducible exact ih0 _ _ _ _ _)
      | (with_reducible exact ih1 _ _ _ _ _ _ _ _ _ _)
      | (with_reducible exact impl_transposed.mono _ _)
      | (with_reducible exact LeO.refl _)
      | (with_reducible exact LeO.none _)
      | (with_reducible refine LeO.ite ?_ ?_)
      | (with_reducible refine LeO.bind ?_ (fun _ => ?_))
      | exact ih0 _ _ _ _ _
      | exact ih1 _ _ _ _ _ _ _ _ _ _
      | exact impl_transposed.mono _ _
      | exact LeO.none _
      | refine LeO.ite ?_ ?_
      | refine LeO.bind ?_ (fun _ => ?_)
    · intro y0 y1 y2 y3 y4 y5 y6 y7 y8 y9
      unfold impl_leastSolution.l1
      repeat' first
      | (with_reducible exact ih0 _ _ _ _ _)
      | (with_reducible exact ih1 _ _ _ _ _ _ _ _ _ _)
      | (with_reducible exact impl_transposed.mono _ _)
      | (with_reducible exact LeO.refl _)
      | (with_reducible exact LeO.none _)
      | (with_reducible refine LeO.ite ?_ ?_)
      | (with_reducible refine LeO.bind ?_ (fun _ => ?_))
      | exact ih0 _ _ _ _ _
      | exact ih1 _ _ _ _ _ _ _ _ _ _
      | exact impl_transposed.mono _ _
      | exact LeO.none _
      | refine LeO.ite ?_ ?_
      | refine LeO.bind ?_ (fun _ => ?_)
theorem impl_leastSolution.mono : ∀ a0 a1 k, LeO (impl_leastSolution.f k a0 a1) (impl_leastSolution.f (k + 1) a0 a1) := by
  intro a0 a1 k
  obtain ⟨ih0, ih1⟩ := impl_leastSolution.mono_l k
  unfold impl_leastSolution.f
  repeat' first
      | (with_reducible exact ih0 _ _ _ _ _)
      | (with_reducible exact ih1 _ _ _ _ _ _ _ _ _ _)
      | (with_reducible exact impl_transposed.mono _ _)
      | (with_reducible exact LeO.refl _)
      | (with_reducible exact LeO.none _)
      | (with_reducible refine LeO.ite ?_ ?_)
      | (with_reducible refine LeO.bind ?_ (fun _ => ?_))
      | exact ih0 _ _ _ _ _
      | exact ih1 _ _ _ _ _ _ _ _ _ _
      | exact impl_transposed.mono _ _
      | exact LeO.none _
      | refine LeO.ite ?_ ?_
      | refine LeO.bind ?_ (fun _ => ?_)
set_option maxHeartbeats 8000000 in
set_option maxRecDepth 100000 in
theorem impl_leastSolution.calls (k : Nat) (A0 : Option Addr) (c0 : Nat) (l0 : List (List Int)) (A1 : Option Addr) (c1 : Nat) (l1 : List Int) (r : List Int) (w : World) (hr0 : Kd.C (Kd.slice 3 (Kd.int .i64)) w A0 l0.length l0) (hc0 : l0.length ≤ c0) (hr1 : Kd.C (Kd.int .i64) w A1 l1.length l1) (hc1 : l1.length ≤ c1) (h : impl_leastSolution.f k l0 l1 = some r) :
    Calls Try.prog 71 #[.slice A0 l0.length c0, .slice A1 l1.length c1] w fun e w' => ∃ v0_ : Value, e = .returned (v0_) ∧ Kd.R (Kd.int .i64) 3 w' w.heap.size (fun _ => True) v0_ r ∧ Below w.heap.size w w' := by
  have HR0 := Aside0.mk hr0
  have HC0 := Aside0.mk hc0
  clear hr0 hc0
  have HR1 := Aside0.mk hr1
  have HC1 := Aside0.mk hc1
  clear hr1 hc1
  have HB := Aside0.mk (Below.refl w.heap.size w)
  have H : ((impl_transposed.f k l0).bind fun t188 => (impl_leastSolution.l0 k l1 (([] : List Int)) t188 (t188.length : Int) 0)) = some r := h
  clear h
  obtain ⟨y185, hy185⟩ : ∃ y_ : List Int, y_ = (([] : List Int)) := ⟨_, rfl⟩
  replace H : ((impl_transposed.f k l0).bind fun t188 => (impl_leastSolution.l0 k l1 y185 t188 (t188.length : Int) 0)) = some r := by first | (rw [hy185]; with_reducible exact H) | (have H2_ := (Option.bind_some _ _).symm.trans H; rw [hy185]; with_reducible exact H2_) | (have H2_ := (Option.bind_some _ _).symm.trans H; with_reducible exact H2_) | with_reducible exact H | (rw [hy185]; exact H) | exact H
  have Ny185 := Aside0.mk hy185
  clear hy185
  replace H := Option.bind_eq_some_iff.mp H
  obtain ⟨t188, A30, H⟩ := H
  replace H : (impl_leastSolution.l0 k l1 y185 t188 (t188.length : Int) 0) = some r := H
  have A3 := Aside0.mk A30
  clear A30
  have H' := Aside0.mk H
  clear H
  go_enter Try.func71, Try.ntmps71
  go_wp2_with (first | ((with_reducible refine gate_dst (N := 12) rfl ?_); refine Kd.R_lit (Kd.int .i64) _ 3 ?hg (N := 12) ?hd (xs := ([] : List Int)) (inner := []) (ok := fun _ => True) (okp := fun _ => True) ?hr ?hp (fun _ hk => hk) trivial (Below.refl _ _) (Nat.le_refl _) (by simp) ?_; (case hd => rfl); (case hg => rfl); (case hr => first | (go_simp; done) | (go_simp; rfl)); (case hp => exact (Reps.none _ _)); intro v186 w4 ho5 hb hg_ hnew_; clear hg_ hnew_; (first | rw [← Ny185.out] at ho5 | (simp only [Int.reduceToNat] at ho5; rw [← Ny185.out] at ho5)); have n0_ := Aside0.mk (Kd.R_lower ho5 (below_size (by repeat (first | (with_reducible first | exact HB.out | apply below_alloc | apply pw_below_drewN | apply below_drew1) | exact HB.out)))); have n1_ := Aside0.mk (below_step (by repeat (first | (with_reducible first | exact HB.out | apply below_alloc | apply pw_below_drewN | apply below_drew1) | exact HB.out)) hb); clear HB; have HO187 := n0_; have HB := n1_; clear n0_ n1_; clear hb ho5) | ((with_reducible refine gate_callee (f := 91) rfl ?_); refine goesL_ (some 14) rfl rfl Try.func91 (by kernel_rfl) rfl #[.slice A0 l0.length c0] rfl (by (try simp only [List.map_toArray, List.map_cons, List.map_nil]); first | done | rfl | (simp only [List.length_drop, List.length_take]; rfl)) ?_; (with_reducible refine (impl_transposed.calls k _ _ l0 t188 _ ?side1 ?side2 A3.out).mono ?_); (case side1 => repeat (first | exact (Kd.C_below HR0.out HB.out) | (with_reducible refine Kd.C_alloc ?_ _) | (with_reducible refine Kd.C_drewN ?_ _) | (with_reducible refine Kd.C_drew ?_))); (case side2 => exact HC0.out); rintro e w6 ⟨v189, rfl, ho0, hb⟩; refine ⟨_, rfl, ?_⟩; have n0_ := Aside0.mk (Kd.R_below (by (with_reducible repeat (first | apply Kd.R_alloc | apply Kd.R_drewN | apply Kd.R_drew)); exact HO187.out) hb); have n1_ := Aside0.mk (Kd.S_lower (Kd.S_new' ho0 (Kd.R_lt (by (with_reducible repeat (first | apply Kd.R_alloc | apply Kd.R_drewN | apply Kd.R_drew)); exact HO187.out))) (below_size (by repeat (first | (with_reducible first | exact HB.out | apply below_alloc | apply pw_below_drewN | apply below_drew1) | exact HB.out)))); have n2_ := Aside0.mk (below_step (by repeat (first | (with_reducible first | exact HB.out | apply below_alloc | apply pw_below_drewN | apply below_drew1) | exact HB.out)) hb); clear HO187; clear HB; have HO187 := n0_; have HO190 := n1_; have HB := n2_; clear n0_ n1_ n2_; (try clear hb); (try clear hb2); (try clear hk); (try clear hi); (try clear ho0); obtain ⟨Ao7, co7, eo7⟩ := Kd.S_slice HO190.out; subst eo7))
  go_loopg [5, 16] k (fun kq v5 v16 w' => ∃ (x5_1 : List Int) (x16_1 : Int), v16 = .int .i64 x16_1 ∧ Aside0 (impl_leastSolution.l0 kq l1 x5_1 t188 (t188.length : Int) x16_1 = some r) ∧ Aside0 (kq ≤ k) ∧ Aside0 (Kd.R (Kd.int .i64) 3 w' w.heap.size (fun _ => True) v5 x5_1) ∧ Aside0 (Kd.S (Kd.slice 3 (Kd.int .i64)) 23 w' w.heap.size (fun k_ => some k_ ≠ (v5 : Value).ownBlock) (.slice Ao7 t188.length co7) t188) ∧ Aside0 (Below w.heap.size w w'))
  case atStart => exact ⟨(y185), (0), (by first | rfl | (simp; done) | (simp [*]; done)), H', ⟨Nat.le_refl _⟩, ⟨by (with_reducible repeat (first | apply Kd.R_alloc | apply Kd.R_drewN | apply Kd.R_drew)); exact HO187.out⟩, ⟨by (with_reducible repeat (first | apply Kd.S_alloc | apply Kd.S_drewN | apply Kd.S_drew)); exact Kd.S_mono HO190.out (fun _ hk => hk.2)⟩, ⟨by repeat (first | (with_reducible first | exact HB.out | apply below_alloc | apply pw_below_drewN | apply below_drew1) | exact HB.out)⟩⟩
  case round =>
    clear H'
    try clear c1
    try clear p2
    try clear c7
    obtain ⟨x5_1, x16_1, rfl, HA, HK1, HO_5, HO_14, HB⟩ := hrel
    cases gk with
    | zero => exact absurd HA.out (by simp [impl_leastSolution.l0])
    | succ k1 =>
      have H := HA.out
      clear HA
      simp only [impl_leastSolution.l0] at H
      by_cases c8 : x16_1 < (t188.length : Int)
      · rw [if_pos c8] at H
        have c8b0 : decide (x16_1 < (t188.length : Int)) = true := decide_eq_true c8
        clear c8
        by_cases c9 : 0 ≤ x16_1
        · rw [if_pos c9] at H
          have c9b0 : decide (0 ≤ x16_1) = true := decide_eq_true c9
          clear c9
          by_cases c10 : x16_1 < (t188.length : Int)
          · rw [if_pos c10] at H
            have c10b0 : decide (x16_1 < (t188.length : Int)) = true := decide_eq_true c10
            clear c10
            have H' := Aside0.mk H
            clear H
            have p191 : 0 ≤ (x16_1 : Int) := of_decide_eq_true (by first | (with_reducible assumption) | assumption)
            have q191 : x16_1 < (t188.length : Int) := of_decide_eq_true (by first | (with_reducible assumption) | assumption)
            obtain ⟨ad191, A191_0, c191_0, e191, hx191_0, hl191_0, hi191_0⟩ := at_L1 (Kd.S_reads' HO_14.out).2.2 x16_1 p191 q191
            cases e191
            obtain ⟨ce191, hce191, hMe191, hcc191⟩ := Kd.S_get HO_14.out [] x16_1 p191 (by first | exact q191 | exact of_decide_eq_true (by first | (with_reducible assumption) | assumption) | (have e_ := (Kd.S_reads' HO_14.out).1; omega))
            obtain ⟨ve191_0, rfl, ge191_0⟩ := hMe191
            have hv191_0 := hcc191 0 _ rfl
            rw [Nat.add_zero, show ((Kd.slice 3 (Kd.int .i64))).sz = 1 from rfl, Nat.mul_one] at hv191_0
            replace hv191_0 := Option.some.inj (hv191_0.symm.trans hx191_0)
            rw [hv191_0] at ge191_0
            have HL191_0 := Aside0.mk (show Kd.R (Kd.int .i64) 3 _ _ _ _ (rd_L1 t188 x16_1) from ge191_0)
            clear hv191_0 ge191_0
            clear hcc191 hce191
            have HR191_0 := Aside0.mk hi191_0
            have HC191_0 := Aside0.mk hl191_0
            clear hi191_0 hl191_0
            replace p191 := eq_true p191
            replace q191 := eq_true q191
            go_wp2
            go_loopg [8, 9, 22] k1 (fun kq v8 v9 v22 w' => ∃ (x8_2 : Int) (x9_2 : Bool) (x22_2 : Int), v8 = .int .i64 x8_2 ∧ v9 = .bool x9_2 ∧ v22 = .int .i64 x22_2 ∧ Aside0 (impl_leastSolution.l1 kq l1 x5_1 x8_2 x9_2 t188 (t188.length : Int) x16_1 (rd_L1 t188 x16_1) ((rd_L1 t188 x16_1).length : Int) x22_2 = some r) ∧ Aside0 (kq ≤ k1) ∧ Aside0 (Kd.R (Kd.int .i64) 3 w' w.heap.size (fun _ => True) u5 x5_1) ∧ Aside0 (Kd.S (Kd.slice 3 (Kd.int .i64)) 23 w' w.heap.size (fun k_ => some k_ ≠ (u5 : Value).ownBlock) (.slice (some ad191) t188.length co7) t188) ∧ Aside0 (Kd.C (Kd.int .i64) w' A191_0 (rd_L1 t188 x16_1).length (rd_L1 t188 x16_1)) ∧ Aside0 (Below w.heap.size w w'))
            case atStart => exact ⟨(0), (false), (0), (by first | rfl | (simp; done) | (simp [*]; done)), (by first | rfl | (simp; done) | (simp [*]; done)), (by first | rfl | (simp; done) | (simp [*]; done)), H', ⟨Nat.le_refl _⟩, ⟨by (with_reducible repeat (first | apply Kd.R_alloc | apply Kd.R_drewN | apply Kd.R_drew)); exact HO_5.out⟩, ⟨by (with_reducible repeat (first | apply Kd.S_alloc | apply Kd.S_drewN | apply Kd.S_drew)); exact HO_14.out⟩, ⟨by repeat (first | (with_reducible exact HR191_0.out) | (with_reducible refine Kd.C_alloc ?_ _) | (with_reducible refine Kd.C_drewN ?_ _) | (with_reducible refine Kd.C_drew ?_) | exact HR191_0.out)⟩, ⟨by repeat (first | (with_reducible first | exact HB.out | apply below_alloc | apply pw_below_drewN | apply below_drew1) | exact HB.out)⟩⟩
            case round =>
              clear H'
              try clear c1
              try clear p1
              try clear q1
              try clear hx1
              try clear p2
              try clear c7
              try clear c8
              try clear c8b0
              try clear c9
              try clear c9b0
              try clear c10
              try clear c10b0
              try clear hx191_0
              try clear p191
              try clear p2
              try clear q191
              obtain ⟨x8_2, x9_2, x22_2, rfl, rfl, rfl, HA, HK2, HO_5, HO_14, HR191_0, HB⟩ := hrel
              cases gk with
              | zero => exact absurd HA.out (by simp [impl_leastSolution.l1])
              | succ k2 =>
                have H := HA.out
                clear HA
                simp only [impl_leastSolution.l1] at H
                by_cases c11 : x22_2 < ((rd_L1 t188 x16_1).length : Int)
                · rw [if_pos c11] at H
                  have c11b0 : decide (x22_2 < ((rd_L1 t188 x16_1).length : Int)) = true := decide_eq_true c11
                  clear c11
                  by_cases c12 : 0 ≤ x22_2
                  · rw [if_pos c12] at H
                    have c12b0 : decide (0 ≤ x22_2) = true := decide_eq_true c12
                    clear c12
                    by_cases c13 : x22_2 < ((rd_L1 t188 x16_1).length : Int)
                    · rw [if_pos c13] at H
                      have c13b0 : decide (x22_2 < ((rd_L1 t188 x16_1).length : Int)) = true := decide_eq_true c13
                      clear c13
                      by_cases c14 : (rd (rd_L1 t188 x16_1) x22_2) = 1000000000
                      · rw [if_pos c14] at H
                        have c14b0 : ((rd (rd_L1 t188 x16_1) x22_2) == 1000000000) = true := beq_iff_eq.mpr c14
                        have c14b1 : ((rd (rd_L1 t188 x16_1) x22_2) != 1000000000) = false := bne_eq_false_iff_eq.mpr c14
                        clear c14
                        have H' := Aside0.mk H
                        clear H
                        have p192 : 0 ≤ (x22_2 : Int) := of_decide_eq_true (by first | (with_reducible assumption) | assumption)
                        have q192 : x22_2 < ((rd_L1 t188 x16_1).length : Int) := of_decide_eq_true (by first | (with_reducible assumption) | assumption)
                        obtain ⟨ad192, e192, hx192_0⟩ := Kd.at_int HR191_0.out x22_2 p192 q192
                        cases e192
                        try replace hx192_0 := (HB.out.cell (World.block_lt_of_cell? w _ hx192_0)).trans hx192_0
                        replace p192 := eq_true p192
                        replace q192 := eq_true q192
                        go_wp2
                        go_roundg k2
                        case measure => have := HK1.out; have := HK2.out; omega
                        case rel => exact ⟨(x8_2), (x9_2), (wrap64 (x22_2 + 1)), (by first | rfl | (simp; done) | (simp [*]; done)), (by first | rfl | (simp; done) | (simp [*]; done)), (by first | rfl | (simp; done) | (simp [*]; done)), H', ⟨by have := HK1.out; have := HK2.out; omega⟩, ⟨by (with_reducible repeat (first | apply Kd.R_alloc | apply Kd.R_drewN | apply Kd.R_drew)); exact HO_5.out⟩, ⟨by (with_reducible repeat (first | apply Kd.S_alloc | apply Kd.S_drewN | apply Kd.S_drew)); exact HO_14.out⟩, ⟨by repeat (first | (with_reducible exact HR191_0.out) | (with_reducible refine Kd.C_alloc ?_ _) | (with_reducible refine Kd.C_drewN ?_ _) | (with_reducible refine Kd.C_drew ?_) | exact HR191_0.out)⟩, ⟨by repeat (first | (with_reducible first | exact HB.out | apply below_alloc | apply pw_below_drewN | apply below_drew1) | exact HB.out)⟩⟩
                      · rw [if_neg c14] at H
                        have c14b0 : ((rd (rd_L1 t188 x16_1) x22_2) == 1000000000) = false := beq_eq_false_iff_ne.mpr c14
                        have c14b1 : ((rd (rd_L1 t188 x16_1) x22_2) != 1000000000) = true := bne_iff_ne.mpr c14
                        by_cases c15 : x9_2 = true
                        · subst c15
                          have H1 : (if x22_2 < (l1.length : Int) then (if (wrap64 ((rd l1 x22_2) - (rd (rd_L1 t188 x16_1) x22_2))) > x8_2 then (impl_leastSolution.l1 k2 l1 x5_1 (wrap64 ((rd l1 x22_2) - (rd (rd_L1 t188 x16_1) x22_2))) true t188 (t188.length : Int) x16_1 (rd_L1 t188 x16_1) ((rd_L1 t188 x16_1).length : Int) (wrap64 (x22_2 + 1))) else (impl_leastSolution.l1 k2 l1 x5_1 x8_2 true t188 (t188.length : Int) x16_1 (rd_L1 t188 x16_1) ((rd_L1 t188 x16_1).length : Int) (wrap64 (x22_2 + 1)))) else (none)) = some r := by rw [if_pos rfl] at H; exact H
                          clear H
                          have H := H1
                          clear H1
                          by_cases c16 : x22_2 < (l1.length : Int)
                          · rw [if_pos c16] at H
                            have c16b0 : decide (x22_2 < (l1.length : Int)) = true := decide_eq_true c16
                            clear c16
                            by_cases c17 : (wrap64 ((rd l1 x22_2) - (rd (rd_L1 t188 x16_1) x22_2))) > x8_2
                            · rw [if_pos c17] at H
                              have c17b0 : decide (x8_2 < (wrap64 ((rd l1 x22_2) - (rd (rd_L1 t188 x16_1) x22_2)))) = true := decide_eq_true c17
                              clear c17
                              have H' := Aside0.mk H
                              clear H
                              have p192 : 0 ≤ (x22_2 : Int) := of_decide_eq_true (by first | (with_reducible assumption) | assumption)
                              have q192 : x22_2 < ((rd_L1 t188 x16_1).length : Int) := of_decide_eq_true (by first | (with_reducible assumption) | assumption)
                              obtain ⟨ad192, e192, hx192_0⟩ := Kd.at_int HR191_0.out x22_2 p192 q192
                              cases e192
                              try replace hx192_0 := (HB.out.cell (World.block_lt_of_cell? w _ hx192_0)).trans hx192_0
                              replace p192 := eq_true p192
                              replace q192 := eq_true q192
                              have p193 : 0 ≤ (x22_2 : Int) := of_decide_eq_true (by first | (with_reducible assumption) | assumption)
                              have q193 : x22_2 < (l1.length : Int) := of_decide_eq_true (by first | (with_reducible assumption) | assumption)
                              obtain ⟨ad193, e193, hx193_0⟩ := Kd.at_int HR1.out x22_2 p193 q193
                              cases e193
                              try replace hx193_0 := (HB.out.cell (World.block_lt_of_cell? w _ hx193_0)).trans hx193_0
                              replace p193 := eq_true p193
                              replace q193 := eq_true q193
                              have p194 : 0 ≤ (x22_2 : Int) := of_decide_eq_true (by first | (with_reducible assumption) | assumption)
                              have q194 : x22_2 < (l1.length : Int) := of_decide_eq_true (by first | (with_reducible assumption) | assumption)
                              obtain ⟨ad194, e194, hx194_0⟩ := Kd.at_int HR1.out x22_2 p194 q194
                              obtain rfl : ad193 = ad194 := (by injection e194)
                              try replace hx194_0 := (HB.out.cell (World.block_lt_of_cell? w _ hx194_0)).trans hx194_0
                              replace p194 := eq_true p194
                              replace q194 := eq_true q194
                              go_wp2
                              go_roundg k2
                              case measure => have := HK1.out; have := HK2.out; omega
                              case rel => exact ⟨(wrap64 ((rd l1 x22_2) - (rd (rd_L1 t188 x16_1) x22_2))), (true), (wrap64 (x22_2 + 1)), (by first | rfl | (simp; done) | (simp [*]; done)), (by first | rfl | (simp; done) | (simp [*]; done)), (by first | rfl | (simp; done) | (simp [*]; done)), H', ⟨by have := HK1.out; have := HK2.out; omega⟩, ⟨by (with_reducible repeat (first | apply Kd.R_alloc | apply Kd.R_drewN | apply Kd.R_drew)); exact HO_5.out⟩, ⟨by (with_reducible repeat (first | apply Kd.S_alloc | apply Kd.S_drewN | apply Kd.S_drew)); exact HO_14.out⟩, ⟨by repeat (first | (with_reducible exact HR191_0.out) | (with_reducible refine Kd.C_alloc ?_ _) | (with_reducible refine Kd.C_drewN ?_ _) | (with_reducible refine Kd.C_drew ?_) | exact HR191_0.out)⟩, ⟨by repeat (first | (with_reducible first | exact HB.out | apply below_alloc | apply pw_below_drewN | apply below_drew1) | exact HB.out)⟩⟩
                            · rw [if_neg c17] at H
                              have c17b0 : decide (x8_2 < (wrap64 ((rd l1 x22_2) - (rd (rd_L1 t188 x16_1) x22_2)))) = false := decide_eq_false c17
                              clear c17
                              have H' := Aside0.mk H
                              clear H
                              have p192 : 0 ≤ (x22_2 : Int) := of_decide_eq_true (by first | (with_reducible assumption) | assumption)
                              have q192 : x22_2 < ((rd_L1 t188 x16_1).length : Int) := of_decide_eq_true (by first | (with_reducible assumption) | assumption)
                              obtain ⟨ad192, e192, hx192_0⟩ := Kd.at_int HR191_0.out x22_2 p192 q192
                              cases e192
                              try replace hx192_0 := (HB.out.cell (World.block_lt_of_cell? w _ hx192_0)).trans hx192_0
                              replace p192 := eq_true p192
                              replace q192 := eq_true q192
                              have p193 : 0 ≤ (x22_2 : Int) := of_decide_eq_true (by first | (with_reducible assumption) | assumption)
                              have q193 : x22_2 < (l1.length : Int) := of_decide_eq_true (by first | (with_reducible assumption) | assumption)
                              obtain ⟨ad193, e193, hx193_0⟩ := Kd.at_int HR1.out x22_2 p193 q193
                              cases e193
                              try replace hx193_0 := (HB.out.cell (World.block_lt_of_cell? w _ hx193_0)).trans hx193_0
                              replace p193 := eq_true p193
                              replace q193 := eq_true q193
                              go_wp2
                              go_roundg k2
                              case measure => have := HK1.out; have := HK2.out; omega
                              case rel => exact ⟨(x8_2), (true), (wrap64 (x22_2 + 1)), (by first | rfl | (simp; done) | (simp [*]; done)), (by first | rfl | (simp; done) | (simp [*]; done)), (by first | rfl | (simp; done) | (simp [*]; done)), H', ⟨by have := HK1.out; have := HK2.out; omega⟩, ⟨by (with_reducible repeat (first | apply Kd.R_alloc | apply Kd.R_drewN | apply Kd.R_drew)); exact HO_5.out⟩, ⟨by (with_reducible repeat (first | apply Kd.S_alloc | apply Kd.S_drewN | apply Kd.S_drew)); exact HO_14.out⟩, ⟨by repeat (first | (with_reducible exact HR191_0.out) | (with_reducible refine Kd.C_alloc ?_ _) | (with_reducible refine Kd.C_drewN ?_ _) | (with_reducible refine Kd.C_drew ?_) | exact HR191_0.out)⟩, ⟨by repeat (first | (with_reducible first | exact HB.out | apply below_alloc | apply pw_below_drewN | apply below_drew1) | exact HB.out)⟩⟩
                          · rw [if_neg c16] at H
                            exact absurd H (by simp)
                        · replace c15 := Bool.eq_false_iff.mpr c15
                          subst c15
                          have H1 : (if x22_2 < (l1.length : Int) then (impl_leastSolution.l1 k2 l1 x5_1 (wrap64 ((rd l1 x22_2) - (rd (rd_L1 t188 x16_1) x22_2))) true t188 (t188.length : Int) x16_1 (rd_L1 t188 x16_1) ((rd_L1 t188 x16_1).length : Int) (wrap64 (x22_2 + 1))) else (none)) = some r := by rw [if_neg (show ¬ (false = true) by decide)] at H; exact H
                          clear H
                          have H := H1
                          clear H1
                          by_cases c18 : x22_2 < (l1.length : Int)
                          · rw [if_pos c18] at H
                            have c18b0 : decide (x22_2 < (l1.length : Int)) = true := decide_eq_true c18
                            clear c18
                            have H' := Aside0.mk H
                            clear H
                            have p192 : 0 ≤ (x22_2 : Int) := of_decide_eq_true (by first | (with_reducible assumption) | assumption)
                            have q192 : x22_2 < ((rd_L1 t188 x16_1).length : Int) := of_decide_eq_true (by first | (with_reducible assumption) | assumption)
                            obtain ⟨ad192, e192, hx192_0⟩ := Kd.at_int HR191_0.out x22_2 p192 q192
                            cases e192
                            try replace hx192_0 := (HB.out.cell (World.block_lt_of_cell? w _ hx192_0)).trans hx192_0
                            replace p192 := eq_true p192
                            replace q192 := eq_true q192
                            have p195 : 0 ≤ (x22_2 : Int) := of_decide_eq_true (by first | (with_reducible assumption) | assumption)
                            have q195 : x22_2 < (l1.length : Int) := of_decide_eq_true (by first | (with_reducible assumption) | assumption)
                            obtain ⟨ad195, e195, hx195_0⟩ := Kd.at_int HR1.out x22_2 p195 q195
                            cases e195
                            try replace hx195_0 := (HB.out.cell (World.block_lt_of_cell? w _ hx195_0)).trans hx195_0
                            replace p195 := eq_true p195
                            replace q195 := eq_true q195
                            go_wp2
                            go_roundg k2
                            case measure => have := HK1.out; have := HK2.out; omega
                            case rel => exact ⟨(wrap64 ((rd l1 x22_2) - (rd (rd_L1 t188 x16_1) x22_2))), (true), (wrap64 (x22_2 + 1)), (by first | rfl | (simp; done) | (simp [*]; done)), (by first | rfl | (simp; done) | (simp [*]; done)), (by first | rfl | (simp; done) | (simp [*]; done)), H', ⟨by have := HK1.out; have := HK2.out; omega⟩, ⟨by (with_reducible repeat (first | apply Kd.R_alloc | apply Kd.R_drewN | apply Kd.R_drew)); exact HO_5.out⟩, ⟨by (with_reducible repeat (first | apply Kd.S_alloc | apply Kd.S_drewN | apply Kd.S_drew)); exact HO_14.out⟩, ⟨by repeat (first | (with_reducible exact HR191_0.out) | (with_reducible refine Kd.C_alloc ?_ _) | (with_reducible refine Kd.C_drewN ?_ _) | (with_reducible refine Kd.C_drew ?_) | exact HR191_0.out)⟩, ⟨by repeat (first | (with_reducible first | exact HB.out | apply below_alloc | apply pw_below_drewN | apply below_drew1) | exact HB.out)⟩⟩
                          · rw [if_neg c18] at H
                            exact absurd H (by simp)
                    · rw [if_neg c13] at H
                      exact absurd H (by simp)
                  · rw [if_neg c12] at H
                    exact absurd H (by simp)
                · rw [if_neg c11] at H
                  have c11b0 : decide (x22_2 < ((rd_L1 t188 x16_1).length : Int)) = false := decide_eq_false c11
                  clear c11
                  by_cases c19 : x5_1.length < 17592186044416
                  · rw [if_pos c19] at H
                    have LMc19 := Aside0.mk c19
                    clear c19
                    obtain ⟨y196, hy196⟩ : ∃ y_ : List Int, y_ = (x5_1 ++ [x8_2]) := ⟨_, rfl⟩
                    replace H : (impl_leastSolution.l0 k2 l1 y196 t188 (t188.length : Int) (wrap64 (x16_1 + 1))) = some r := by first | (rw [hy196]; with_reducible exact H) | (have H2_ := (Option.bind_some _ _).symm.trans H; rw [hy196]; with_reducible exact H2_) | (have H2_ := (Option.bind_some _ _).symm.trans H; with_reducible exact H2_) | with_reducible exact H | (rw [hy196]; exact H) | exact H
                    have Ny196 := Aside0.mk hy196
                    clear hy196
                    have H' := Aside0.mk H
                    clear H
                    go_wp2_with (first | ((with_reducible refine gate_builtin (b := .append) (xs := #[.tmp 50, .tmp 52]) rfl ?_); at_builtin; refine Kd.R_append (Kd.int .i64) (w0 := w) w.heap.size rfl (.tmp 50) (.tmp 52) 23 3 (.int .i64 0) 8 rfl Try.underlying23 info3 rfl (by decide) (by omega) u5 x5_1 x8_2 [.int .i64 x8_2] (fun _ => True) (fun _ => False) rfl rfl ?aP (fun _ hk => hk.elim) ?aF ?aO ?aB ?aS ?aL ?_; (case aP => exact rfl); (case aB => exact (by repeat (first | (with_reducible first | exact HB.out | apply below_alloc | apply pw_below_drewN | apply below_drew1) | exact HB.out))); (case aF => exact (fun _ _ => trivial)); (case aO => exact (by (with_reducible repeat (first | apply Kd.R_alloc | apply Kd.R_drewN | apply Kd.R_drew)); exact HO_5.out)); (case aS => exact (below_size (by repeat (first | (with_reducible first | exact HB.out | apply below_alloc | apply pw_below_drewN | apply below_drew1) | exact HB.out)))); (case aL => have := LMc19.out; omega); intro v197 w20 ho hb hg hat; rw [← Ny196.out] at ho; have n0_ := Aside0.mk (Kd.S_after (ok := (fun _ => True)) (by (with_reducible repeat (first | apply Kd.S_alloc | apply Kd.S_drewN | apply Kd.S_drew)); exact Kd.S_mono HO_14.out (fun _ hk => ⟨trivial, hk⟩)) hg hat); have n1_ := Aside0.mk (hb); have n2_ := Aside0.mk (ho); clear HO_14; clear HB; clear HO_5; have HO_14 := n0_; have HB := n1_; have HO198 := n2_; clear n0_ n1_ n2_; clear ho hb hg hat))
                    go_roundg k2
                    case measure => have := HK1.out; have := HK2.out; omega
                    case rel => exact ⟨(y196), (wrap64 (x16_1 + 1)), (by first | rfl | (simp; done) | (simp [*]; done)), H', ⟨by have := HK1.out; have := HK2.out; omega⟩, ⟨by (with_reducible repeat (first | apply Kd.R_alloc | apply Kd.R_drewN | apply Kd.R_drew)); exact HO198.out⟩, ⟨by (with_reducible repeat (first | apply Kd.S_alloc | apply Kd.S_drewN | apply Kd.S_drew)); exact Kd.S_mono HO_14.out (fun _ hk => hk.2)⟩, ⟨by repeat (first | (with_reducible first | exact HB.out | apply below_alloc | apply pw_below_drewN | apply below_drew1) | exact HB.out)⟩⟩
                  · rw [if_neg c19] at H
                    exact absurd H (by simp)
          · rw [if_neg c10] at H
            exact absurd H (by simp)
        · rw [if_neg c9] at H
          exact absurd H (by simp)
      · rw [if_neg c8] at H
        have c8b0 : decide (x16_1 < (t188.length : Int)) = false := decide_eq_false c8
        clear c8
        obtain rfl := Option.some.inj H
        go_wp2
        go_ret
        exact ⟨_, by first | rfl | (simp [errW_none, errW_some] <;> rfl) | (simp [*, errW_none, errW_some] <;> rfl), by (with_reducible repeat (first | apply Kd.R_alloc | apply Kd.R_drewN | apply Kd.R_drew)); exact HO_5.out, by repeat (first | (with_reducible first | exact HB.out | apply below_alloc | apply pw_below_drewN | apply below_drew1) | exact HB.out)⟩

/-! ### impl_systemOf: function 45 -/
/-- A system with its least solution, and whether there is one. -/
def impl_systemOf.f (k : Nat) (l0 : List (List Int)) (l1 : List Int) : Option (List Int × Bool) := (impl_isSystem.f k l0 l1).bind fun t => if t = true then ((impl_leastSolution.f k l0 l1).bind fun x => (impl_areNumbers.f k x).bind fun u => if u = true then some (x, true) else some ([], false)) else some ([], false)
theorem impl_systemOf.mono : ∀ a0 a1 k, LeO (impl_systemOf.f k a0 a1) (impl_systemOf.f (k + 1) a0 a1) := fun a0 a1 k =>
  LeO.bind (impl_isSystem.mono a0 a1 k) fun t => LeO.ite (LeO.bind (impl_leastSolution.mono a0 a1 k) fun x => LeO.bind (impl_areNumbers.mono x k) fun u => LeO.refl _) (LeO.refl _)
/-- A system in memory, behind a pointer: all that it leads to is only read. -/
def impl_systemOf.At (A0 : Option Addr) (c0 : Nat) (l0 : List (List Int)) (A1 : Option Addr) (c1 : Nat) (l1 : List Int) (A2 : Option Addr) (c2 : Nat) (l2 : List Int) (w : World) (B : Nat) : Prop :=
  w.heap[B]? = some (.cells #[.slice A0 l0.length c0, .slice A1 l1.length c1, .slice A2 l2.length c2] 50 (0, 0)) ∧
  (Kd.C (Kd.slice 3 (Kd.int .i64)) w A0 l0.length l0 ∧ l0.length ≤ c0) ∧ (Kd.C (Kd.int .i64) w A1 l1.length l1 ∧ l1.length ≤ c1) ∧ (Kd.C (Kd.int .i64) w A2 l2.length l2 ∧ l2.length ≤ c2)
theorem impl_systemOf.At.below {A0 : Option Addr} {c0 : Nat} {l0 : List (List Int)} {A1 : Option Addr} {c1 : Nat} {l1 : List Int} {A2 : Option Addr} {c2 : Nat} {l2 : List Int} {w W : World} {B : Nat} (h : impl_systemOf.At A0 c0 l0 A1 c1 l1 A2 c2 l2 w B) (hW : Below w.heap.size w W) : impl_systemOf.At A0 c0 l0 A1 c1 l1 A2 c2 l2 W B :=
  ⟨blk_below h.1 hW, ⟨Kd.C_below h.2.1.1 hW, h.2.1.2⟩, ⟨Kd.C_below h.2.2.1.1 hW, h.2.2.1.2⟩, ⟨Kd.C_below h.2.2.2.1 hW, h.2.2.2.2⟩⟩
set_option maxHeartbeats 4000000 in
set_option maxRecDepth 100000 in
theorem impl_systemOf.calls_no (k : Nat) (A0 : Option Addr) (c0 : Nat) (l0 : List (List Int)) (A1 : Option Addr) (c1 : Nat) (l1 : List Int) (r : List Int) (w : World) (hr0 : Kd.C (Kd.slice 3 (Kd.int .i64)) w A0 l0.length l0) (hc0 : l0.length ≤ c0) (hr1 : Kd.C (Kd.int .i64) w A1 l1.length l1) (hc1 : l1.length ≤ c1) (h : impl_systemOf.f k l0 l1 = some (r, false)) :
    Calls Try.prog 45 #[.slice A0 l0.length c0, .slice A1 l1.length c1] w fun e w' => e = .returned (.tuple #[.pointer none, .bool false]) ∧ Below w.heap.size w w' := by
  obtain ⟨t, ht, h⟩ := Option.bind_eq_some_iff.mp h
  have HR0 := Aside0.mk hr0
  have HR1 := Aside0.mk hr1
  have HT := Aside0.mk ht
  clear hr0 hr1 ht
  cases t with
  | false =>
    clear h
    go_enter Try.func45, Try.ntmps45
    go_wp2_with fail
    refine (impl_isSystem.calls k A0 c0 l0 A1 c1 l1 false _ HR0.out hc0 HR1.out hc1 HT.out).mono ?_
    rintro e w1 ⟨rfl, hb1⟩
    go_wp2
    refine bodyPost_ret (results_list (rs := [.tmp 4, .tmp 5]) rfl (by simp) (.tmp (.tmp .nil))) rfl ?_
    exact ⟨by first | rfl | (simp; done), hb1⟩
  | true =>
    rw [if_pos rfl] at h
    obtain ⟨x, hx, h⟩ := Option.bind_eq_some_iff.mp h
    obtain ⟨u, hu, h⟩ := Option.bind_eq_some_iff.mp h
    have HX := Aside0.mk hx
    clear hx
    cases u with
    | true => rw [if_pos rfl] at h; cases h
    | false =>
      have HU := Aside0.mk hu
      clear hu h
      go_enter Try.func45, Try.ntmps45
      go_wp2_with fail
      refine (impl_isSystem.calls k A0 c0 l0 A1 c1 l1 true _ HR0.out hc0 HR1.out hc1 HT.out).mono ?_
      rintro e w1 ⟨rfl, hb1⟩
      go_wp2_with fail
      refine (impl_leastSolution.calls k A0 c0 l0 A1 c1 l1 x _ (Kd.C_below HR0.out hb1) hc0 (Kd.C_below HR1.out hb1) hc1 HX.out).mono ?_
      rintro e w2 ⟨v, rfl, ho, hb2⟩
      obtain ⟨Ax, cx, ev, hlx, hCx⟩ := Kd.R_reads ho
      subst ev
      have hb := below_step hb1 hb2
      clear ho hb1 hb2
      go_wp2_with fail
      refine (impl_areNumbers.calls k Ax cx x false _ hCx hlx HU.out).mono ?_
      rintro e w3 ⟨rfl, hd⟩
      have hb3 := below_step hb hd.below
      clear hd hb hCx
      go_wp2
      refine bodyPost_ret (results_list (rs := [.tmp 4, .tmp 5]) rfl (by simp) (.tmp (.tmp .nil))) rfl ?_
      exact ⟨by first | rfl | (simp; done), hb3⟩
set_option maxHeartbeats 4000000 in
set_option maxRecDepth 100000 in
theorem impl_systemOf.calls_yes (k : Nat) (A0 : Option Addr) (c0 : Nat) (l0 : List (List Int)) (A1 : Option Addr) (c1 : Nat) (l1 : List Int) (x : List Int) (w : World) (hr0 : Kd.C (Kd.slice 3 (Kd.int .i64)) w A0 l0.length l0) (hc0 : l0.length ≤ c0) (hr1 : Kd.C (Kd.int .i64) w A1 l1.length l1) (hc1 : l1.length ≤ c1) (h : impl_systemOf.f k l0 l1 = some (x, true)) :
    Calls Try.prog 45 #[.slice A0 l0.length c0, .slice A1 l1.length c1] w fun e w' => ∃ (B : Nat) (Ax : Option Addr) (cx : Nat), e = .returned (.tuple #[.pointer (some ⟨B, 0, none⟩), .bool true]) ∧ impl_systemOf.At A0 c0 l0 A1 c1 l1 Ax cx x w' B ∧ w.heap.size ≤ B ∧ Kd.R (Kd.int .i64) 3 w' w.heap.size (fun k => k ≠ B) (.slice Ax x.length cx) x ∧ Below w.heap.size w w' := by
  obtain ⟨t, ht, h⟩ := Option.bind_eq_some_iff.mp h
  have HR0 := Aside0.mk hr0
  have HR1 := Aside0.mk hr1
  have HT := Aside0.mk ht
  clear hr0 hr1 ht
  cases t with
  | false => rw [if_neg (by simp)] at h; cases h
  | true =>
    rw [if_pos rfl] at h
    obtain ⟨x', hx, h⟩ := Option.bind_eq_some_iff.mp h
    obtain ⟨u, hu, h⟩ := Option.bind_eq_some_iff.mp h
    have HX := Aside0.mk hx
    clear hx
    cases u with
    | false => rw [if_neg (by simp)] at h; cases h
    | true =>
      rw [if_pos rfl] at h
      injection h with h
      injection h with h _
      subst h
      have HU := Aside0.mk hu
      clear hu
      go_enter Try.func45, Try.ntmps45
      go_wp2_with fail
      refine (impl_isSystem.calls k A0 c0 l0 A1 c1 l1 true _ HR0.out hc0 HR1.out hc1 HT.out).mono ?_
      rintro e w1 ⟨rfl, hb1⟩
      go_wp2_with fail
      refine (impl_leastSolution.calls k A0 c0 l0 A1 c1 l1 x' _ (Kd.C_below HR0.out hb1) hc0 (Kd.C_below HR1.out hb1) hc1 HX.out).mono ?_
      rintro e w2 ⟨v, rfl, ho, hb2⟩
      obtain ⟨Ax, cx, ev, hlx, hCx⟩ := Kd.R_reads ho
      subst ev
      have HO := Aside0.mk (Kd.R_lower ho hb1.size)
      have HB := Aside0.mk (below_step hb1 hb2)
      clear ho hb1 hb2
      go_wp2_with fail
      refine (impl_areNumbers.calls k Ax cx x' true _ hCx hlx HU.out).mono ?_
      rintro e w3 ⟨rfl, hd⟩
      have HB3 := Aside0.mk (below_step HB.out hd.below)
      have HO3 := Aside0.mk (Kd.R_below HO.out hd.below)
      clear hd HB HO hCx
      go_wp2
      refine bodyPost_ret (results_list (rs := [.tmp 4, .tmp 5]) rfl (by simp) (.tmp (.tmp .nil))) rfl ?_
      have hb4 := below_alloc HB3.out (Obj.cells #[.slice A0 l0.length c0, .slice A1 l1.length c1, .slice Ax x'.length cx] 50 (0, 0))
      have hO4 := Kd.R_alloc (o := Obj.cells #[.slice A0 l0.length c0, .slice A1 l1.length c1, .slice Ax x'.length cx] 50 (0, 0)) (Kd.R_mono (Kd.R_bound HO3.out) (fun k hk => (by omega : k ≠ w3.heap.size)) : Kd.R (Kd.int .i64) 3 w3 w.heap.size (fun k => k ≠ w3.heap.size) _ _)
      have hbk := blk_new w3 (Obj.cells #[.slice A0 l0.length c0, .slice A1 l1.length c1, .slice Ax x'.length cx] 50 (0, 0))
      refine ⟨w3.heap.size, Ax, cx, by first | rfl | (simp; done), ⟨hbk, ⟨Kd.C_below HR0.out hb4, hc0⟩, ⟨Kd.C_below HR1.out hb4, hc1⟩, (Kd.R_reads' hO4).2.2, hlx⟩, HB3.out.size, hO4, hb4⟩

/-! ### impl_product: function 46 -/
def impl_product.f (a0 : Int) (a1 : Int) : Option (Int) := if a0 = 1000000000 then (some 1000000000) else (if a1 = 1000000000 then (some 1000000000) else (some (wrap64 (a0 + a1))))
set_option maxHeartbeats 8000000 in
set_option maxRecDepth 100000 in
theorem impl_product.calls (a0 : Int) (a1 : Int) (r : Int) (w : World) (h : impl_product.f a0 a1 = some r) :
    Calls Try.prog 46 #[.int .i64 a0, .int .i64 a1] w fun e w' => e = .returned (.int .i64 r) ∧ Drawn0 w w' := by
  have H : (if a0 = 1000000000 then (some 1000000000) else (if a1 = 1000000000 then (some 1000000000) else (some (wrap64 (a0 + a1))))) = some r := h
  clear h
  by_cases c3 : a0 = 1000000000
  · rw [if_pos c3] at H
    have c3b0 : (a0 == 1000000000) = true := beq_iff_eq.mpr c3
    have c3b1 : (a0 != 1000000000) = false := bne_eq_false_iff_eq.mpr c3
    clear c3
    obtain rfl := Option.some.inj H
    go_enter Try.func46, Try.ntmps46
    go_wp2
    go_ret
    exact ⟨by first | rfl | (simp; done) | (simp [*]; done), by repeat (first | exact Drawn0.refl _ | apply Drawn0.step)⟩
  · rw [if_neg c3] at H
    have c3b0 : (a0 == 1000000000) = false := beq_eq_false_iff_ne.mpr c3
    have c3b1 : (a0 != 1000000000) = true := bne_iff_ne.mpr c3
    by_cases c4 : a1 = 1000000000
    · rw [if_pos c4] at H
      have c4b0 : (a1 == 1000000000) = true := beq_iff_eq.mpr c4
      have c4b1 : (a1 != 1000000000) = false := bne_eq_false_iff_eq.mpr c4
      clear c4
      obtain rfl := Option.some.inj H
      go_enter Try.func46, Try.ntmps46
      go_wp2
      go_ret
      exact ⟨by first | rfl | (simp; done) | (simp [*]; done), by repeat (first | exact Drawn0.refl _ | apply Drawn0.step)⟩
    · rw [if_neg c4] at H
      have c4b0 : (a1 == 1000000000) = false := beq_eq_false_iff_ne.mpr c4
      have c4b1 : (a1 != 1000000000) = true := bne_iff_ne.mpr c4
      obtain rfl := Option.some.inj H
      go_enter Try.func46, Try.ntmps46
      go_wp2
      go_ret
      exact ⟨by first | rfl | (simp; done) | (simp [*]; done), by repeat (first | exact Drawn0.refl _ | apply Drawn0.step)⟩

end Go.Proofs.Ythhfgegdncggcaa.X
