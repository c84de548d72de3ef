/- The walk of the law FnExactTightPlaces: where the program and the reference come to the same ('Agree'), the law answers true, and nothing that stood is turned. Condition: sizes as memory allows. Written by wip/gen/lawgen.py. -/
import Derived.Test.YthhfgegdncggcaaZFnExactTightPlacesP
import Derived.Test.YthhfgegdncggcaaZFnExactTightPlacesX2
import Derived.Test.YthhfgegdncggcaaZFnExactTightPlacesX6
namespace Go.Proofs.Ythhfgegdncggcaa.Law
open Go.RowKit Go.Proofs.Ythhfgegdncggcaa.X Go.Proofs.Ythhfgegdncggcaa.Pure Go.Proofs.YthhfgegdncggcaaW.PrintWords Go.Proofs.YthhfgegdncggcaaW.PrintMore
set_option linter.unusedVariables false
set_option linter.unusedSimpArgs false

/-- The program and the reference come to the same. -/
def FnExactTightPlaces_Agree : Prop := ∀ (l0 : List (List Int)) (l1 : List Int), l0.length + tot l0 ≤ 1048576 → l1.length ≤ 1048576 → (∀ r ∈ l0, ∀ x ∈ r, -9223372036854775808 ≤ x ∧ x ≤ 9223372036854775807) → (∀ x ∈ l1, -9223372036854775808 ≤ x ∧ x ≤ 9223372036854775807) → ∃ (k : Nat) (r1 : List (List Int)) (r2 : Bool), spec_TightPlaces.f k l0 l1 = some (r1, r2) ∧ impl_TightPlaces.f k l0 l1 = some (r1, r2) ∧ r1.length + tot r1 ≤ 1048576

set_option maxHeartbeats 16000000 in
set_option maxRecDepth 100000 in
theorem FnExactTightPlaces_walk (P : FnExactTightPlaces_Agree) (A0 : Option Addr) (c0 : Nat) (l0 : List (List Int)) (A1 : Option Addr) (c1 : Nat) (l1 : List Int) (w : World) (hr0 : Kd.C (Kd.slice 3 (Kd.int .i64)) w A0 l0.length l0) (hc0 : l0.length ≤ c0) (hn0 : (l0.length : Int) ≤ 140737488355328) (hq0 : ∀ r ∈ l0, (r.length : Int) ≤ 9223372036854775807) (hw0 : ∀ r ∈ l0, ∀ x ∈ r, -9223372036854775808 ≤ x ∧ x ≤ 9223372036854775807) (hr1 : Kd.C (Kd.int .i64) w A1 l1.length l1) (hc1 : l1.length ≤ c1) (hw1 : ∀ x ∈ l1, -9223372036854775808 ≤ x ∧ x ≤ 9223372036854775807) :
    Calls Try.prog 3 #[.slice A0 l0.length c0, .slice A1 l1.length c1] w fun e w' => e = .returned (.bool true) ∧ Below w.heap.size w w' := by
  have HR0 := Aside0.mk hr0
  have HC0 := Aside0.mk hc0
  have HN0 := Aside0.mk hn0
  have HQ0 := Aside0.mk hq0
  have HW0 := Aside0.mk hw0
  clear hr0 hc0 hn0 hq0 hw0
  have HR1 := Aside0.mk hr1
  have HC1 := Aside0.mk hc1
  have HW1 := Aside0.mk hw1
  clear hr1 hc1 hw1
  have HB := Aside0.mk (Below.refl w.heap.size w)
  by_cases g0 : l1.length ≤ 1048576
  rotate_left
  ·
    have dl0 : decide ((1048576 : Int) < (l1.length : Int)) = true := by simp; omega
    have dm0 : decide (1048576 < l1.length) = true := by simp; omega
    go_enter Try.func3, Try.ntmps3
    go_wp2
    go_ret
    exact ⟨by first | rfl | (simp; done), HB.out⟩
  have HZ0 : Aside0 (0 ≤ (1048576 : Int) ∧ (1048576 : Int) ≤ 1048576) := ⟨by omega⟩
  by_cases g1 : 0 ≤ szOf l0 (1048576)
  rotate_left
  ·
    have dl0 : decide ((1048576 : Int) < (l1.length : Int)) = false := by simp; omega
    have dm0 : decide (1048576 < l1.length) = false := by simp; omega
    have dz1 : decide (szOf l0 (1048576) < 0) = true := by simp; omega
    go_enter Try.func3, Try.ntmps3
    go_wp2_with fail
    refine (szIntSS_law A0 c0 l0 (1048576) _ (Kd.C_below HR0.out HB.out) HC0.out (by have := HZ0.out; omega) (by have := HZ0.out; omega) HN0.out HQ0.out).mono ?_
    rintro e w1 ⟨rfl, hb⟩
    have HB' := Aside0.mk (below_step HB.out hb)
    clear HB
    have HB := HB'
    clear HB'
    have HS1 := Aside0.mk hb.size
    clear hb
    go_wp2
    go_ret
    exact ⟨by first | rfl | (simp; done), HB.out⟩
  have Z0p : Aside0 (0 ≤ szOf l0 (1048576) ∧ szOf l0 (1048576) ≤ 1048576 ∧ l0.length + tot l0 ≤ 1048576) := ⟨by have := HZ0.out; unfold szOf at *; split at g1 <;> (try split) <;> omega⟩
  have dl0 : decide ((1048576 : Int) < (l1.length : Int)) = false := by simp; omega
  have dm0 : decide (1048576 < l1.length) = false := by simp; omega
  have dz1 : decide (szOf l0 (1048576) < 0) = false := by simp; omega
  obtain ⟨k, r1, r2, hspec, himpl, hs0⟩ := P l0 l1 Z0p.out.2.2 (by omega) HW0.out HW1.out
  have HSP := Aside0.mk hspec
  have HIM := Aside0.mk himpl
  clear hspec himpl
  have HM0 := Aside0.mk hs0
  clear hs0
  have ne1 : (r2 != r2) = false := by simp
  have HG1 := Aside0.mk g0
  clear g0
  have HG0 : Aside0 (l0.length + tot l0 ≤ 1048576) := ⟨Z0p.out.2.2⟩
  clear g1
  go_enter Try.func3, Try.ntmps3
  go_wp2_with fail
  refine (szIntSS_law A0 c0 l0 (1048576) _ (Kd.C_below HR0.out HB.out) HC0.out (by have := HZ0.out; omega) (by have := HZ0.out; omega) HN0.out HQ0.out).mono ?_
  rintro e w1 ⟨rfl, hb⟩
  have HB' := Aside0.mk (below_step HB.out hb)
  clear HB
  have HB := HB'
  clear HB'
  have HS1 := Aside0.mk hb.size
  clear hb
  go_wp2_with fail
  refine (toIntSS_law A0 c0 l0 _ (Kd.C_below HR0.out HB.out) HC0.out HG0.out).mono ?_
  rintro e w2 ⟨v2, rfl, ho, hb⟩
  have HO := Aside0.mk ho
  clear ho
  have HB' := Aside0.mk (below_step HB.out hb)
  clear HB
  have HB := HB'
  clear HB'
  have HS2 := Aside0.mk hb.size
  clear hb
  obtain ⟨Ax3, cx4, ev, _, _⟩ := HO.out.shape
  subst ev
  have HV1 := HO
  clear HO
  go_wp2_with fail
  refine (toIntS_law A1 c1 l1 _ (Kd.C_below HR1.out HB.out) HC1.out HG1.out).mono ?_
  rintro e w3 ⟨v6, rfl, ho, hb⟩
  have HO := Aside0.mk ho
  clear ho
  have HB' := Aside0.mk (below_step HB.out hb)
  clear HB
  have HB := HB'
  clear HB'
  have HS3 := Aside0.mk hb.size
  have HV1' := Aside0.mk (HV1.out.below hb)
  clear HV1
  have HV1 := HV1'
  clear HV1'
  clear hb
  obtain ⟨Ax7, cx8, ev, _, _⟩ := HO.out.shape
  subst ev
  have HV5 := HO
  clear HO
  go_wp2_with fail
  refine (spec_TightPlaces.calls k _ _ l0 _ _ l1 r1 r2 _ HV1.out.reads.2.2 HV1.out.reads.2.1 HV5.out.reads.2.2 HV5.out.reads.2.1 HSP.out).mono ?_
  rintro e w4 ⟨v9, rfl, ho0, hb⟩
  have HO0 := Aside0.mk (RowsAt.mk_ ho0)
  clear ho0
  have HB' := Aside0.mk (below_step HB.out hb)
  clear HB
  have HB := HB'
  clear HB'
  have HS4 := Aside0.mk hb.size
  have HV1' := Aside0.mk (HV1.out.below hb)
  clear HV1
  have HV1 := HV1'
  clear HV1'
  have HV5' := Aside0.mk (HV5.out.below hb)
  clear HV5
  have HV5 := HV5'
  clear HV5'
  clear hb
  obtain ⟨Ax11, cx12, ev, _, _⟩ := HO0.out.shape
  subst ev
  have HV10 := HO0
  clear HO0
  go_wp2_with fail
  refine (toIntSS_law A0 c0 l0 _ (Kd.C_below HR0.out HB.out) HC0.out HG0.out).mono ?_
  rintro e w5 ⟨v14, rfl, ho, hb⟩
  have HO := Aside0.mk ho
  clear ho
  have HB' := Aside0.mk (below_step HB.out hb)
  clear HB
  have HB := HB'
  clear HB'
  have HS5 := Aside0.mk hb.size
  have HV1' := Aside0.mk (HV1.out.below hb)
  clear HV1
  have HV1 := HV1'
  clear HV1'
  have HV5' := Aside0.mk (HV5.out.below hb)
  clear HV5
  have HV5 := HV5'
  clear HV5'
  have HV10' := Aside0.mk (HV10.out.below hb)
  clear HV10
  have HV10 := HV10'
  clear HV10'
  clear hb
  obtain ⟨Ax15, cx16, ev, _, _⟩ := HO.out.shape
  subst ev
  have HV13 := HO
  clear HO
  go_wp2_with fail
  refine (toIntS_law A1 c1 l1 _ (Kd.C_below HR1.out HB.out) HC1.out HG1.out).mono ?_
  rintro e w6 ⟨v18, rfl, ho, hb⟩
  have HO := Aside0.mk ho
  clear ho
  have HB' := Aside0.mk (below_step HB.out hb)
  clear HB
  have HB := HB'
  clear HB'
  have HS6 := Aside0.mk hb.size
  have HV1' := Aside0.mk (HV1.out.below hb)
  clear HV1
  have HV1 := HV1'
  clear HV1'
  have HV5' := Aside0.mk (HV5.out.below hb)
  clear HV5
  have HV5 := HV5'
  clear HV5'
  have HV10' := Aside0.mk (HV10.out.below hb)
  clear HV10
  have HV10 := HV10'
  clear HV10'
  have HV13' := Aside0.mk (HV13.out.below hb)
  clear HV13
  have HV13 := HV13'
  clear HV13'
  clear hb
  obtain ⟨Ax19, cx20, ev, _, _⟩ := HO.out.shape
  subst ev
  have HV17 := HO
  clear HO
  go_wp2_with fail
  refine (impl_TightPlaces.calls k _ _ l0 _ _ l1 r1 r2 _ HV13.out.reads.2.2 HV13.out.reads.2.1 HV17.out.reads.2.2 HV17.out.reads.2.1 HIM.out).mono ?_
  rintro e w7 ⟨v21, rfl, ho0, hb⟩
  have HO0 := Aside0.mk (RowsAt.mk_ ho0)
  clear ho0
  have HB' := Aside0.mk (below_step HB.out hb)
  clear HB
  have HB := HB'
  clear HB'
  have HS7 := Aside0.mk hb.size
  have HV1' := Aside0.mk (HV1.out.below hb)
  clear HV1
  have HV1 := HV1'
  clear HV1'
  have HV5' := Aside0.mk (HV5.out.below hb)
  clear HV5
  have HV5 := HV5'
  clear HV5'
  have HV10' := Aside0.mk (HV10.out.below hb)
  clear HV10
  have HV10 := HV10'
  clear HV10'
  have HV13' := Aside0.mk (HV13.out.below hb)
  clear HV13
  have HV13 := HV13'
  clear HV13'
  have HV17' := Aside0.mk (HV17.out.below hb)
  clear HV17
  have HV17 := HV17'
  clear HV17'
  clear hb
  obtain ⟨Ax23, cx24, ev, _, _⟩ := HO0.out.shape
  subst ev
  have HV22 := HO0
  clear HO0
  go_wp2_with fail
  refine (eqIntSS_law _ _ _ _ r1 _ HV22.out.reads.2.2 HV22.out.reads.2.1 HV10.out.reads.2.2 HV10.out.reads.2.1 (by have := HM0.out; omega)).mono ?_
  rintro e w8 ⟨rfl, hb⟩
  have HB' := Aside0.mk (below_step HB.out hb)
  clear HB
  have HB := HB'
  clear HB'
  have HS8 := Aside0.mk hb.size
  have HV1' := Aside0.mk (HV1.out.below hb)
  clear HV1
  have HV1 := HV1'
  clear HV1'
  have HV5' := Aside0.mk (HV5.out.below hb)
  clear HV5
  have HV5 := HV5'
  clear HV5'
  have HV10' := Aside0.mk (HV10.out.below hb)
  clear HV10
  have HV10 := HV10'
  clear HV10'
  have HV13' := Aside0.mk (HV13.out.below hb)
  clear HV13
  have HV13 := HV13'
  clear HV13'
  have HV17' := Aside0.mk (HV17.out.below hb)
  clear HV17
  have HV17 := HV17'
  clear HV17'
  have HV22' := Aside0.mk (HV22.out.below hb)
  clear HV22
  have HV22 := HV22'
  clear HV22'
  clear hb
  go_wp2_with fail
  refine (toIntSS_law A0 c0 l0 _ (Kd.C_below HR0.out HB.out) HC0.out HG0.out).mono ?_
  rintro e w9 ⟨v26, rfl, ho, hb⟩
  have HO := Aside0.mk ho
  clear ho
  have HB' := Aside0.mk (below_step HB.out hb)
  clear HB
  have HB := HB'
  clear HB'
  have HS9 := Aside0.mk hb.size
  have HV1' := Aside0.mk (HV1.out.below hb)
  clear HV1
  have HV1 := HV1'
  clear HV1'
  have HV5' := Aside0.mk (HV5.out.below hb)
  clear HV5
  have HV5 := HV5'
  clear HV5'
  have HV10' := Aside0.mk (HV10.out.below hb)
  clear HV10
  have HV10 := HV10'
  clear HV10'
  have HV13' := Aside0.mk (HV13.out.below hb)
  clear HV13
  have HV13 := HV13'
  clear HV13'
  have HV17' := Aside0.mk (HV17.out.below hb)
  clear HV17
  have HV17 := HV17'
  clear HV17'
  have HV22' := Aside0.mk (HV22.out.below hb)
  clear HV22
  have HV22 := HV22'
  clear HV22'
  clear hb
  obtain ⟨Ax27, cx28, ev, _, _⟩ := HO.out.shape
  subst ev
  have HV25 := HO
  clear HO
  go_wp2_with fail
  refine (eqIntSS_law _ _ _ _ l0 _ HV13.out.reads.2.2 HV13.out.reads.2.1 HV25.out.reads.2.2 HV25.out.reads.2.1 (by have := HG0.out; omega)).mono ?_
  rintro e w10 ⟨rfl, hb⟩
  have HB' := Aside0.mk (below_step HB.out hb)
  clear HB
  have HB := HB'
  clear HB'
  have HS10 := Aside0.mk hb.size
  have HV1' := Aside0.mk (HV1.out.below hb)
  clear HV1
  have HV1 := HV1'
  clear HV1'
  have HV5' := Aside0.mk (HV5.out.below hb)
  clear HV5
  have HV5 := HV5'
  clear HV5'
  have HV10' := Aside0.mk (HV10.out.below hb)
  clear HV10
  have HV10 := HV10'
  clear HV10'
  have HV13' := Aside0.mk (HV13.out.below hb)
  clear HV13
  have HV13 := HV13'
  clear HV13'
  have HV17' := Aside0.mk (HV17.out.below hb)
  clear HV17
  have HV17 := HV17'
  clear HV17'
  have HV22' := Aside0.mk (HV22.out.below hb)
  clear HV22
  have HV22 := HV22'
  clear HV22'
  have HV25' := Aside0.mk (HV25.out.below hb)
  clear HV25
  have HV25 := HV25'
  clear HV25'
  clear hb
  go_wp2_with fail
  refine (toIntS_law A1 c1 l1 _ (Kd.C_below HR1.out HB.out) HC1.out HG1.out).mono ?_
  rintro e w11 ⟨v30, rfl, ho, hb⟩
  have HO := Aside0.mk ho
  clear ho
  have HB' := Aside0.mk (below_step HB.out hb)
  clear HB
  have HB := HB'
  clear HB'
  have HS11 := Aside0.mk hb.size
  have HV1' := Aside0.mk (HV1.out.below hb)
  clear HV1
  have HV1 := HV1'
  clear HV1'
  have HV5' := Aside0.mk (HV5.out.below hb)
  clear HV5
  have HV5 := HV5'
  clear HV5'
  have HV10' := Aside0.mk (HV10.out.below hb)
  clear HV10
  have HV10 := HV10'
  clear HV10'
  have HV13' := Aside0.mk (HV13.out.below hb)
  clear HV13
  have HV13 := HV13'
  clear HV13'
  have HV17' := Aside0.mk (HV17.out.below hb)
  clear HV17
  have HV17 := HV17'
  clear HV17'
  have HV22' := Aside0.mk (HV22.out.below hb)
  clear HV22
  have HV22 := HV22'
  clear HV22'
  have HV25' := Aside0.mk (HV25.out.below hb)
  clear HV25
  have HV25 := HV25'
  clear HV25'
  clear hb
  obtain ⟨Ax31, cx32, ev, _, _⟩ := HO.out.shape
  subst ev
  have HV29 := HO
  clear HO
  go_wp2_with fail
  refine (eqIntS_law _ _ _ _ l1 _ HV17.out.reads.2.2 HV17.out.reads.2.1 HV29.out.reads.2.2 HV29.out.reads.2.1 (by have := HG1.out; omega)).mono ?_
  rintro e w12 ⟨rfl, hb⟩
  have HB' := Aside0.mk (below_step HB.out hb)
  clear HB
  have HB := HB'
  clear HB'
  have HS12 := Aside0.mk hb.size
  have HV1' := Aside0.mk (HV1.out.below hb)
  clear HV1
  have HV1 := HV1'
  clear HV1'
  have HV5' := Aside0.mk (HV5.out.below hb)
  clear HV5
  have HV5 := HV5'
  clear HV5'
  have HV10' := Aside0.mk (HV10.out.below hb)
  clear HV10
  have HV10 := HV10'
  clear HV10'
  have HV13' := Aside0.mk (HV13.out.below hb)
  clear HV13
  have HV13 := HV13'
  clear HV13'
  have HV17' := Aside0.mk (HV17.out.below hb)
  clear HV17
  have HV17 := HV17'
  clear HV17'
  have HV22' := Aside0.mk (HV22.out.below hb)
  clear HV22
  have HV22 := HV22'
  clear HV22'
  have HV25' := Aside0.mk (HV25.out.below hb)
  clear HV25
  have HV25 := HV25'
  clear HV25'
  have HV29' := Aside0.mk (HV29.out.below hb)
  clear HV29
  have HV29 := HV29'
  clear HV29'
  clear hb
  go_wp2_with fail
  refine (markIntSS_law _ _ _ _ _ l0 (1 : Int) w _ HB.out HV13.out (by have := HS1.out; have := HS2.out; have := HS3.out; have := HS4.out; have := HS5.out; have := HS6.out; have := HS7.out; have := HS8.out; have := HS9.out; have := HS10.out; have := HS11.out; have := HS12.out; omega) (by have := HG0.out; have := HG0.out; have := HG1.out; have := HM0.out; first | omega | (simp; done) | (simp; omega)) (by have := HG0.out; have := HG0.out; have := HG1.out; have := HM0.out; first | omega | (simp; done) | (simp; omega)) (by have := HG0.out; have := HG0.out; have := HG1.out; have := HM0.out; omega)).mono ?_
  rintro e w13 ⟨rfl, ho, hb, hk⟩
  clear HB
  have HB := Aside0.mk hb
  have HS13 := Aside0.mk hk.1
  have HV1' := Aside0.mk (HV1.out.kept hk (fun k_ hk_ => by have := HS1.out; have := HS2.out; have := HS3.out; have := HS4.out; have := HS5.out; have := HS6.out; have := HS7.out; have := HS8.out; have := HS9.out; have := HS10.out; have := HS11.out; have := HS12.out; have := HS13.out; omega))
  clear HV1
  have HV1 := HV1'
  clear HV1'
  have HV5' := Aside0.mk (HV5.out.kept hk (fun k_ hk_ => by have := HS1.out; have := HS2.out; have := HS3.out; have := HS4.out; have := HS5.out; have := HS6.out; have := HS7.out; have := HS8.out; have := HS9.out; have := HS10.out; have := HS11.out; have := HS12.out; have := HS13.out; omega))
  clear HV5
  have HV5 := HV5'
  clear HV5'
  have HV10' := Aside0.mk (HV10.out.kept hk (fun k_ hk_ => by have := HS1.out; have := HS2.out; have := HS3.out; have := HS4.out; have := HS5.out; have := HS6.out; have := HS7.out; have := HS8.out; have := HS9.out; have := HS10.out; have := HS11.out; have := HS12.out; have := HS13.out; omega))
  clear HV10
  have HV10 := HV10'
  clear HV10'
  have HV17' := Aside0.mk (HV17.out.kept hk (fun k_ hk_ => by have := HS1.out; have := HS2.out; have := HS3.out; have := HS4.out; have := HS5.out; have := HS6.out; have := HS7.out; have := HS8.out; have := HS9.out; have := HS10.out; have := HS11.out; have := HS12.out; have := HS13.out; omega))
  clear HV17
  have HV17 := HV17'
  clear HV17'
  have HV22' := Aside0.mk (HV22.out.kept hk (fun k_ hk_ => by have := HS1.out; have := HS2.out; have := HS3.out; have := HS4.out; have := HS5.out; have := HS6.out; have := HS7.out; have := HS8.out; have := HS9.out; have := HS10.out; have := HS11.out; have := HS12.out; have := HS13.out; omega))
  clear HV22
  have HV22 := HV22'
  clear HV22'
  have HV25' := Aside0.mk (HV25.out.kept hk (fun k_ hk_ => by have := HS1.out; have := HS2.out; have := HS3.out; have := HS4.out; have := HS5.out; have := HS6.out; have := HS7.out; have := HS8.out; have := HS9.out; have := HS10.out; have := HS11.out; have := HS12.out; have := HS13.out; omega))
  clear HV25
  have HV25 := HV25'
  clear HV25'
  have HV29' := Aside0.mk (HV29.out.kept hk (fun k_ hk_ => by have := HS1.out; have := HS2.out; have := HS3.out; have := HS4.out; have := HS5.out; have := HS6.out; have := HS7.out; have := HS8.out; have := HS9.out; have := HS10.out; have := HS11.out; have := HS12.out; have := HS13.out; omega))
  clear HV29
  have HV29 := HV29'
  clear HV29'
  clear HV13
  clear ho hb hk
  have hn13 : decide ((1 + (tot l0 : Int) : Int) < 0) = false := by simp; omega
  go_wp2_with fail
  refine (markIntS_law _ _ _ l1 (1 + (tot l0 : Int) : Int) w _ HB.out HV17.out (by have := HS1.out; have := HS2.out; have := HS3.out; have := HS4.out; have := HS5.out; have := HS6.out; have := HS7.out; have := HS8.out; have := HS9.out; have := HS10.out; have := HS11.out; have := HS12.out; have := HS13.out; omega) (by have := HG1.out; have := HG0.out; have := HG1.out; have := HM0.out; first | omega | (simp; done) | (simp; omega)) (by have := HG1.out; have := HG0.out; have := HG1.out; have := HM0.out; first | omega | (simp; done) | (simp; omega))).mono ?_
  rintro e w14 ⟨rfl, ho, hb, hk⟩
  clear HB
  have HB := Aside0.mk hb
  have HS14 := Aside0.mk hk.1
  have HV1' := Aside0.mk (HV1.out.kept hk (fun k_ hk_ => by have := HS1.out; have := HS2.out; have := HS3.out; have := HS4.out; have := HS5.out; have := HS6.out; have := HS7.out; have := HS8.out; have := HS9.out; have := HS10.out; have := HS11.out; have := HS12.out; have := HS13.out; have := HS14.out; omega))
  clear HV1
  have HV1 := HV1'
  clear HV1'
  have HV5' := Aside0.mk (HV5.out.kept hk (fun k_ hk_ => by have := HS1.out; have := HS2.out; have := HS3.out; have := HS4.out; have := HS5.out; have := HS6.out; have := HS7.out; have := HS8.out; have := HS9.out; have := HS10.out; have := HS11.out; have := HS12.out; have := HS13.out; have := HS14.out; omega))
  clear HV5
  have HV5 := HV5'
  clear HV5'
  have HV10' := Aside0.mk (HV10.out.kept hk (fun k_ hk_ => by have := HS1.out; have := HS2.out; have := HS3.out; have := HS4.out; have := HS5.out; have := HS6.out; have := HS7.out; have := HS8.out; have := HS9.out; have := HS10.out; have := HS11.out; have := HS12.out; have := HS13.out; have := HS14.out; omega))
  clear HV10
  have HV10 := HV10'
  clear HV10'
  have HV22' := Aside0.mk (HV22.out.kept hk (fun k_ hk_ => by have := HS1.out; have := HS2.out; have := HS3.out; have := HS4.out; have := HS5.out; have := HS6.out; have := HS7.out; have := HS8.out; have := HS9.out; have := HS10.out; have := HS11.out; have := HS12.out; have := HS13.out; have := HS14.out; omega))
  clear HV22
  have HV22 := HV22'
  clear HV22'
  have HV25' := Aside0.mk (HV25.out.kept hk (fun k_ hk_ => by have := HS1.out; have := HS2.out; have := HS3.out; have := HS4.out; have := HS5.out; have := HS6.out; have := HS7.out; have := HS8.out; have := HS9.out; have := HS10.out; have := HS11.out; have := HS12.out; have := HS13.out; have := HS14.out; omega))
  clear HV25
  have HV25 := HV25'
  clear HV25'
  have HV29' := Aside0.mk (HV29.out.kept hk (fun k_ hk_ => by have := HS1.out; have := HS2.out; have := HS3.out; have := HS4.out; have := HS5.out; have := HS6.out; have := HS7.out; have := HS8.out; have := HS9.out; have := HS10.out; have := HS11.out; have := HS12.out; have := HS13.out; have := HS14.out; omega))
  clear HV29
  have HV29 := HV29'
  clear HV29'
  clear HV17
  clear ho hb hk
  have hn14 : decide ((1 + (tot l0 : Int) + (l1.length : Int) : Int) < 0) = false := by simp; omega
  go_wp2_with fail
  refine (eqIntSS_law _ _ _ _ r1 _ HV22.out.reads.2.2 HV22.out.reads.2.1 HV10.out.reads.2.2 HV10.out.reads.2.1 (by have := HM0.out; omega)).mono ?_
  rintro e w15 ⟨rfl, hb⟩
  have HB' := Aside0.mk (below_step HB.out hb)
  clear HB
  have HB := HB'
  clear HB'
  have HS15 := Aside0.mk hb.size
  have HV1' := Aside0.mk (HV1.out.below hb)
  clear HV1
  have HV1 := HV1'
  clear HV1'
  have HV5' := Aside0.mk (HV5.out.below hb)
  clear HV5
  have HV5 := HV5'
  clear HV5'
  have HV10' := Aside0.mk (HV10.out.below hb)
  clear HV10
  have HV10 := HV10'
  clear HV10'
  have HV22' := Aside0.mk (HV22.out.below hb)
  clear HV22
  have HV22 := HV22'
  clear HV22'
  have HV25' := Aside0.mk (HV25.out.below hb)
  clear HV25
  have HV25 := HV25'
  clear HV25'
  have HV29' := Aside0.mk (HV29.out.below hb)
  clear HV29
  have HV29 := HV29'
  clear HV29'
  clear hb
  go_wp2_with fail
  refine (markIntSS_law _ _ _ _ _ r1 (1 : Int) w _ HB.out HV22.out (by have := HS1.out; have := HS2.out; have := HS3.out; have := HS4.out; have := HS5.out; have := HS6.out; have := HS7.out; have := HS8.out; have := HS9.out; have := HS10.out; have := HS11.out; have := HS12.out; have := HS13.out; have := HS14.out; have := HS15.out; omega) (by have := HM0.out; have := HG0.out; have := HG1.out; have := HM0.out; first | omega | (simp; done) | (simp; omega)) (by have := HM0.out; have := HG0.out; have := HG1.out; have := HM0.out; first | omega | (simp; done) | (simp; omega)) (by have := HM0.out; have := HG0.out; have := HG1.out; have := HM0.out; omega)).mono ?_
  rintro e w16 ⟨rfl, ho, hb, hk⟩
  clear HB
  have HB := Aside0.mk hb
  have HS16 := Aside0.mk hk.1
  have HV1' := Aside0.mk (HV1.out.kept hk (fun k_ hk_ => by have := HS1.out; have := HS2.out; have := HS3.out; have := HS4.out; have := HS5.out; have := HS6.out; have := HS7.out; have := HS8.out; have := HS9.out; have := HS10.out; have := HS11.out; have := HS12.out; have := HS13.out; have := HS14.out; have := HS15.out; have := HS16.out; omega))
  clear HV1
  have HV1 := HV1'
  clear HV1'
  have HV5' := Aside0.mk (HV5.out.kept hk (fun k_ hk_ => by have := HS1.out; have := HS2.out; have := HS3.out; have := HS4.out; have := HS5.out; have := HS6.out; have := HS7.out; have := HS8.out; have := HS9.out; have := HS10.out; have := HS11.out; have := HS12.out; have := HS13.out; have := HS14.out; have := HS15.out; have := HS16.out; omega))
  clear HV5
  have HV5 := HV5'
  clear HV5'
  have HV10' := Aside0.mk (HV10.out.kept hk (fun k_ hk_ => by have := HS1.out; have := HS2.out; have := HS3.out; have := HS4.out; have := HS5.out; have := HS6.out; have := HS7.out; have := HS8.out; have := HS9.out; have := HS10.out; have := HS11.out; have := HS12.out; have := HS13.out; have := HS14.out; have := HS15.out; have := HS16.out; omega))
  clear HV10
  have HV10 := HV10'
  clear HV10'
  have HV25' := Aside0.mk (HV25.out.kept hk (fun k_ hk_ => by have := HS1.out; have := HS2.out; have := HS3.out; have := HS4.out; have := HS5.out; have := HS6.out; have := HS7.out; have := HS8.out; have := HS9.out; have := HS10.out; have := HS11.out; have := HS12.out; have := HS13.out; have := HS14.out; have := HS15.out; have := HS16.out; omega))
  clear HV25
  have HV25 := HV25'
  clear HV25'
  have HV29' := Aside0.mk (HV29.out.kept hk (fun k_ hk_ => by have := HS1.out; have := HS2.out; have := HS3.out; have := HS4.out; have := HS5.out; have := HS6.out; have := HS7.out; have := HS8.out; have := HS9.out; have := HS10.out; have := HS11.out; have := HS12.out; have := HS13.out; have := HS14.out; have := HS15.out; have := HS16.out; omega))
  clear HV29
  have HV29 := HV29'
  clear HV29'
  clear HV22
  have HV33 := Aside0.mk ho
  clear ho hb hk
  have hn16 : decide ((1 + (tot r1 : Int) : Int) < 0) = false := by simp; omega
  go_wp2_with fail
  refine (heldIntSS_at HV33.out (by have := HM0.out; first | omega | (simp; done) | (simp; omega))).mono ?_
  rintro e w17 ⟨rfl, hb⟩
  have HB' := Aside0.mk (below_step HB.out hb)
  clear HB
  have HB := HB'
  clear HB'
  have HS17 := Aside0.mk hb.size
  have HV1' := Aside0.mk (HV1.out.below hb)
  clear HV1
  have HV1 := HV1'
  clear HV1'
  have HV5' := Aside0.mk (HV5.out.below hb)
  clear HV5
  have HV5 := HV5'
  clear HV5'
  have HV10' := Aside0.mk (HV10.out.below hb)
  clear HV10
  have HV10 := HV10'
  clear HV10'
  have HV25' := Aside0.mk (HV25.out.below hb)
  clear HV25
  have HV25 := HV25'
  clear HV25'
  have HV29' := Aside0.mk (HV29.out.below hb)
  clear HV29
  have HV29 := HV29'
  clear HV29'
  have HV33' := Aside0.mk (HV33.out.below hb)
  clear HV33
  have HV33 := HV33'
  clear HV33'
  clear hb
  go_wp2_with fail
  refine (toIntSS_law A0 c0 l0 _ (Kd.C_below HR0.out HB.out) HC0.out HG0.out).mono ?_
  rintro e w18 ⟨v35, rfl, ho, hb⟩
  have HO := Aside0.mk ho
  clear ho
  have HB' := Aside0.mk (below_step HB.out hb)
  clear HB
  have HB := HB'
  clear HB'
  have HS18 := Aside0.mk hb.size
  have HV1' := Aside0.mk (HV1.out.below hb)
  clear HV1
  have HV1 := HV1'
  clear HV1'
  have HV5' := Aside0.mk (HV5.out.below hb)
  clear HV5
  have HV5 := HV5'
  clear HV5'
  have HV10' := Aside0.mk (HV10.out.below hb)
  clear HV10
  have HV10 := HV10'
  clear HV10'
  have HV25' := Aside0.mk (HV25.out.below hb)
  clear HV25
  have HV25 := HV25'
  clear HV25'
  have HV29' := Aside0.mk (HV29.out.below hb)
  clear HV29
  have HV29 := HV29'
  clear HV29'
  have HV33' := Aside0.mk (HV33.out.below hb)
  clear HV33
  have HV33 := HV33'
  clear HV33'
  clear hb
  obtain ⟨Ax36, cx37, ev, _, _⟩ := HO.out.shape
  subst ev
  have HV34 := HO
  clear HO
  go_wp2_with fail
  refine (toIntS_law A1 c1 l1 _ (Kd.C_below HR1.out HB.out) HC1.out HG1.out).mono ?_
  rintro e w19 ⟨v39, rfl, ho, hb⟩
  have HO := Aside0.mk ho
  clear ho
  have HB' := Aside0.mk (below_step HB.out hb)
  clear HB
  have HB := HB'
  clear HB'
  have HS19 := Aside0.mk hb.size
  have HV1' := Aside0.mk (HV1.out.below hb)
  clear HV1
  have HV1 := HV1'
  clear HV1'
  have HV5' := Aside0.mk (HV5.out.below hb)
  clear HV5
  have HV5 := HV5'
  clear HV5'
  have HV10' := Aside0.mk (HV10.out.below hb)
  clear HV10
  have HV10 := HV10'
  clear HV10'
  have HV25' := Aside0.mk (HV25.out.below hb)
  clear HV25
  have HV25 := HV25'
  clear HV25'
  have HV29' := Aside0.mk (HV29.out.below hb)
  clear HV29
  have HV29 := HV29'
  clear HV29'
  have HV33' := Aside0.mk (HV33.out.below hb)
  clear HV33
  have HV33 := HV33'
  clear HV33'
  have HV34' := Aside0.mk (HV34.out.below hb)
  clear HV34
  have HV34 := HV34'
  clear HV34'
  clear hb
  obtain ⟨Ax40, cx41, ev, _, _⟩ := HO.out.shape
  subst ev
  have HV38 := HO
  clear HO
  go_wp2_with fail
  refine (impl_TightPlaces.calls k _ _ l0 _ _ l1 r1 r2 _ HV34.out.reads.2.2 HV34.out.reads.2.1 HV38.out.reads.2.2 HV38.out.reads.2.1 HIM.out).mono ?_
  rintro e w20 ⟨v42, rfl, ho0, hb⟩
  have HO0 := Aside0.mk (RowsAt.mk_ ho0)
  clear ho0
  have HB' := Aside0.mk (below_step HB.out hb)
  clear HB
  have HB := HB'
  clear HB'
  have HS20 := Aside0.mk hb.size
  have HV1' := Aside0.mk (HV1.out.below hb)
  clear HV1
  have HV1 := HV1'
  clear HV1'
  have HV5' := Aside0.mk (HV5.out.below hb)
  clear HV5
  have HV5 := HV5'
  clear HV5'
  have HV10' := Aside0.mk (HV10.out.below hb)
  clear HV10
  have HV10 := HV10'
  clear HV10'
  have HV25' := Aside0.mk (HV25.out.below hb)
  clear HV25
  have HV25 := HV25'
  clear HV25'
  have HV29' := Aside0.mk (HV29.out.below hb)
  clear HV29
  have HV29 := HV29'
  clear HV29'
  have HV33' := Aside0.mk (HV33.out.below hb)
  clear HV33
  have HV33 := HV33'
  clear HV33'
  have HV34' := Aside0.mk (HV34.out.below hb)
  clear HV34
  have HV34 := HV34'
  clear HV34'
  have HV38' := Aside0.mk (HV38.out.below hb)
  clear HV38
  have HV38 := HV38'
  clear HV38'
  clear hb
  obtain ⟨Ax44, cx45, ev, _, _⟩ := HO0.out.shape
  subst ev
  have HV43 := HO0
  clear HO0
  go_wp2_with fail
  refine (eqIntSS_law _ _ _ _ r1 _ HV43.out.reads.2.2 HV43.out.reads.2.1 HV10.out.reads.2.2 HV10.out.reads.2.1 (by have := HM0.out; omega)).mono ?_
  rintro e w21 ⟨rfl, hb⟩
  have HB' := Aside0.mk (below_step HB.out hb)
  clear HB
  have HB := HB'
  clear HB'
  have HS21 := Aside0.mk hb.size
  have HV1' := Aside0.mk (HV1.out.below hb)
  clear HV1
  have HV1 := HV1'
  clear HV1'
  have HV5' := Aside0.mk (HV5.out.below hb)
  clear HV5
  have HV5 := HV5'
  clear HV5'
  have HV10' := Aside0.mk (HV10.out.below hb)
  clear HV10
  have HV10 := HV10'
  clear HV10'
  have HV25' := Aside0.mk (HV25.out.below hb)
  clear HV25
  have HV25 := HV25'
  clear HV25'
  have HV29' := Aside0.mk (HV29.out.below hb)
  clear HV29
  have HV29 := HV29'
  clear HV29'
  have HV33' := Aside0.mk (HV33.out.below hb)
  clear HV33
  have HV33 := HV33'
  clear HV33'
  have HV34' := Aside0.mk (HV34.out.below hb)
  clear HV34
  have HV34 := HV34'
  clear HV34'
  have HV38' := Aside0.mk (HV38.out.below hb)
  clear HV38
  have HV38 := HV38'
  clear HV38'
  have HV43' := Aside0.mk (HV43.out.below hb)
  clear HV43
  have HV43 := HV43'
  clear HV43'
  clear hb
  go_wp2_with fail
  refine (heldIntSS_at HV33.out (by have := HM0.out; first | omega | (simp; done) | (simp; omega))).mono ?_
  rintro e w22 ⟨rfl, hb⟩
  have HB' := Aside0.mk (below_step HB.out hb)
  clear HB
  have HB := HB'
  clear HB'
  have HS22 := Aside0.mk hb.size
  have HV1' := Aside0.mk (HV1.out.below hb)
  clear HV1
  have HV1 := HV1'
  clear HV1'
  have HV5' := Aside0.mk (HV5.out.below hb)
  clear HV5
  have HV5 := HV5'
  clear HV5'
  have HV10' := Aside0.mk (HV10.out.below hb)
  clear HV10
  have HV10 := HV10'
  clear HV10'
  have HV25' := Aside0.mk (HV25.out.below hb)
  clear HV25
  have HV25 := HV25'
  clear HV25'
  have HV29' := Aside0.mk (HV29.out.below hb)
  clear HV29
  have HV29 := HV29'
  clear HV29'
  have HV33' := Aside0.mk (HV33.out.below hb)
  clear HV33
  have HV33 := HV33'
  clear HV33'
  have HV34' := Aside0.mk (HV34.out.below hb)
  clear HV34
  have HV34 := HV34'
  clear HV34'
  have HV38' := Aside0.mk (HV38.out.below hb)
  clear HV38
  have HV38 := HV38'
  clear HV38'
  have HV43' := Aside0.mk (HV43.out.below hb)
  clear HV43
  have HV43 := HV43'
  clear HV43'
  clear hb
  go_wp2
  go_ret
  exact ⟨by first | rfl | (simp; done), HB.out⟩
end Go.Proofs.Ythhfgegdncggcaa.Law
