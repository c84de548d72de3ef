/- The walk of the law FnExactSteadyStarts: where the program and the reference come to the same ('Agree'), the law answers true, and nothing that stood is turned. Condition: sizes as memory allows. Written by wip/gen/lawgen.py. -/
import Derived.Test.YtnohpeihbfephaaZFnExactSteadyStartsP
import Derived.Test.YtnohpeihbfephaaZFnExactSteadyStartsX4
import Derived.Test.YtnohpeihbfephaaZFnExactSteadyStartsX5
namespace Go.Proofs.Ytnohpeihbfephaa.Law
open Go.RowKit Go.Proofs.Ytnohpeihbfephaa.X Go.Proofs.Ytnohpeihbfephaa.Pure Go.Proofs.YtnohpeihbfephaaW.PrintWords Go.Proofs.YtnohpeihbfephaaW.PrintMore
set_option linter.unusedVariables false
set_option linter.unusedSimpArgs false

/-- The program and the reference come to the same. -/
def FnExactSteadyStarts_Agree : Prop := ∀ (l0 : List (List Int)) (a1 : Int), l0.length + tot l0 ≤ 1048576 → -9223372036854775808 ≤ a1 → a1 ≤ 9223372036854775807 → (∀ r ∈ l0, ∀ x ∈ r, -9223372036854775808 ≤ x ∧ x ≤ 9223372036854775807) → ∃ (k : Nat) (r1 : List Int) (r2 : Bool), spec_SteadyStarts.f k l0 a1 = some (r1, r2) ∧ impl_SteadyStarts.f k l0 a1 = some (r1, r2) ∧ r1.length ≤ 1048576

set_option maxHeartbeats 16000000 in
set_option maxRecDepth 100000 in
theorem FnExactSteadyStarts_walk (P : FnExactSteadyStarts_Agree) (A0 : Option Addr) (c0 : Nat) (l0 : List (List Int)) (a1 : Int) (w : World) (hr0 : Kd.C (Kd.slice 3 (Kd.int .i64)) w A0 l0.length l0) (hc0 : l0.length ≤ c0) (hn0 : (l0.length : Int) ≤ 140737488355328) (hq0 : ∀ r ∈ l0, (r.length : Int) ≤ 9223372036854775807) (hw0 : ∀ r ∈ l0, ∀ x ∈ r, -9223372036854775808 ≤ x ∧ x ≤ 9223372036854775807) (hw1 : -9223372036854775808 ≤ a1 ∧ a1 ≤ 9223372036854775807) :
    Calls Try.prog 12 #[.slice A0 l0.length c0, .int .i64 a1] w fun e w' => e = .returned (.bool true) ∧ Below w.heap.size w w' := by
  have HR0 := Aside0.mk hr0
  have HC0 := Aside0.mk hc0
  have HN0 := Aside0.mk hn0
  have HQ0 := Aside0.mk hq0
  have HW0 := Aside0.mk hw0
  clear hr0 hc0 hn0 hq0 hw0
  have HW1 := Aside0.mk hw1
  clear hw1
  have HB := Aside0.mk (Below.refl w.heap.size w)
  have HZ0 : Aside0 (0 ≤ (1048576 : Int) ∧ (1048576 : Int) ≤ 1048576) := ⟨by omega⟩
  by_cases g0 : 0 ≤ szOf l0 (1048576)
  rotate_left
  ·
    have dz0 : decide (szOf l0 (1048576) < 0) = true := by simp; omega
    go_enter Try.func12, Try.ntmps12
    go_wp2_with fail
    refine (szIntSS_law A0 c0 l0 (1048576) _ (Kd.C_below HR0.out HB.out) HC0.out (by have := HZ0.out; omega) (by have := HZ0.out; omega) HN0.out HQ0.out).mono ?_
    rintro e w1 ⟨rfl, hb⟩
    have HB' := Aside0.mk (below_step HB.out hb)
    clear HB
    have HB := HB'
    clear HB'
    have HS1 := Aside0.mk hb.size
    clear hb
    go_wp2
    go_ret
    exact ⟨by first | rfl | (simp; done), HB.out⟩
  have Z0p : Aside0 (0 ≤ szOf l0 (1048576) ∧ szOf l0 (1048576) ≤ 1048576 ∧ l0.length + tot l0 ≤ 1048576) := ⟨by have := HZ0.out; unfold szOf at *; split at g0 <;> (try split) <;> omega⟩
  have dz0 : decide (szOf l0 (1048576) < 0) = false := by simp; omega
  obtain ⟨k, r1, r2, hspec, himpl, hs0⟩ := P l0 a1 Z0p.out.2.2 HW1.out.1 HW1.out.2 HW0.out
  have HSP := Aside0.mk hspec
  have HIM := Aside0.mk himpl
  clear hspec himpl
  have HM0 := Aside0.mk hs0
  clear hs0
  have ne1 : (r2 != r2) = false := by simp
  have HG0 : Aside0 (l0.length + tot l0 ≤ 1048576) := ⟨Z0p.out.2.2⟩
  clear g0
  go_enter Try.func12, Try.ntmps12
  go_wp2_with fail
  refine (szIntSS_law A0 c0 l0 (1048576) _ (Kd.C_below HR0.out HB.out) HC0.out (by have := HZ0.out; omega) (by have := HZ0.out; omega) HN0.out HQ0.out).mono ?_
  rintro e w1 ⟨rfl, hb⟩
  have HB' := Aside0.mk (below_step HB.out hb)
  clear HB
  have HB := HB'
  clear HB'
  have HS1 := Aside0.mk hb.size
  clear hb
  go_wp2_with fail
  refine (toIntSS_law A0 c0 l0 _ (Kd.C_below HR0.out HB.out) HC0.out HG0.out).mono ?_
  rintro e w2 ⟨v2, rfl, ho, hb⟩
  have HO := Aside0.mk ho
  clear ho
  have HB' := Aside0.mk (below_step HB.out hb)
  clear HB
  have HB := HB'
  clear HB'
  have HS2 := Aside0.mk hb.size
  clear hb
  obtain ⟨A3, c4, ev, _, _⟩ := HO.out.shape
  subst ev
  have HV1 := HO
  clear HO
  go_wp2_with fail
  refine (spec_SteadyStarts.calls k _ _ l0 a1 r1 r2 _ HV1.out.reads.2.2 HV1.out.reads.2.1 HSP.out).mono ?_
  rintro e w3 ⟨v5, rfl, ho0, hb⟩
  have HO0 := Aside0.mk (IntsAt.mk_ ho0)
  clear ho0
  have HB' := Aside0.mk (below_step HB.out hb)
  clear HB
  have HB := HB'
  clear HB'
  have HS3 := Aside0.mk hb.size
  have HV1' := Aside0.mk (HV1.out.below hb)
  clear HV1
  have HV1 := HV1'
  clear HV1'
  clear hb
  obtain ⟨A7, c8, ev, _, _⟩ := HO0.out.shape
  subst ev
  have HV6 := HO0
  clear HO0
  go_wp2_with fail
  refine (toIntSS_law A0 c0 l0 _ (Kd.C_below HR0.out HB.out) HC0.out HG0.out).mono ?_
  rintro e w4 ⟨v10, rfl, ho, hb⟩
  have HO := Aside0.mk ho
  clear ho
  have HB' := Aside0.mk (below_step HB.out hb)
  clear HB
  have HB := HB'
  clear HB'
  have HS4 := Aside0.mk hb.size
  have HV1' := Aside0.mk (HV1.out.below hb)
  clear HV1
  have HV1 := HV1'
  clear HV1'
  have HV6' := Aside0.mk (HV6.out.below hb)
  clear HV6
  have HV6 := HV6'
  clear HV6'
  clear hb
  obtain ⟨A11, c12, ev, _, _⟩ := HO.out.shape
  subst ev
  have HV9 := HO
  clear HO
  go_wp2_with fail
  refine (impl_SteadyStarts.calls k _ _ l0 a1 r1 r2 _ HV9.out.reads.2.2 HV9.out.reads.2.1 HIM.out).mono ?_
  rintro e w5 ⟨v13, rfl, ho0, hb⟩
  have HO0 := Aside0.mk (IntsAt.mk_ ho0)
  clear ho0
  have HB' := Aside0.mk (below_step HB.out hb)
  clear HB
  have HB := HB'
  clear HB'
  have HS5 := Aside0.mk hb.size
  have HV1' := Aside0.mk (HV1.out.below hb)
  clear HV1
  have HV1 := HV1'
  clear HV1'
  have HV6' := Aside0.mk (HV6.out.below hb)
  clear HV6
  have HV6 := HV6'
  clear HV6'
  have HV9' := Aside0.mk (HV9.out.below hb)
  clear HV9
  have HV9 := HV9'
  clear HV9'
  clear hb
  obtain ⟨A15, c16, ev, _, _⟩ := HO0.out.shape
  subst ev
  have HV14 := HO0
  clear HO0
  go_wp2_with fail
  refine (eqIntS_law _ _ _ _ r1 _ HV14.out.reads.2.2 HV14.out.reads.2.1 HV6.out.reads.2.2 HV6.out.reads.2.1 (by have := HM0.out; omega)).mono ?_
  rintro e w6 ⟨rfl, hb⟩
  have HB' := Aside0.mk (below_step HB.out hb)
  clear HB
  have HB := HB'
  clear HB'
  have HS6 := Aside0.mk hb.size
  have HV1' := Aside0.mk (HV1.out.below hb)
  clear HV1
  have HV1 := HV1'
  clear HV1'
  have HV6' := Aside0.mk (HV6.out.below hb)
  clear HV6
  have HV6 := HV6'
  clear HV6'
  have HV9' := Aside0.mk (HV9.out.below hb)
  clear HV9
  have HV9 := HV9'
  clear HV9'
  have HV14' := Aside0.mk (HV14.out.below hb)
  clear HV14
  have HV14 := HV14'
  clear HV14'
  clear hb
  go_wp2_with fail
  refine (toIntSS_law A0 c0 l0 _ (Kd.C_below HR0.out HB.out) HC0.out HG0.out).mono ?_
  rintro e w7 ⟨v18, rfl, ho, hb⟩
  have HO := Aside0.mk ho
  clear ho
  have HB' := Aside0.mk (below_step HB.out hb)
  clear HB
  have HB := HB'
  clear HB'
  have HS7 := Aside0.mk hb.size
  have HV1' := Aside0.mk (HV1.out.below hb)
  clear HV1
  have HV1 := HV1'
  clear HV1'
  have HV6' := Aside0.mk (HV6.out.below hb)
  clear HV6
  have HV6 := HV6'
  clear HV6'
  have HV9' := Aside0.mk (HV9.out.below hb)
  clear HV9
  have HV9 := HV9'
  clear HV9'
  have HV14' := Aside0.mk (HV14.out.below hb)
  clear HV14
  have HV14 := HV14'
  clear HV14'
  clear hb
  obtain ⟨A19, c20, ev, _, _⟩ := HO.out.shape
  subst ev
  have HV17 := HO
  clear HO
  go_wp2_with fail
  refine (eqIntSS_law _ _ _ _ l0 _ HV9.out.reads.2.2 HV9.out.reads.2.1 HV17.out.reads.2.2 HV17.out.reads.2.1 (by have := HG0.out; omega)).mono ?_
  rintro e w8 ⟨rfl, hb⟩
  have HB' := Aside0.mk (below_step HB.out hb)
  clear HB
  have HB := HB'
  clear HB'
  have HS8 := Aside0.mk hb.size
  have HV1' := Aside0.mk (HV1.out.below hb)
  clear HV1
  have HV1 := HV1'
  clear HV1'
  have HV6' := Aside0.mk (HV6.out.below hb)
  clear HV6
  have HV6 := HV6'
  clear HV6'
  have HV9' := Aside0.mk (HV9.out.below hb)
  clear HV9
  have HV9 := HV9'
  clear HV9'
  have HV14' := Aside0.mk (HV14.out.below hb)
  clear HV14
  have HV14 := HV14'
  clear HV14'
  have HV17' := Aside0.mk (HV17.out.below hb)
  clear HV17
  have HV17 := HV17'
  clear HV17'
  clear hb
  go_wp2_with fail
  refine (markIntSS_law _ _ _ _ _ l0 (1 : Int) w _ HB.out HV9.out (by have := HS1.out; have := HS2.out; have := HS3.out; have := HS4.out; have := HS5.out; have := HS6.out; have := HS7.out; have := HS8.out; omega) (by have := HG0.out; have := HG0.out; have := HM0.out; first | omega | (simp; done) | (simp; omega)) (by have := HG0.out; have := HG0.out; have := HM0.out; first | omega | (simp; done) | (simp; omega)) (by have := HG0.out; have := HG0.out; have := HM0.out; omega)).mono ?_
  rintro e w9 ⟨rfl, ho, hb, hk⟩
  clear HB
  have HB := Aside0.mk hb
  have HS9 := Aside0.mk hk.1
  have HV1' := Aside0.mk (HV1.out.kept hk (fun k_ hk_ => by have := HS1.out; have := HS2.out; have := HS3.out; have := HS4.out; have := HS5.out; have := HS6.out; have := HS7.out; have := HS8.out; have := HS9.out; omega))
  clear HV1
  have HV1 := HV1'
  clear HV1'
  have HV6' := Aside0.mk (HV6.out.kept hk (fun k_ hk_ => by have := HS1.out; have := HS2.out; have := HS3.out; have := HS4.out; have := HS5.out; have := HS6.out; have := HS7.out; have := HS8.out; have := HS9.out; omega))
  clear HV6
  have HV6 := HV6'
  clear HV6'
  have HV14' := Aside0.mk (HV14.out.kept hk (fun k_ hk_ => by have := HS1.out; have := HS2.out; have := HS3.out; have := HS4.out; have := HS5.out; have := HS6.out; have := HS7.out; have := HS8.out; have := HS9.out; omega))
  clear HV14
  have HV14 := HV14'
  clear HV14'
  have HV17' := Aside0.mk (HV17.out.kept hk (fun k_ hk_ => by have := HS1.out; have := HS2.out; have := HS3.out; have := HS4.out; have := HS5.out; have := HS6.out; have := HS7.out; have := HS8.out; have := HS9.out; omega))
  clear HV17
  have HV17 := HV17'
  clear HV17'
  clear HV9
  clear ho hb hk
  have hn9 : decide ((1 + (tot l0 : Int) : Int) < 0) = false := by simp; omega
  go_wp2_with fail
  refine (eqIntS_law _ _ _ _ r1 _ HV14.out.reads.2.2 HV14.out.reads.2.1 HV6.out.reads.2.2 HV6.out.reads.2.1 (by have := HM0.out; omega)).mono ?_
  rintro e w10 ⟨rfl, hb⟩
  have HB' := Aside0.mk (below_step HB.out hb)
  clear HB
  have HB := HB'
  clear HB'
  have HS10 := Aside0.mk hb.size
  have HV1' := Aside0.mk (HV1.out.below hb)
  clear HV1
  have HV1 := HV1'
  clear HV1'
  have HV6' := Aside0.mk (HV6.out.below hb)
  clear HV6
  have HV6 := HV6'
  clear HV6'
  have HV14' := Aside0.mk (HV14.out.below hb)
  clear HV14
  have HV14 := HV14'
  clear HV14'
  have HV17' := Aside0.mk (HV17.out.below hb)
  clear HV17
  have HV17 := HV17'
  clear HV17'
  clear hb
  go_wp2_with fail
  refine (markIntS_law _ _ _ r1 (1 : Int) w _ HB.out HV14.out (by have := HS1.out; have := HS2.out; have := HS3.out; have := HS4.out; have := HS5.out; have := HS6.out; have := HS7.out; have := HS8.out; have := HS9.out; have := HS10.out; omega) (by have := HM0.out; have := HG0.out; have := HM0.out; first | omega | (simp; done) | (simp; omega)) (by have := HM0.out; have := HG0.out; have := HM0.out; first | omega | (simp; done) | (simp; omega))).mono ?_
  rintro e w11 ⟨rfl, ho, hb, hk⟩
  clear HB
  have HB := Aside0.mk hb
  have HS11 := Aside0.mk hk.1
  have HV1' := Aside0.mk (HV1.out.kept hk (fun k_ hk_ => by have := HS1.out; have := HS2.out; have := HS3.out; have := HS4.out; have := HS5.out; have := HS6.out; have := HS7.out; have := HS8.out; have := HS9.out; have := HS10.out; have := HS11.out; omega))
  clear HV1
  have HV1 := HV1'
  clear HV1'
  have HV6' := Aside0.mk (HV6.out.kept hk (fun k_ hk_ => by have := HS1.out; have := HS2.out; have := HS3.out; have := HS4.out; have := HS5.out; have := HS6.out; have := HS7.out; have := HS8.out; have := HS9.out; have := HS10.out; have := HS11.out; omega))
  clear HV6
  have HV6 := HV6'
  clear HV6'
  have HV17' := Aside0.mk (HV17.out.kept hk (fun k_ hk_ => by have := HS1.out; have := HS2.out; have := HS3.out; have := HS4.out; have := HS5.out; have := HS6.out; have := HS7.out; have := HS8.out; have := HS9.out; have := HS10.out; have := HS11.out; omega))
  clear HV17
  have HV17 := HV17'
  clear HV17'
  clear HV14
  have HV21 := Aside0.mk ho
  clear ho hb hk
  have hn11 : decide ((1 + (r1.length : Int) : Int) < 0) = false := by simp; omega
  go_wp2_with fail
  refine (heldIntS_at HV21.out (by have := HM0.out; first | omega | (simp; done) | (simp; omega))).mono ?_
  rintro e w12 ⟨rfl, hb⟩
  have HB' := Aside0.mk (below_step HB.out hb)
  clear HB
  have HB := HB'
  clear HB'
  have HS12 := Aside0.mk hb.size
  have HV1' := Aside0.mk (HV1.out.below hb)
  clear HV1
  have HV1 := HV1'
  clear HV1'
  have HV6' := Aside0.mk (HV6.out.below hb)
  clear HV6
  have HV6 := HV6'
  clear HV6'
  have HV17' := Aside0.mk (HV17.out.below hb)
  clear HV17
  have HV17 := HV17'
  clear HV17'
  have HV21' := Aside0.mk (HV21.out.below hb)
  clear HV21
  have HV21 := HV21'
  clear HV21'
  clear hb
  go_wp2_with fail
  refine (toIntSS_law A0 c0 l0 _ (Kd.C_below HR0.out HB.out) HC0.out HG0.out).mono ?_
  rintro e w13 ⟨v23, rfl, ho, hb⟩
  have HO := Aside0.mk ho
  clear ho
  have HB' := Aside0.mk (below_step HB.out hb)
  clear HB
  have HB := HB'
  clear HB'
  have HS13 := Aside0.mk hb.size
  have HV1' := Aside0.mk (HV1.out.below hb)
  clear HV1
  have HV1 := HV1'
  clear HV1'
  have HV6' := Aside0.mk (HV6.out.below hb)
  clear HV6
  have HV6 := HV6'
  clear HV6'
  have HV17' := Aside0.mk (HV17.out.below hb)
  clear HV17
  have HV17 := HV17'
  clear HV17'
  have HV21' := Aside0.mk (HV21.out.below hb)
  clear HV21
  have HV21 := HV21'
  clear HV21'
  clear hb
  obtain ⟨A24, c25, ev, _, _⟩ := HO.out.shape
  subst ev
  have HV22 := HO
  clear HO
  go_wp2_with fail
  refine (impl_SteadyStarts.calls k _ _ l0 a1 r1 r2 _ HV22.out.reads.2.2 HV22.out.reads.2.1 HIM.out).mono ?_
  rintro e w14 ⟨v26, rfl, ho0, hb⟩
  have HO0 := Aside0.mk (IntsAt.mk_ ho0)
  clear ho0
  have HB' := Aside0.mk (below_step HB.out hb)
  clear HB
  have HB := HB'
  clear HB'
  have HS14 := Aside0.mk hb.size
  have HV1' := Aside0.mk (HV1.out.below hb)
  clear HV1
  have HV1 := HV1'
  clear HV1'
  have HV6' := Aside0.mk (HV6.out.below hb)
  clear HV6
  have HV6 := HV6'
  clear HV6'
  have HV17' := Aside0.mk (HV17.out.below hb)
  clear HV17
  have HV17 := HV17'
  clear HV17'
  have HV21' := Aside0.mk (HV21.out.below hb)
  clear HV21
  have HV21 := HV21'
  clear HV21'
  have HV22' := Aside0.mk (HV22.out.below hb)
  clear HV22
  have HV22 := HV22'
  clear HV22'
  clear hb
  obtain ⟨A28, c29, ev, _, _⟩ := HO0.out.shape
  subst ev
  have HV27 := HO0
  clear HO0
  go_wp2_with fail
  refine (eqIntS_law _ _ _ _ r1 _ HV27.out.reads.2.2 HV27.out.reads.2.1 HV6.out.reads.2.2 HV6.out.reads.2.1 (by have := HM0.out; omega)).mono ?_
  rintro e w15 ⟨rfl, hb⟩
  have HB' := Aside0.mk (below_step HB.out hb)
  clear HB
  have HB := HB'
  clear HB'
  have HS15 := Aside0.mk hb.size
  have HV1' := Aside0.mk (HV1.out.below hb)
  clear HV1
  have HV1 := HV1'
  clear HV1'
  have HV6' := Aside0.mk (HV6.out.below hb)
  clear HV6
  have HV6 := HV6'
  clear HV6'
  have HV17' := Aside0.mk (HV17.out.below hb)
  clear HV17
  have HV17 := HV17'
  clear HV17'
  have HV21' := Aside0.mk (HV21.out.below hb)
  clear HV21
  have HV21 := HV21'
  clear HV21'
  have HV22' := Aside0.mk (HV22.out.below hb)
  clear HV22
  have HV22 := HV22'
  clear HV22'
  have HV27' := Aside0.mk (HV27.out.below hb)
  clear HV27
  have HV27 := HV27'
  clear HV27'
  clear hb
  go_wp2_with fail
  refine (heldIntS_at HV21.out (by have := HM0.out; first | omega | (simp; done) | (simp; omega))).mono ?_
  rintro e w16 ⟨rfl, hb⟩
  have HB' := Aside0.mk (below_step HB.out hb)
  clear HB
  have HB := HB'
  clear HB'
  have HS16 := Aside0.mk hb.size
  have HV1' := Aside0.mk (HV1.out.below hb)
  clear HV1
  have HV1 := HV1'
  clear HV1'
  have HV6' := Aside0.mk (HV6.out.below hb)
  clear HV6
  have HV6 := HV6'
  clear HV6'
  have HV17' := Aside0.mk (HV17.out.below hb)
  clear HV17
  have HV17 := HV17'
  clear HV17'
  have HV21' := Aside0.mk (HV21.out.below hb)
  clear HV21
  have HV21 := HV21'
  clear HV21'
  have HV22' := Aside0.mk (HV22.out.below hb)
  clear HV22
  have HV22 := HV22'
  clear HV22'
  have HV27' := Aside0.mk (HV27.out.below hb)
  clear HV27
  have HV27 := HV27'
  clear HV27'
  clear hb
  go_wp2
  go_ret
  exact ⟨by first | rfl | (simp; done), HB.out⟩
end Go.Proofs.Ytnohpeihbfephaa.Law
