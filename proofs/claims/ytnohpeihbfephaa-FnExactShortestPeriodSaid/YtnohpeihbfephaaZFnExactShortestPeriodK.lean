/- The walk of the law FnExactShortestPeriod: where the program and the reference come to the same ('Agree'), the law answers true, and nothing that stood is turned. Condition: sizes as memory allows. Written by wip/gen/lawgen.py. -/
import Derived.Test.YtnohpeihbfephaaZFnExactShortestPeriodP
import Derived.Test.YtnohpeihbfephaaZFnExactShortestPeriodX4
import Derived.Test.YtnohpeihbfephaaZFnExactShortestPeriodX5
namespace Go.Proofs.Ytnohpeihbfephaa.Law
open Go.RowKit Go.Proofs.Ytnohpeihbfephaa.X Go.Proofs.Ytnohpeihbfephaa.Pure Go.Proofs.YtnohpeihbfephaaW.PrintWords Go.Proofs.YtnohpeihbfephaaW.PrintMore
set_option linter.unusedVariables false
set_option linter.unusedSimpArgs false

/-- The program and the reference come to the same. -/
def FnExactShortestPeriod_Agree : Prop := ∀ (l0 : List (List Int)), l0.length + tot l0 ≤ 1048576 → (∀ r ∈ l0, ∀ x ∈ r, -9223372036854775808 ≤ x ∧ x ≤ 9223372036854775807) → ∃ (k : Nat) (r1 : Int) (r2 : Bool), spec_ShortestPeriod.f k l0 = some (r1, r2) ∧ impl_ShortestPeriod.f k l0 = some (r1, r2)

set_option maxHeartbeats 16000000 in
set_option maxRecDepth 100000 in
theorem FnExactShortestPeriod_walk (P : FnExactShortestPeriod_Agree) (A0 : Option Addr) (c0 : Nat) (l0 : List (List Int)) (w : World) (hr0 : Kd.C (Kd.slice 3 (Kd.int .i64)) w A0 l0.length l0) (hc0 : l0.length ≤ c0) (hn0 : (l0.length : Int) ≤ 140737488355328) (hq0 : ∀ r ∈ l0, (r.length : Int) ≤ 9223372036854775807) (hw0 : ∀ r ∈ l0, ∀ x ∈ r, -9223372036854775808 ≤ x ∧ x ≤ 9223372036854775807) :
    Calls Try.prog 9 #[.slice A0 l0.length c0] w fun e w' => e = .returned (.bool true) ∧ Below w.heap.size w w' := by
  have HR0 := Aside0.mk hr0
  have HC0 := Aside0.mk hc0
  have HN0 := Aside0.mk hn0
  have HQ0 := Aside0.mk hq0
  have HW0 := Aside0.mk hw0
  clear hr0 hc0 hn0 hq0 hw0
  have HB := Aside0.mk (Below.refl w.heap.size w)
  have HZ0 : Aside0 (0 ≤ (1048576 : Int) ∧ (1048576 : Int) ≤ 1048576) := ⟨by omega⟩
  by_cases g0 : 0 ≤ szOf l0 (1048576)
  rotate_left
  ·
    have dz0 : decide (szOf l0 (1048576) < 0) = true := by simp; omega
    go_enter Try.func9, Try.ntmps9
    go_wp2_with fail
    refine (szIntSS_law A0 c0 l0 (1048576) _ (Kd.C_below HR0.out HB.out) HC0.out (by have := HZ0.out; omega) (by have := HZ0.out; omega) HN0.out HQ0.out).mono ?_
    rintro e w1 ⟨rfl, hb⟩
    have HB' := Aside0.mk (below_step HB.out hb)
    clear HB
    have HB := HB'
    clear HB'
    have HS1 := Aside0.mk hb.size
    clear hb
    go_wp2
    go_ret
    exact ⟨by first | rfl | (simp; done), HB.out⟩
  have Z0p : Aside0 (0 ≤ szOf l0 (1048576) ∧ szOf l0 (1048576) ≤ 1048576 ∧ l0.length + tot l0 ≤ 1048576) := ⟨by have := HZ0.out; unfold szOf at *; split at g0 <;> (try split) <;> omega⟩
  have dz0 : decide (szOf l0 (1048576) < 0) = false := by simp; omega
  obtain ⟨k, r1, r2, hspec, himpl⟩ := P l0 Z0p.out.2.2 HW0.out
  have HSP := Aside0.mk hspec
  have HIM := Aside0.mk himpl
  clear hspec himpl
  have ne0 : (r1 != r1) = false := by simp
  have ne1 : (r2 != r2) = false := by simp
  have HG0 : Aside0 (l0.length + tot l0 ≤ 1048576) := ⟨Z0p.out.2.2⟩
  clear g0
  go_enter Try.func9, Try.ntmps9
  go_wp2_with fail
  refine (szIntSS_law A0 c0 l0 (1048576) _ (Kd.C_below HR0.out HB.out) HC0.out (by have := HZ0.out; omega) (by have := HZ0.out; omega) HN0.out HQ0.out).mono ?_
  rintro e w1 ⟨rfl, hb⟩
  have HB' := Aside0.mk (below_step HB.out hb)
  clear HB
  have HB := HB'
  clear HB'
  have HS1 := Aside0.mk hb.size
  clear hb
  go_wp2_with fail
  refine (toIntSS_law A0 c0 l0 _ (Kd.C_below HR0.out HB.out) HC0.out HG0.out).mono ?_
  rintro e w2 ⟨v2, rfl, ho, hb⟩
  have HO := Aside0.mk ho
  clear ho
  have HB' := Aside0.mk (below_step HB.out hb)
  clear HB
  have HB := HB'
  clear HB'
  have HS2 := Aside0.mk hb.size
  clear hb
  obtain ⟨A3, c4, ev, _, _⟩ := HO.out.shape
  subst ev
  have HV1 := HO
  clear HO
  go_wp2_with fail
  refine (spec_ShortestPeriod.calls k _ _ l0 r1 r2 _ HV1.out.reads.2.2 HV1.out.reads.2.1 HSP.out).mono ?_
  rintro e w3 ⟨rfl, hb⟩
  have HB' := Aside0.mk (below_step HB.out hb)
  clear HB
  have HB := HB'
  clear HB'
  have HS3 := Aside0.mk hb.size
  have HV1' := Aside0.mk (HV1.out.below hb)
  clear HV1
  have HV1 := HV1'
  clear HV1'
  clear hb
  go_wp2_with fail
  refine (toIntSS_law A0 c0 l0 _ (Kd.C_below HR0.out HB.out) HC0.out HG0.out).mono ?_
  rintro e w4 ⟨v6, rfl, ho, hb⟩
  have HO := Aside0.mk ho
  clear ho
  have HB' := Aside0.mk (below_step HB.out hb)
  clear HB
  have HB := HB'
  clear HB'
  have HS4 := Aside0.mk hb.size
  have HV1' := Aside0.mk (HV1.out.below hb)
  clear HV1
  have HV1 := HV1'
  clear HV1'
  clear hb
  obtain ⟨A7, c8, ev, _, _⟩ := HO.out.shape
  subst ev
  have HV5 := HO
  clear HO
  go_wp2_with fail
  refine (impl_ShortestPeriod.calls k _ _ l0 r1 r2 _ HV5.out.reads.2.2 HV5.out.reads.2.1 HIM.out).mono ?_
  rintro e w5 ⟨rfl, hb⟩
  have HB' := Aside0.mk (below_step HB.out hb)
  clear HB
  have HB := HB'
  clear HB'
  have HS5 := Aside0.mk hb.size
  have HV1' := Aside0.mk (HV1.out.below hb)
  clear HV1
  have HV1 := HV1'
  clear HV1'
  have HV5' := Aside0.mk (HV5.out.below hb)
  clear HV5
  have HV5 := HV5'
  clear HV5'
  clear hb
  go_wp2_with fail
  refine (toIntSS_law A0 c0 l0 _ (Kd.C_below HR0.out HB.out) HC0.out HG0.out).mono ?_
  rintro e w6 ⟨v10, rfl, ho, hb⟩
  have HO := Aside0.mk ho
  clear ho
  have HB' := Aside0.mk (below_step HB.out hb)
  clear HB
  have HB := HB'
  clear HB'
  have HS6 := Aside0.mk hb.size
  have HV1' := Aside0.mk (HV1.out.below hb)
  clear HV1
  have HV1 := HV1'
  clear HV1'
  have HV5' := Aside0.mk (HV5.out.below hb)
  clear HV5
  have HV5 := HV5'
  clear HV5'
  clear hb
  obtain ⟨A11, c12, ev, _, _⟩ := HO.out.shape
  subst ev
  have HV9 := HO
  clear HO
  go_wp2_with fail
  refine (eqIntSS_law _ _ _ _ l0 _ HV5.out.reads.2.2 HV5.out.reads.2.1 HV9.out.reads.2.2 HV9.out.reads.2.1 (by have := HG0.out; omega)).mono ?_
  rintro e w7 ⟨rfl, hb⟩
  have HB' := Aside0.mk (below_step HB.out hb)
  clear HB
  have HB := HB'
  clear HB'
  have HS7 := Aside0.mk hb.size
  have HV1' := Aside0.mk (HV1.out.below hb)
  clear HV1
  have HV1 := HV1'
  clear HV1'
  have HV5' := Aside0.mk (HV5.out.below hb)
  clear HV5
  have HV5 := HV5'
  clear HV5'
  have HV9' := Aside0.mk (HV9.out.below hb)
  clear HV9
  have HV9 := HV9'
  clear HV9'
  clear hb
  go_wp2
  go_ret
  exact ⟨by first | rfl | (simp; done), HB.out⟩
end Go.Proofs.Ytnohpeihbfephaa.Law
