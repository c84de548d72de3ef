-- Shaken out of the printed texts.
import Derived.Test.YtebjiooojkhkpaaZFnBuffersWBX0
import Derived.Test.YtebjiooojkhkpaaZFnBuffersQ
import Derived.Test.YtebjiooojkhkpaaZFnBuffersX0
import Derived.Test.YtebjiooojkhkpaaZFnBuffersX1
namespace Go.Proofs.Ytebjiooojkhkpaa.X
open Go.RowKit Go.Proofs.YtebjiooojkhkpaaW.PrintWords Go.Proofs.YtebjiooojkhkpaaW.PrintLast Go.Proofs.YtebjiooojkhkpaaW.PrintMore
attribute [local go_sem] max2_int min2_int max_two min_two max_three min_three max_four min_four   -- for this text's walks alone
set_option linter.unusedVariables false
set_option linter.unusedSimpArgs false

/-! ### impl_BufferOf: function 18 -/
def impl_BufferOf.f (k : Nat) (l0 : List (List Int)) (l1 : List Int) (a2 : Int) (a3 : Int) (a4 : Int) : Option (Int × Bool) := (impl_planOf.f k l0 l1 a2).bind fun bt198 => (if bt198.2.2.2 = true then ((impl_areVertices.f l0 (([a3, a4] : List Int))).bind fun t210 => (if t210 = true then ((impl_plan_waits.f bt198.1 bt198.2.1 bt198.2.2.1 a3 a4).bind fun t211 => (if t211 = true then ((impl_plan_buffer.f bt198.1 bt198.2.1 bt198.2.2.1 a3 a4).bind fun t212 => (some (t212, true))) else (some (0, false)))) else (some (0, false)))) else (some (0, false)))
theorem impl_BufferOf.mono : ∀ a0 a1 a2 a3 a4 k, LeO (impl_BufferOf.f k a0 a1 a2 a3 a4) (impl_BufferOf.f (k + 1) a0 a1 a2 a3 a4) := by
 intro a0 a1 a2 a3 a4 k
 unfold impl_BufferOf.f
 repeat' first | (with_reducible first | exact impl_planOf.mono _ _ _ _ | exact LeO.refl _ | exact LeO.none _ | refine LeO.ite ?_ ?_ | refine LeO.bind ?_ (fun _ => ?_)) | exact impl_planOf.mono _ _ _ _ | exact LeO.none _ | refine LeO.ite ?_ ?_ | refine LeO.bind ?_ (fun _ => ?_)
set_option maxHeartbeats 8000000 in
set_option maxRecDepth 100000 in
theorem impl_BufferOf.calls (k : Nat) (A0 : Option Addr) (c0 : Nat) (l0 : List (List Int)) (A1 : Option Addr) (c1 : Nat) (l1 : List Int) (a2 : Int) (a3 : Int) (a4 : Int) (r1 : Int) (r2 : Bool) (w : World) (hr0 : Kd.C (Kd.slice 3 (Kd.int .i64)) w A0 l0.length l0) (hc0 : l0.length ≤ c0) (hr1 : Kd.C (Kd.int .i64) w A1 l1.length l1) (hc1 : l1.length ≤ c1) (h : impl_BufferOf.f k l0 l1 a2 a3 a4 = some (r1, r2)) :
 Calls Try.prog 18 #[.slice A0 l0.length c0, .slice A1 l1.length c1, .int .i64 a2, .int .i64 a3, .int .i64 a4] w fun e w' => e = .returned (.tuple #[.int .i64 r1, .bool r2]) ∧ Below w.heap.size w w' := by
 have hu63 := Try.underlying63
 have HR0 := A_ hr0
 have HC0 := A_ hc0
 clear hr0 hc0
 have HR1 := A_ hr1
 have HC1 := A_ hc1
 clear hr1 hc1
 have HB := A_ (Below.refl w.heap.size w)
 have H : ((impl_planOf.f k l0 l1 a2).bind fun bt198 => (if bt198.2.2.2 = true then ((impl_areVertices.f l0 (([a3, a4] : List Int))).bind fun t210 => (if t210 = true then ((impl_plan_waits.f bt198.1 bt198.2.1 bt198.2.2.1 a3 a4).bind fun t211 => (if t211 = true then ((impl_plan_buffer.f bt198.1 bt198.2.1 bt198.2.2.1 a3 a4).bind fun t212 => (some (t212, true))) else (some (0, false)))) else (some (0, false)))) else (some (0, false)))) = some (r1, r2) := h
 clear h
 obtain ⟨⟨t198, t201, t204, t205⟩, A60, H⟩ := Option.bind_eq_some_iff.mp H
 try dsimp only at H
 have A6 := A_ A60; clear A60
 by_cases c7 : t205 = true
 ·
  subst c7
  rw [if_pos rfl] at H
  obtain ⟨y207, hy207⟩ : ∃ y_ : List Int, y_ = (([a3, a4] : List Int)) := ⟨_, rfl⟩
  replace H : ((impl_areVertices.f l0 y207).bind fun t210 => (if t210 = true then ((impl_plan_waits.f t198 t201 t204 a3 a4).bind fun t211 => (if t211 = true then ((impl_plan_buffer.f t198 t201 t204 a3 a4).bind fun t212 => (some (t212, true))) else (some (0, false)))) else (some (0, false)))) = some (r1, r2) := by first | (rw [hy207]; with_reducible exact H) | (have H2_ := (Option.bind_some _ _).symm.trans H; rw [hy207]; with_reducible exact H2_) | (have H2_ := (Option.bind_some _ _).symm.trans H; with_reducible exact H2_) | with_reducible exact H | (rw [hy207]; exact H) | exact H
  have Ny207 := A_ hy207
  clear hy207
  obtain ⟨t210, A80, H⟩ := Option.bind_eq_some_iff.mp H
  try dsimp only at H
  have A8 := A_ A80; clear A80
  by_cases c9 : t210 = true
  ·
   subst c9
   rw [if_pos rfl] at H
   obtain ⟨t211, A100, H⟩ := Option.bind_eq_some_iff.mp H
   try dsimp only at H
   have A10 := A_ A100; clear A100
   by_cases c11 : t211 = true
   ·
    subst c11
    rw [if_pos rfl] at H
    obtain ⟨t212, A120, H⟩ := Option.bind_eq_some_iff.mp H
    try dsimp only at H
    have A12 := A_ A120; clear A120
    simp only [Option.some.injEq, Prod.mk.injEq] at H
    obtain ⟨rfl, rfl⟩ := H
    go_enter Try.func18, Try.ntmps18
    go_wp2_with (first | ((with_reducible refine gate_callee (f := 54) rfl ?_); refine goesL_ (some 18) rfl rfl Try.func54 kr_ rfl #[.slice A0 l0.length c0, .slice A1 l1.length c1, .int .i64 a2] rfl am_ ?_; (with_reducible refine (impl_planOf.calls k (fun k_ => k_ < w.heap.size) _ _ l0 (fun k_ => k_ < w.heap.size) _ _ l1 a2 t198 t201 t204 true _ ?side1 ?side2 A6.out).mono ?_); (case side1 => exact Kd.V_mk HC0.out (Kd.F_below (Kd.C_F (Kd.heap_slice 3 (Kd.heap_int .i64)) HR0.out) bl_)); (case side2 => exact Kd.V_mk HC1.out (Kd.F_below (Kd.C_F (Kd.heap_int .i64) HR1.out) bl_)); rintro e w13 ⟨v199, v202, rfl, ho0, ho1, hb⟩; refine ⟨_, rfl, ?_⟩; have n0_ := A_ (Kd.V_lower (Kd.V_mono (ok' := fun k_ => True) ho0 (fun k_ hk_ => trivial)) (below_size bl_)); have n1_ := A_ (Kd.V_lower (Kd.V_mono (ok' := fun k_ => True) ho1 (fun k_ hk_ => trivial)) (below_size bl_)); have n2_ := A_ (below_step bl_ hb); clear HB; have HO200 := n0_; have HO203 := n1_; have HB := n2_; clear n0_ n1_ n2_; (try clear hb); (try clear hb2); (try clear hk); (try clear hi); (try clear ho0); (try clear ho1)) | ((with_reducible refine gate_dst (N := 12) rfl ?_); (try (refine gate_guard (by rfl) ?_; dsimp only)); refine box_event ?hg (N := 12) ?hd (cs := #[.slice none 0 0, .slice none 0 0, .int .i64 0]) (t := 63) ?hr ?_; (case hd => rfl); (case hg => rfl); (case hr => first | (go_simp; done) | (go_simp; rfl)); intro gb206 hg w14 hbox hb; have n0_ := A_ (Kd.V_below (Kd.V_elderB (by (with_reducible repeat (first | apply Kd.V_alloc | apply Kd.V_drewN | apply Kd.V_drew)); exact HO200.out) gb206 (Nat.le_of_eq hg.symm)) hb); have n1_ := A_ (Kd.V_below (Kd.V_elderB (by (with_reducible repeat (first | apply Kd.V_alloc | apply Kd.V_drewN | apply Kd.V_drew)); exact HO203.out) gb206 (Nat.le_of_eq hg.symm)) hb); have n2_ := A_ (below_step bl_ hb); have n3_ := A_ (hbox); have n4_ := A_ ((by rw [hg]; exact (below_size bl_) : w.heap.size ≤ gb206)); have n5_ := A_ ((by rw [hg]; exact (below_size bl_) : w.heap.size ≤ gb206)); clear HO200; clear HO203; clear HB; have HO200 := n0_; have HO203 := n1_; have HB := n2_; have BK206 := n3_; have GW206 := n4_; have GE206 := n5_; clear n0_ n1_ n2_ n3_ n4_ n5_; clear hb hbox hg; obtain ⟨Ao15, co15, eo15⟩ := Kd.V_slice HO200.out; subst eo15; have hcz16_0 : w14.cell? ⟨gb206, 0, none⟩ = some (.slice none 0 0) := (blk_cell BK206.out 0).trans rfl; have hcz16_1 : w14.cell? ⟨gb206, 1, none⟩ = some (.slice none 0 0) := (blk_cell BK206.out 1).trans rfl; have hcz16_2 : w14.cell? ⟨gb206, 2, none⟩ = some (.int .i64 0) := (blk_cell BK206.out 2).trans rfl; have hfz16_0 := blk_frozen BK206.out 0; have hfz16_1 := blk_frozen BK206.out 1; have hfz16_2 := blk_frozen BK206.out 2; obtain ⟨Ao17, co17, eo17⟩ := Kd.V_slice HO203.out; subst eo17) | ((with_reducible refine gate_dst (N := 27) rfl ?_); (try (refine gate_guard (by rfl) ?_; dsimp only)); refine Kd.R_lit (Kd.int .i64) _ 3 ?hg (N := 27) ?hd (xs := ([a3, a4] : List Int)) (inner := [.int .i64 a3, .int .i64 a4]) (ok := fun _ => True) (okp := fun _ => True) ?hr ?hp (fun _ hk => hk) trivial (Below.refl _ _) (Nat.le_refl _) (by simp) ?_; (case hd => rfl); (case hg => rfl); (case hr => first | (go_simp; done) | (go_simp; rfl)); (case hp => exact (Reps.one (show Kd.M (Kd.int .i64) _ _ _ a3 [.int .i64 a3] from rfl) (Reps.one (show Kd.M (Kd.int .i64) _ _ _ a4 [.int .i64 a4] from rfl) (Reps.none _ _)))); intro v208 w18 ho19 hb hg_ hnew_; clear hg_ hnew_; (first | rw [← Ny207.out] at ho19 | (simp only [Int.reduceToNat] at ho19; rw [← Ny207.out] at ho19)); have n0_ := A_ (Kd.V_elder' (by (with_reducible repeat (first | apply Kd.V_alloc | apply Kd.V_drewN | apply Kd.V_drew)); exact (Kd.V_mono (Kd.V_far (p := ⟨gb206, 2, none⟩) (Kd.V_far (p := ⟨gb206, 1, none⟩) (Kd.V_far (p := ⟨gb206, 0, none⟩) (Kd.V_mono HO200.out (fun k_ hk => (⟨hk, hk.2⟩ : _ ∧ k_ ≠ gb206))) (fun _ hk => hk.2) (.slice Ao15 t198.length co15)) (fun _ hk => hk.2) (.slice Ao17 t201.length co17)) (fun _ hk => hk.2) (.int .i64 t204)) (fun _ h_ => h_.1))) (Kd.R_base ho19) hb); have n1_ := A_ (Kd.V_elder' (by (with_reducible repeat (first | apply Kd.V_alloc | apply Kd.V_drewN | apply Kd.V_drew)); exact (Kd.V_mono (Kd.V_far (p := ⟨gb206, 2, none⟩) (Kd.V_far (p := ⟨gb206, 1, none⟩) (Kd.V_far (p := ⟨gb206, 0, none⟩) (Kd.V_mono HO203.out (fun k_ hk => (⟨hk, hk.2⟩ : _ ∧ k_ ≠ gb206))) (fun _ hk => hk.2) (.slice Ao15 t198.length co15)) (fun _ hk => hk.2) (.slice Ao17 t201.length co17)) (fun _ hk => hk.2) (.int .i64 t204)) (fun _ h_ => h_.1))) (Kd.R_base ho19) hb); have n2_ := A_ (Kd.R_lower ho19 (below_size (bs_ GE206.out))); have n3_ := A_ (blk_below (g := gb206) (o := .cells #[.slice Ao15 t198.length co15, .slice Ao17 t201.length co17, .int .i64 t204] 63 (0, 0)) (by (with_reducible repeat (first | refine blk_drewN ?_ _ | refine blk_drew ?_ | refine blk_alloc ?_ _)); refine blk_put (cs := #[.slice Ao15 t198.length co15, .slice Ao17 t201.length co17, .int .i64 0]) ?_ 2 _ rfl; (with_reducible repeat (first | refine blk_drewN ?_ _ | refine blk_drew ?_ | refine blk_alloc ?_ _)); refine blk_put (cs := #[.slice Ao15 t198.length co15, .slice none 0 0, .int .i64 0]) ?_ 1 _ rfl; (with_reducible repeat (first | refine blk_drewN ?_ _ | refine blk_drew ?_ | refine blk_alloc ?_ _)); refine blk_put (cs := #[.slice none 0 0, .slice none 0 0, .int .i64 0]) ?_ 0 _ rfl; (with_reducible repeat (first | refine blk_drewN ?_ _ | refine blk_drew ?_ | refine blk_alloc ?_ _)); exact BK206.out) hb); have n4_ := A_ (below_step (bs_ GE206.out) hb); clear HO200; clear HO203; clear BK206; clear HB; have HO200 := n0_; have HO203 := n1_; have HO209 := n2_; have BK206 := n3_; have HB := n4_; clear n0_ n1_ n2_ n3_ n4_; clear hb ho19; obtain ⟨Ao20, co20, eo20⟩ := Kd.R_slice HO209.out; subst eo20) | (go_at_call 55; (with_reducible refine (impl_areVertices.calls _ _ l0 _ _ y207 true _ ?side1 ?side2 ?side3 ?side4 A8.out).mono ?_); (case side1 => exact kC_ (Kd.C_below HR0.out HB.out)); (case side2 => exact HC0.out); (case side3 => exact kC_ ((Kd.R_reads' HO209.out).2.2)); (case side4 => exact (Kd.R_reads' HO209.out).2.1); rintro e w21 ⟨rfl, hb⟩; have n0_ := A_ (Kd.V_below (by (with_reducible repeat (first | apply Kd.V_alloc | apply Kd.V_drewN | apply Kd.V_drew)); exact HO200.out) hb); have n1_ := A_ (Kd.V_below (by (with_reducible repeat (first | apply Kd.V_alloc | apply Kd.V_drewN | apply Kd.V_drew)); exact HO203.out) hb); have n2_ := A_ (Kd.R_below (kR_ HO209.out) hb); have n3_ := A_ (blk_below (g := gb206) (o := .cells #[.slice Ao15 t198.length co15, .slice Ao17 t201.length co17, .int .i64 t204] 63 (0, 0)) (by (with_reducible repeat (first | refine blk_drewN ?_ _ | refine blk_drew ?_ | refine blk_alloc ?_ _)); exact BK206.out) hb); have n4_ := A_ (below_step (bs_ GE206.out) hb); clear HO200; clear HO203; clear HO209; clear BK206; clear HB; have HO200 := n0_; have HO203 := n1_; have HO209 := n2_; have BK206 := n3_; have HB := n4_; clear n0_ n1_ n2_ n3_ n4_; (try clear hb); (try clear hb2); (try clear hk); (try clear hi); have hcz22_0 : w21.cell? ⟨gb206, 0, none⟩ = some (.slice Ao15 t198.length co15) := (blk_cell BK206.out 0).trans rfl; have hcz22_1 : w21.cell? ⟨gb206, 1, none⟩ = some (.slice Ao17 t201.length co17) := (blk_cell BK206.out 1).trans rfl; have hcz22_2 : w21.cell? ⟨gb206, 2, none⟩ = some (.int .i64 t204) := (blk_cell BK206.out 2).trans rfl; have hfz22_0 := blk_frozen BK206.out 0; have hfz22_1 := blk_frozen BK206.out 1; have hfz22_2 := blk_frozen BK206.out 2) | (go_at_call 56; (with_reducible refine (impl_plan_waits.calls _ _ t198 _ _ t201 t204 a3 a4 true _ ?side1 ?side2 ?side3 ?side4 A10.out).mono ?_); (case side1 => exact kC_ ((Kd.V_reads' HO200.out).2.2)); (case side2 => exact (Kd.V_reads' HO200.out).2.1); (case side3 => exact kC_ ((Kd.V_reads' HO203.out).2.2)); (case side4 => exact (Kd.V_reads' HO203.out).2.1); rintro e w23 ⟨rfl, hb⟩; have n0_ := A_ (Kd.V_below (by (with_reducible repeat (first | apply Kd.V_alloc | apply Kd.V_drewN | apply Kd.V_drew)); exact HO200.out) hb); have n1_ := A_ (Kd.V_below (by (with_reducible repeat (first | apply Kd.V_alloc | apply Kd.V_drewN | apply Kd.V_drew)); exact HO203.out) hb); have n2_ := A_ (Kd.R_below (kR_ HO209.out) hb); have n3_ := A_ (blk_below (g := gb206) (o := .cells #[.slice Ao15 t198.length co15, .slice Ao17 t201.length co17, .int .i64 t204] 63 (0, 0)) (by (with_reducible repeat (first | refine blk_drewN ?_ _ | refine blk_drew ?_ | refine blk_alloc ?_ _)); exact BK206.out) hb); have n4_ := A_ (below_step (bs_ GE206.out) hb); clear HO200; clear HO203; clear HO209; clear BK206; clear HB; have HO200 := n0_; have HO203 := n1_; have HO209 := n2_; have BK206 := n3_; have HB := n4_; clear n0_ n1_ n2_ n3_ n4_; (try clear hb); (try clear hb2); (try clear hk); (try clear hi); have hcz24_0 : w23.cell? ⟨gb206, 0, none⟩ = some (.slice Ao15 t198.length co15) := (blk_cell BK206.out 0).trans rfl; have hcz24_1 : w23.cell? ⟨gb206, 1, none⟩ = some (.slice Ao17 t201.length co17) := (blk_cell BK206.out 1).trans rfl; have hcz24_2 : w23.cell? ⟨gb206, 2, none⟩ = some (.int .i64 t204) := (blk_cell BK206.out 2).trans rfl; have hfz24_0 := blk_frozen BK206.out 0; have hfz24_1 := blk_frozen BK206.out 1; have hfz24_2 := blk_frozen BK206.out 2) | ((with_reducible refine gate_callee (f := 57) rfl ?_); refine goesL_ (some 41) rfl rfl Try.func57 kr_ rfl #[.agg #[.slice Ao15 t198.length co15, .slice Ao17 t201.length co17, .int .i64 t204], .int .i64 a3, .int .i64 a4] rfl am_ ?_; (with_reducible refine (impl_plan_buffer.calls _ _ t198 _ _ t201 t204 a3 a4 t212 _ ?side1 ?side2 ?side3 ?side4 A12.out).mono ?_); (case side1 => exact kC_ ((Kd.V_reads' HO200.out).2.2)); (case side2 => exact (Kd.V_reads' HO200.out).2.1); (case side3 => exact kC_ ((Kd.V_reads' HO203.out).2.2)); (case side4 => exact (Kd.V_reads' HO203.out).2.1); rintro e w25 ⟨rfl, hb⟩; refine ⟨_, rfl, ?_⟩; have n0_ := A_ (Kd.V_below (by (with_reducible repeat (first | apply Kd.V_alloc | apply Kd.V_drewN | apply Kd.V_drew)); exact HO200.out) hb); have n1_ := A_ (Kd.V_below (by (with_reducible repeat (first | apply Kd.V_alloc | apply Kd.V_drewN | apply Kd.V_drew)); exact HO203.out) hb); have n2_ := A_ (Kd.R_below (kR_ HO209.out) hb); have n3_ := A_ (blk_below (g := gb206) (o := .cells #[.slice Ao15 t198.length co15, .slice Ao17 t201.length co17, .int .i64 t204] 63 (0, 0)) (by (with_reducible repeat (first | refine blk_drewN ?_ _ | refine blk_drew ?_ | refine blk_alloc ?_ _)); exact BK206.out) hb); have n4_ := A_ (below_step (bs_ GE206.out) hb); clear HO200; clear HO203; clear HO209; clear BK206; clear HB; have HO200 := n0_; have HO203 := n1_; have HO209 := n2_; have BK206 := n3_; have HB := n4_; clear n0_ n1_ n2_ n3_ n4_; (try clear hb); (try clear hb2); (try clear hk); (try clear hi)))
    go_ret2
    exact ⟨ew_, bs_ GE206.out⟩
   ·
    replace c11 := Bool.eq_false_iff.mpr c11
    subst c11
    rw [if_neg (show ¬ (false = true) by decide)] at H
    simp only [Option.some.injEq, Prod.mk.injEq] at H
    obtain ⟨rfl, rfl⟩ := H
    go_enter Try.func18, Try.ntmps18
    go_wp2_with (first | ((with_reducible refine gate_callee (f := 54) rfl ?_); refine goesL_ (some 18) rfl rfl Try.func54 kr_ rfl #[.slice A0 l0.length c0, .slice A1 l1.length c1, .int .i64 a2] rfl am_ ?_; (with_reducible refine (impl_planOf.calls k (fun k_ => k_ < w.heap.size) _ _ l0 (fun k_ => k_ < w.heap.size) _ _ l1 a2 t198 t201 t204 true _ ?side1 ?side2 A6.out).mono ?_); (case side1 => exact Kd.V_mk HC0.out (Kd.F_below (Kd.C_F (Kd.heap_slice 3 (Kd.heap_int .i64)) HR0.out) bl_)); (case side2 => exact Kd.V_mk HC1.out (Kd.F_below (Kd.C_F (Kd.heap_int .i64) HR1.out) bl_)); rintro e w26 ⟨v199, v202, rfl, ho0, ho1, hb⟩; refine ⟨_, rfl, ?_⟩; have n0_ := A_ (Kd.V_lower (Kd.V_mono (ok' := fun k_ => True) ho0 (fun k_ hk_ => trivial)) (below_size bl_)); have n1_ := A_ (Kd.V_lower (Kd.V_mono (ok' := fun k_ => True) ho1 (fun k_ hk_ => trivial)) (below_size bl_)); have n2_ := A_ (below_step bl_ hb); clear HB; have HO200 := n0_; have HO203 := n1_; have HB := n2_; clear n0_ n1_ n2_; (try clear hb); (try clear hb2); (try clear hk); (try clear hi); (try clear ho0); (try clear ho1)) | ((with_reducible refine gate_dst (N := 12) rfl ?_); (try (refine gate_guard (by rfl) ?_; dsimp only)); refine box_event ?hg (N := 12) ?hd (cs := #[.slice none 0 0, .slice none 0 0, .int .i64 0]) (t := 63) ?hr ?_; (case hd => rfl); (case hg => rfl); (case hr => first | (go_simp; done) | (go_simp; rfl)); intro gb206 hg w27 hbox hb; have n0_ := A_ (Kd.V_below (Kd.V_elderB (by (with_reducible repeat (first | apply Kd.V_alloc | apply Kd.V_drewN | apply Kd.V_drew)); exact HO200.out) gb206 (Nat.le_of_eq hg.symm)) hb); have n1_ := A_ (Kd.V_below (Kd.V_elderB (by (with_reducible repeat (first | apply Kd.V_alloc | apply Kd.V_drewN | apply Kd.V_drew)); exact HO203.out) gb206 (Nat.le_of_eq hg.symm)) hb); have n2_ := A_ (below_step bl_ hb); have n3_ := A_ (hbox); have n4_ := A_ ((by rw [hg]; exact (below_size bl_) : w.heap.size ≤ gb206)); have n5_ := A_ ((by rw [hg]; exact (below_size bl_) : w.heap.size ≤ gb206)); clear HO200; clear HO203; clear HB; have HO200 := n0_; have HO203 := n1_; have HB := n2_; have BK206 := n3_; have GW206 := n4_; have GE206 := n5_; clear n0_ n1_ n2_ n3_ n4_ n5_; clear hb hbox hg; obtain ⟨Ao28, co28, eo28⟩ := Kd.V_slice HO200.out; subst eo28; have hcz29_0 : w27.cell? ⟨gb206, 0, none⟩ = some (.slice none 0 0) := (blk_cell BK206.out 0).trans rfl; have hcz29_1 : w27.cell? ⟨gb206, 1, none⟩ = some (.slice none 0 0) := (blk_cell BK206.out 1).trans rfl; have hcz29_2 : w27.cell? ⟨gb206, 2, none⟩ = some (.int .i64 0) := (blk_cell BK206.out 2).trans rfl; have hfz29_0 := blk_frozen BK206.out 0; have hfz29_1 := blk_frozen BK206.out 1; have hfz29_2 := blk_frozen BK206.out 2; obtain ⟨Ao30, co30, eo30⟩ := Kd.V_slice HO203.out; subst eo30) | ((with_reducible refine gate_dst (N := 27) rfl ?_); (try (refine gate_guard (by rfl) ?_; dsimp only)); refine Kd.R_lit (Kd.int .i64) _ 3 ?hg (N := 27) ?hd (xs := ([a3, a4] : List Int)) (inner := [.int .i64 a3, .int .i64 a4]) (ok := fun _ => True) (okp := fun _ => True) ?hr ?hp (fun _ hk => hk) trivial (Below.refl _ _) (Nat.le_refl _) (by simp) ?_; (case hd => rfl); (case hg => rfl); (case hr => first | (go_simp; done) | (go_simp; rfl)); (case hp => exact (Reps.one (show Kd.M (Kd.int .i64) _ _ _ a3 [.int .i64 a3] from rfl) (Reps.one (show Kd.M (Kd.int .i64) _ _ _ a4 [.int .i64 a4] from rfl) (Reps.none _ _)))); intro v208 w31 ho32 hb hg_ hnew_; clear hg_ hnew_; (first | rw [← Ny207.out] at ho32 | (simp only [Int.reduceToNat] at ho32; rw [← Ny207.out] at ho32)); have n0_ := A_ (Kd.V_elder' (by (with_reducible repeat (first | apply Kd.V_alloc | apply Kd.V_drewN | apply Kd.V_drew)); exact (Kd.V_mono (Kd.V_far (p := ⟨gb206, 2, none⟩) (Kd.V_far (p := ⟨gb206, 1, none⟩) (Kd.V_far (p := ⟨gb206, 0, none⟩) (Kd.V_mono HO200.out (fun k_ hk => (⟨hk, hk.2⟩ : _ ∧ k_ ≠ gb206))) (fun _ hk => hk.2) (.slice Ao28 t198.length co28)) (fun _ hk => hk.2) (.slice Ao30 t201.length co30)) (fun _ hk => hk.2) (.int .i64 t204)) (fun _ h_ => h_.1))) (Kd.R_base ho32) hb); have n1_ := A_ (Kd.V_elder' (by (with_reducible repeat (first | apply Kd.V_alloc | apply Kd.V_drewN | apply Kd.V_drew)); exact (Kd.V_mono (Kd.V_far (p := ⟨gb206, 2, none⟩) (Kd.V_far (p := ⟨gb206, 1, none⟩) (Kd.V_far (p := ⟨gb206, 0, none⟩) (Kd.V_mono HO203.out (fun k_ hk => (⟨hk, hk.2⟩ : _ ∧ k_ ≠ gb206))) (fun _ hk => hk.2) (.slice Ao28 t198.length co28)) (fun _ hk => hk.2) (.slice Ao30 t201.length co30)) (fun _ hk => hk.2) (.int .i64 t204)) (fun _ h_ => h_.1))) (Kd.R_base ho32) hb); have n2_ := A_ (Kd.R_lower ho32 (below_size (bs_ GE206.out))); have n3_ := A_ (blk_below (g := gb206) (o := .cells #[.slice Ao28 t198.length co28, .slice Ao30 t201.length co30, .int .i64 t204] 63 (0, 0)) (by (with_reducible repeat (first | refine blk_drewN ?_ _ | refine blk_drew ?_ | refine blk_alloc ?_ _)); refine blk_put (cs := #[.slice Ao28 t198.length co28, .slice Ao30 t201.length co30, .int .i64 0]) ?_ 2 _ rfl; (with_reducible repeat (first | refine blk_drewN ?_ _ | refine blk_drew ?_ | refine blk_alloc ?_ _)); refine blk_put (cs := #[.slice Ao28 t198.length co28, .slice none 0 0, .int .i64 0]) ?_ 1 _ rfl; (with_reducible repeat (first | refine blk_drewN ?_ _ | refine blk_drew ?_ | refine blk_alloc ?_ _)); refine blk_put (cs := #[.slice none 0 0, .slice none 0 0, .int .i64 0]) ?_ 0 _ rfl; (with_reducible repeat (first | refine blk_drewN ?_ _ | refine blk_drew ?_ | refine blk_alloc ?_ _)); exact BK206.out) hb); have n4_ := A_ (below_step (bs_ GE206.out) hb); clear HO200; clear HO203; clear BK206; clear HB; have HO200 := n0_; have HO203 := n1_; have HO209 := n2_; have BK206 := n3_; have HB := n4_; clear n0_ n1_ n2_ n3_ n4_; clear hb ho32; obtain ⟨Ao33, co33, eo33⟩ := Kd.R_slice HO209.out; subst eo33) | (go_at_call 55; (with_reducible refine (impl_areVertices.calls _ _ l0 _ _ y207 true _ ?side1 ?side2 ?side3 ?side4 A8.out).mono ?_); (case side1 => exact kC_ (Kd.C_below HR0.out HB.out)); (case side2 => exact HC0.out); (case side3 => exact kC_ ((Kd.R_reads' HO209.out).2.2)); (case side4 => exact (Kd.R_reads' HO209.out).2.1); rintro e w34 ⟨rfl, hb⟩; have n0_ := A_ (Kd.V_below (by (with_reducible repeat (first | apply Kd.V_alloc | apply Kd.V_drewN | apply Kd.V_drew)); exact HO200.out) hb); have n1_ := A_ (Kd.V_below (by (with_reducible repeat (first | apply Kd.V_alloc | apply Kd.V_drewN | apply Kd.V_drew)); exact HO203.out) hb); have n2_ := A_ (Kd.R_below (kR_ HO209.out) hb); have n3_ := A_ (blk_below (g := gb206) (o := .cells #[.slice Ao28 t198.length co28, .slice Ao30 t201.length co30, .int .i64 t204] 63 (0, 0)) (by (with_reducible repeat (first | refine blk_drewN ?_ _ | refine blk_drew ?_ | refine blk_alloc ?_ _)); exact BK206.out) hb); have n4_ := A_ (below_step (bs_ GE206.out) hb); clear HO200; clear HO203; clear HO209; clear BK206; clear HB; have HO200 := n0_; have HO203 := n1_; have HO209 := n2_; have BK206 := n3_; have HB := n4_; clear n0_ n1_ n2_ n3_ n4_; (try clear hb); (try clear hb2); (try clear hk); (try clear hi); have hcz35_0 : w34.cell? ⟨gb206, 0, none⟩ = some (.slice Ao28 t198.length co28) := (blk_cell BK206.out 0).trans rfl; have hcz35_1 : w34.cell? ⟨gb206, 1, none⟩ = some (.slice Ao30 t201.length co30) := (blk_cell BK206.out 1).trans rfl; have hcz35_2 : w34.cell? ⟨gb206, 2, none⟩ = some (.int .i64 t204) := (blk_cell BK206.out 2).trans rfl; have hfz35_0 := blk_frozen BK206.out 0; have hfz35_1 := blk_frozen BK206.out 1; have hfz35_2 := blk_frozen BK206.out 2) | (go_at_call 56; (with_reducible refine (impl_plan_waits.calls _ _ t198 _ _ t201 t204 a3 a4 false _ ?side1 ?side2 ?side3 ?side4 A10.out).mono ?_); (case side1 => exact kC_ ((Kd.V_reads' HO200.out).2.2)); (case side2 => exact (Kd.V_reads' HO200.out).2.1); (case side3 => exact kC_ ((Kd.V_reads' HO203.out).2.2)); (case side4 => exact (Kd.V_reads' HO203.out).2.1); rintro e w36 ⟨rfl, hb⟩; have n0_ := A_ (Kd.V_below (by (with_reducible repeat (first | apply Kd.V_alloc | apply Kd.V_drewN | apply Kd.V_drew)); exact HO200.out) hb); have n1_ := A_ (Kd.V_below (by (with_reducible repeat (first | apply Kd.V_alloc | apply Kd.V_drewN | apply Kd.V_drew)); exact HO203.out) hb); have n2_ := A_ (Kd.R_below (kR_ HO209.out) hb); have n3_ := A_ (blk_below (g := gb206) (o := .cells #[.slice Ao28 t198.length co28, .slice Ao30 t201.length co30, .int .i64 t204] 63 (0, 0)) (by (with_reducible repeat (first | refine blk_drewN ?_ _ | refine blk_drew ?_ | refine blk_alloc ?_ _)); exact BK206.out) hb); have n4_ := A_ (below_step (bs_ GE206.out) hb); clear HO200; clear HO203; clear HO209; clear BK206; clear HB; have HO200 := n0_; have HO203 := n1_; have HO209 := n2_; have BK206 := n3_; have HB := n4_; clear n0_ n1_ n2_ n3_ n4_; (try clear hb); (try clear hb2); (try clear hk); (try clear hi)))
    go_ret2
    exact ⟨ew_, bs_ GE206.out⟩
  ·
   replace c9 := Bool.eq_false_iff.mpr c9
   subst c9
   rw [if_neg (show ¬ (false = true) by decide)] at H
   simp only [Option.some.injEq, Prod.mk.injEq] at H
   obtain ⟨rfl, rfl⟩ := H
   go_enter Try.func18, Try.ntmps18
   go_wp2_with (first | ((with_reducible refine gate_callee (f := 54) rfl ?_); refine goesL_ (some 18) rfl rfl Try.func54 kr_ rfl #[.slice A0 l0.length c0, .slice A1 l1.length c1, .int .i64 a2] rfl am_ ?_; (with_reducible refine (impl_planOf.calls k (fun k_ => k_ < w.heap.size) _ _ l0 (fun k_ => k_ < w.heap.size) _ _ l1 a2 t198 t201 t204 true _ ?side1 ?side2 A6.out).mono ?_); (case side1 => exact Kd.V_mk HC0.out (Kd.F_below (Kd.C_F (Kd.heap_slice 3 (Kd.heap_int .i64)) HR0.out) bl_)); (case side2 => exact Kd.V_mk HC1.out (Kd.F_below (Kd.C_F (Kd.heap_int .i64) HR1.out) bl_)); rintro e w37 ⟨v199, v202, rfl, ho0, ho1, hb⟩; refine ⟨_, rfl, ?_⟩; have n0_ := A_ (Kd.V_lower (Kd.V_mono (ok' := fun k_ => True) ho0 (fun k_ hk_ => trivial)) (below_size bl_)); have n1_ := A_ (Kd.V_lower (Kd.V_mono (ok' := fun k_ => True) ho1 (fun k_ hk_ => trivial)) (below_size bl_)); have n2_ := A_ (below_step bl_ hb); clear HB; have HO200 := n0_; have HO203 := n1_; have HB := n2_; clear n0_ n1_ n2_; (try clear hb); (try clear hb2); (try clear hk); (try clear hi); (try clear ho0); (try clear ho1)) | ((with_reducible refine gate_dst (N := 12) rfl ?_); (try (refine gate_guard (by rfl) ?_; dsimp only)); refine box_event ?hg (N := 12) ?hd (cs := #[.slice none 0 0, .slice none 0 0, .int .i64 0]) (t := 63) ?hr ?_; (case hd => rfl); (case hg => rfl); (case hr => first | (go_simp; done) | (go_simp; rfl)); intro gb206 hg w38 hbox hb; have n0_ := A_ (Kd.V_below (Kd.V_elderB (by (with_reducible repeat (first | apply Kd.V_alloc | apply Kd.V_drewN | apply Kd.V_drew)); exact HO200.out) gb206 (Nat.le_of_eq hg.symm)) hb); have n1_ := A_ (Kd.V_below (Kd.V_elderB (by (with_reducible repeat (first | apply Kd.V_alloc | apply Kd.V_drewN | apply Kd.V_drew)); exact HO203.out) gb206 (Nat.le_of_eq hg.symm)) hb); have n2_ := A_ (below_step bl_ hb); have n3_ := A_ (hbox); have n4_ := A_ ((by rw [hg]; exact (below_size bl_) : w.heap.size ≤ gb206)); have n5_ := A_ ((by rw [hg]; exact (below_size bl_) : w.heap.size ≤ gb206)); clear HO200; clear HO203; clear HB; have HO200 := n0_; have HO203 := n1_; have HB := n2_; have BK206 := n3_; have GW206 := n4_; have GE206 := n5_; clear n0_ n1_ n2_ n3_ n4_ n5_; clear hb hbox hg; obtain ⟨Ao39, co39, eo39⟩ := Kd.V_slice HO200.out; subst eo39; have hcz40_0 : w38.cell? ⟨gb206, 0, none⟩ = some (.slice none 0 0) := (blk_cell BK206.out 0).trans rfl; have hcz40_1 : w38.cell? ⟨gb206, 1, none⟩ = some (.slice none 0 0) := (blk_cell BK206.out 1).trans rfl; have hcz40_2 : w38.cell? ⟨gb206, 2, none⟩ = some (.int .i64 0) := (blk_cell BK206.out 2).trans rfl; have hfz40_0 := blk_frozen BK206.out 0; have hfz40_1 := blk_frozen BK206.out 1; have hfz40_2 := blk_frozen BK206.out 2; obtain ⟨Ao41, co41, eo41⟩ := Kd.V_slice HO203.out; subst eo41) | ((with_reducible refine gate_dst (N := 27) rfl ?_); (try (refine gate_guard (by rfl) ?_; dsimp only)); refine Kd.R_lit (Kd.int .i64) _ 3 ?hg (N := 27) ?hd (xs := ([a3, a4] : List Int)) (inner := [.int .i64 a3, .int .i64 a4]) (ok := fun _ => True) (okp := fun _ => True) ?hr ?hp (fun _ hk => hk) trivial (Below.refl _ _) (Nat.le_refl _) (by simp) ?_; (case hd => rfl); (case hg => rfl); (case hr => first | (go_simp; done) | (go_simp; rfl)); (case hp => exact (Reps.one (show Kd.M (Kd.int .i64) _ _ _ a3 [.int .i64 a3] from rfl) (Reps.one (show Kd.M (Kd.int .i64) _ _ _ a4 [.int .i64 a4] from rfl) (Reps.none _ _)))); intro v208 w42 ho43 hb hg_ hnew_; clear hg_ hnew_; (first | rw [← Ny207.out] at ho43 | (simp only [Int.reduceToNat] at ho43; rw [← Ny207.out] at ho43)); have n0_ := A_ (Kd.V_elder' (by (with_reducible repeat (first | apply Kd.V_alloc | apply Kd.V_drewN | apply Kd.V_drew)); exact (Kd.V_mono (Kd.V_far (p := ⟨gb206, 2, none⟩) (Kd.V_far (p := ⟨gb206, 1, none⟩) (Kd.V_far (p := ⟨gb206, 0, none⟩) (Kd.V_mono HO200.out (fun k_ hk => (⟨hk, hk.2⟩ : _ ∧ k_ ≠ gb206))) (fun _ hk => hk.2) (.slice Ao39 t198.length co39)) (fun _ hk => hk.2) (.slice Ao41 t201.length co41)) (fun _ hk => hk.2) (.int .i64 t204)) (fun _ h_ => h_.1))) (Kd.R_base ho43) hb); have n1_ := A_ (Kd.V_elder' (by (with_reducible repeat (first | apply Kd.V_alloc | apply Kd.V_drewN | apply Kd.V_drew)); exact (Kd.V_mono (Kd.V_far (p := ⟨gb206, 2, none⟩) (Kd.V_far (p := ⟨gb206, 1, none⟩) (Kd.V_far (p := ⟨gb206, 0, none⟩) (Kd.V_mono HO203.out (fun k_ hk => (⟨hk, hk.2⟩ : _ ∧ k_ ≠ gb206))) (fun _ hk => hk.2) (.slice Ao39 t198.length co39)) (fun _ hk => hk.2) (.slice Ao41 t201.length co41)) (fun _ hk => hk.2) (.int .i64 t204)) (fun _ h_ => h_.1))) (Kd.R_base ho43) hb); have n2_ := A_ (Kd.R_lower ho43 (below_size (bs_ GE206.out))); have n3_ := A_ (blk_below (g := gb206) (o := .cells #[.slice Ao39 t198.length co39, .slice Ao41 t201.length co41, .int .i64 t204] 63 (0, 0)) (by (with_reducible repeat (first | refine blk_drewN ?_ _ | refine blk_drew ?_ | refine blk_alloc ?_ _)); refine blk_put (cs := #[.slice Ao39 t198.length co39, .slice Ao41 t201.length co41, .int .i64 0]) ?_ 2 _ rfl; (with_reducible repeat (first | refine blk_drewN ?_ _ | refine blk_drew ?_ | refine blk_alloc ?_ _)); refine blk_put (cs := #[.slice Ao39 t198.length co39, .slice none 0 0, .int .i64 0]) ?_ 1 _ rfl; (with_reducible repeat (first | refine blk_drewN ?_ _ | refine blk_drew ?_ | refine blk_alloc ?_ _)); refine blk_put (cs := #[.slice none 0 0, .slice none 0 0, .int .i64 0]) ?_ 0 _ rfl; (with_reducible repeat (first | refine blk_drewN ?_ _ | refine blk_drew ?_ | refine blk_alloc ?_ _)); exact BK206.out) hb); have n4_ := A_ (below_step (bs_ GE206.out) hb); clear HO200; clear HO203; clear BK206; clear HB; have HO200 := n0_; have HO203 := n1_; have HO209 := n2_; have BK206 := n3_; have HB := n4_; clear n0_ n1_ n2_ n3_ n4_; clear hb ho43; obtain ⟨Ao44, co44, eo44⟩ := Kd.R_slice HO209.out; subst eo44) | (go_at_call 55; (with_reducible refine (impl_areVertices.calls _ _ l0 _ _ y207 false _ ?side1 ?side2 ?side3 ?side4 A8.out).mono ?_); (case side1 => exact kC_ (Kd.C_below HR0.out HB.out)); (case side2 => exact HC0.out); (case side3 => exact kC_ ((Kd.R_reads' HO209.out).2.2)); (case side4 => exact (Kd.R_reads' HO209.out).2.1); rintro e w45 ⟨rfl, hb⟩; have n0_ := A_ (Kd.V_below (by (with_reducible repeat (first | apply Kd.V_alloc | apply Kd.V_drewN | apply Kd.V_drew)); exact HO200.out) hb); have n1_ := A_ (Kd.V_below (by (with_reducible repeat (first | apply Kd.V_alloc | apply Kd.V_drewN | apply Kd.V_drew)); exact HO203.out) hb); have n2_ := A_ (Kd.R_below (kR_ HO209.out) hb); have n3_ := A_ (blk_below (g := gb206) (o := .cells #[.slice Ao39 t198.length co39, .slice Ao41 t201.length co41, .int .i64 t204] 63 (0, 0)) (by (with_reducible repeat (first | refine blk_drewN ?_ _ | refine blk_drew ?_ | refine blk_alloc ?_ _)); exact BK206.out) hb); have n4_ := A_ (below_step (bs_ GE206.out) hb); clear HO200; clear HO203; clear HO209; clear BK206; clear HB; have HO200 := n0_; have HO203 := n1_; have HO209 := n2_; have BK206 := n3_; have HB := n4_; clear n0_ n1_ n2_ n3_ n4_; (try clear hb); (try clear hb2); (try clear hk); (try clear hi)))
   go_ret2
   exact ⟨ew_, bs_ GE206.out⟩
 ·
  replace c7 := Bool.eq_false_iff.mpr c7
  subst c7
  rw [if_neg (show ¬ (false = true) by decide)] at H
  simp only [Option.some.injEq, Prod.mk.injEq] at H
  obtain ⟨rfl, rfl⟩ := H
  go_enter Try.func18, Try.ntmps18
  go_wp2_with (first | ((with_reducible refine gate_callee (f := 54) rfl ?_); refine goesL_ (some 18) rfl rfl Try.func54 kr_ rfl #[.slice A0 l0.length c0, .slice A1 l1.length c1, .int .i64 a2] rfl am_ ?_; (with_reducible refine (impl_planOf.calls k (fun k_ => k_ < w.heap.size) _ _ l0 (fun k_ => k_ < w.heap.size) _ _ l1 a2 t198 t201 t204 false _ ?side1 ?side2 A6.out).mono ?_); (case side1 => exact Kd.V_mk HC0.out (Kd.F_below (Kd.C_F (Kd.heap_slice 3 (Kd.heap_int .i64)) HR0.out) bl_)); (case side2 => exact Kd.V_mk HC1.out (Kd.F_below (Kd.C_F (Kd.heap_int .i64) HR1.out) bl_)); rintro e w46 ⟨v199, v202, rfl, ho0, ho1, hb⟩; refine ⟨_, rfl, ?_⟩; have n0_ := A_ (Kd.V_lower (Kd.V_mono (ok' := fun k_ => True) ho0 (fun k_ hk_ => trivial)) (below_size bl_)); have n1_ := A_ (Kd.V_lower (Kd.V_mono (ok' := fun k_ => True) ho1 (fun k_ hk_ => trivial)) (below_size bl_)); have n2_ := A_ (below_step bl_ hb); clear HB; have HO200 := n0_; have HO203 := n1_; have HB := n2_; clear n0_ n1_ n2_; (try clear hb); (try clear hb2); (try clear hk); (try clear hi); (try clear ho0); (try clear ho1)) | ((with_reducible refine gate_dst (N := 12) rfl ?_); (try (refine gate_guard (by rfl) ?_; dsimp only)); refine box_event ?hg (N := 12) ?hd (cs := #[.slice none 0 0, .slice none 0 0, .int .i64 0]) (t := 63) ?hr ?_; (case hd => rfl); (case hg => rfl); (case hr => first | (go_simp; done) | (go_simp; rfl)); intro gb206 hg w47 hbox hb; have n0_ := A_ (Kd.V_below (Kd.V_elderB (by (with_reducible repeat (first | apply Kd.V_alloc | apply Kd.V_drewN | apply Kd.V_drew)); exact HO200.out) gb206 (Nat.le_of_eq hg.symm)) hb); have n1_ := A_ (Kd.V_below (Kd.V_elderB (by (with_reducible repeat (first | apply Kd.V_alloc | apply Kd.V_drewN | apply Kd.V_drew)); exact HO203.out) gb206 (Nat.le_of_eq hg.symm)) hb); have n2_ := A_ (below_step bl_ hb); have n3_ := A_ (hbox); have n4_ := A_ ((by rw [hg]; exact (below_size bl_) : w.heap.size ≤ gb206)); have n5_ := A_ ((by rw [hg]; exact (below_size bl_) : w.heap.size ≤ gb206)); clear HO200; clear HO203; clear HB; have HO200 := n0_; have HO203 := n1_; have HB := n2_; have BK206 := n3_; have GW206 := n4_; have GE206 := n5_; clear n0_ n1_ n2_ n3_ n4_ n5_; clear hb hbox hg; obtain ⟨Ao48, co48, eo48⟩ := Kd.V_slice HO200.out; subst eo48; have hcz49_0 : w47.cell? ⟨gb206, 0, none⟩ = some (.slice none 0 0) := (blk_cell BK206.out 0).trans rfl; have hcz49_1 : w47.cell? ⟨gb206, 1, none⟩ = some (.slice none 0 0) := (blk_cell BK206.out 1).trans rfl; have hcz49_2 : w47.cell? ⟨gb206, 2, none⟩ = some (.int .i64 0) := (blk_cell BK206.out 2).trans rfl; have hfz49_0 := blk_frozen BK206.out 0; have hfz49_1 := blk_frozen BK206.out 1; have hfz49_2 := blk_frozen BK206.out 2; obtain ⟨Ao50, co50, eo50⟩ := Kd.V_slice HO203.out; subst eo50))
  go_ret2
  exact ⟨ew_, bs_ GE206.out⟩

/-! ### spec_l1Least: function 58 -/
def spec_l1Least.f (a0 : Int) (a1 : Int) : Option (Int) := if a0 < a1 then (some a0) else (some a1)
set_option maxHeartbeats 8000000 in
set_option maxRecDepth 100000 in
theorem spec_l1Least.calls (a0 : Int) (a1 : Int) (r : Int) (w : World) (h : spec_l1Least.f a0 a1 = some r) :
 Calls Try.prog 58 #[.int .i64 a0, .int .i64 a1] w fun e w' => e = .returned (.int .i64 r) ∧ Drawn0 w w' := by
 have H : (if a0 < a1 then (some a0) else (some a1)) = some r := h
 clear h
 by_cases c3 : a0 < a1
 ·
  rw [if_pos c3] at H
  have c3b0 := decide_eq_true c3
  clear c3
  obtain rfl := Option.some.inj H
  go_enter Try.func58, Try.ntmps58
  go_wp2
  go_ret
  exact ⟨es_, by repeat (first | exact Drawn0.refl _ | apply Drawn0.step)⟩
 ·
  rw [if_neg c3] at H
  have c3b0 := decide_eq_false c3
  clear c3
  obtain rfl := Option.some.inj H
  go_enter Try.func58, Try.ntmps58
  go_wp2
  go_ret
  exact ⟨es_, by repeat (first | exact Drawn0.refl _ | apply Drawn0.step)⟩
/-! ### spec_HarmlessDelay: function 21 -/
mutual
def spec_HarmlessDelay.j0 : Nat → List (List Int) → List Int → Int → Int → Bool → Option (Int × Bool)
  | 0, _, _, _, _, _ => none
  | k + 1, x0, x1, x2, x3, x23 => if x23 = true then (some (0, false)) else (spec_HarmlessDelay.l0 k x0 x1 x2 x3 10000 x0 (x0.length : Int) 0)
def spec_HarmlessDelay.l0 : Nat → List (List Int) → List Int → Int → Int → Int → List (List Int) → Int → Int → Option (Int × Bool)
  | 0, _, _, _, _, _, _, _, _ => none
  | k + 1, x0, x1, x2, x3, x10, x24, x25, x26 => if x26 < x25 then (if 0 ≤ x26 then (if x26 < (x24.length : Int) then (if x26 = x3 then (spec_HarmlessDelay.j2 k x0 x1 x2 x3 x10 x26 x24 x25 x26 false) else (if 0 ≤ x3 then (if x3 < ((rd_L1 x24 x26).length : Int) then (spec_HarmlessDelay.j2 k x0 x1 x2 x3 x10 x26 x24 x25 x26 ((rd (rd_L1 x24 x26) x3) != 1000000000)) else (none)) else (none))) else (none)) else (none)) else (some (x10, true))
def spec_HarmlessDelay.j2 : Nat → List (List Int) → List Int → Int → Int → Int → Int → List (List Int) → Int → Int → Bool → Option (Int × Bool)
  | 0, _, _, _, _, _, _, _, _, _, _ => none
  | k + 1, x0, x1, x2, x3, x10, x11, x24, x25, x26, x40 => if x40 = true then ((spec_dlBuffer.f x0 x1 x2 x11 x3).bind fun t247 => ((spec_l1Least.f x10 t247).bind fun t248 => (spec_HarmlessDelay.l0 k x0 x1 x2 x3 t248 x24 x25 (wrap64 (x26 + 1))))) else (spec_HarmlessDelay.l0 k x0 x1 x2 x3 x10 x24 x25 (wrap64 (x26 + 1)))
end
def spec_HarmlessDelay.f (k : Nat) (l0 : List (List Int)) (l1 : List Int) (a2 : Int) (a3 : Int) : Option (Int × Bool) := (spec_dlGood.f k l0 l1 a2).bind fun t243 => (if t243 = true then ((spec_dlTrain.f l0 a3).bind fun t244 => (spec_HarmlessDelay.j0 k l0 l1 a2 a3 (!t244))) else (spec_HarmlessDelay.j0 k l0 l1 a2 a3 true))
theorem spec_HarmlessDelay.mono_l : ∀ k, (∀ y0 y1 y2 y3 y4, LeO (spec_HarmlessDelay.j0 k y0 y1 y2 y3 y4) (spec_HarmlessDelay.j0 (k + 1) y0 y1 y2 y3 y4)) ∧ (∀ y0 y1 y2 y3 y4 y5 y6 y7, LeO (spec_HarmlessDelay.l0 k y0 y1 y2 y3 y4 y5 y6 y7) (spec_HarmlessDelay.l0 (k + 1) y0 y1 y2 y3 y4 y5 y6 y7)) ∧ (∀ y0 y1 y2 y3 y4 y5 y6 y7 y8 y9, LeO (spec_HarmlessDelay.j2 k y0 y1 y2 y3 y4 y5 y6 y7 y8 y9) (spec_HarmlessDelay.j2 (k + 1) y0 y1 y2 y3 y4 y5 y6 y7 y8 y9))
  | 0 => ⟨fun _ _ _ _ _ r h => by simp [spec_HarmlessDelay.j0] at h, fun _ _ _ _ _ _ _ _ r h => by simp [spec_HarmlessDelay.l0] at h, fun _ _ _ _ _ _ _ _ _ _ r h => by simp [spec_HarmlessDelay.j2] at h⟩
  | k + 1 => by
    obtain ⟨ih0, ih1, ih2⟩ := spec_HarmlessDelay.mono_l k
    refine ⟨?_, ?_, ?_⟩
    all_goals (intros; first | unfold spec_HarmlessDelay.j0 | unfold spec_HarmlessDelay.l0 | unfold spec_HarmlessDelay.j2)
    all_goals (repeat' first | (with_reducible first | exact ih0 _ _ _ _ _ | exact ih1 _ _ _ _ _ _ _ _ | exact ih2 _ _ _ _ _ _ _ _ _ _ | exact spec_dlGood.mono _ _ _ _ | exact LeO.refl _ | exact LeO.none _ | refine LeO.ite ?_ ?_ | refine LeO.bind ?_ (fun _ => ?_)) | exact ih0 _ _ _ _ _ | exact ih1 _ _ _ _ _ _ _ _ | exact ih2 _ _ _ _ _ _ _ _ _ _ | exact spec_dlGood.mono _ _ _ _ | exact LeO.none _ | refine LeO.ite ?_ ?_ | refine LeO.bind ?_ (fun _ => ?_))
theorem spec_HarmlessDelay.mono : ∀ a0 a1 a2 a3 k, LeO (spec_HarmlessDelay.f k a0 a1 a2 a3) (spec_HarmlessDelay.f (k + 1) a0 a1 a2 a3) := by
 intro a0 a1 a2 a3 k
 obtain ⟨ih0, ih1, ih2⟩ := spec_HarmlessDelay.mono_l k
 unfold spec_HarmlessDelay.f
 repeat' first | (with_reducible first | exact ih0 _ _ _ _ _ | exact ih1 _ _ _ _ _ _ _ _ | exact ih2 _ _ _ _ _ _ _ _ _ _ | exact spec_dlGood.mono _ _ _ _ | exact LeO.refl _ | exact LeO.none _ | refine LeO.ite ?_ ?_ | refine LeO.bind ?_ (fun _ => ?_)) | exact ih0 _ _ _ _ _ | exact ih1 _ _ _ _ _ _ _ _ | exact ih2 _ _ _ _ _ _ _ _ _ _ | exact spec_dlGood.mono _ _ _ _ | exact LeO.none _ | refine LeO.ite ?_ ?_ | refine LeO.bind ?_ (fun _ => ?_)
set_option maxHeartbeats 8000000 in
set_option maxRecDepth 100000 in
theorem spec_HarmlessDelay.calls (k : Nat) (A0 : Option Addr) (c0 : Nat) (l0 : List (List Int)) (A1 : Option Addr) (c1 : Nat) (l1 : List Int) (a2 : Int) (a3 : Int) (r1 : Int) (r2 : Bool) (w : World) (hr0 : Kd.C (Kd.slice 3 (Kd.int .i64)) w A0 l0.length l0) (hc0 : l0.length ≤ c0) (hr1 : Kd.C (Kd.int .i64) w A1 l1.length l1) (hc1 : l1.length ≤ c1) (h : spec_HarmlessDelay.f k l0 l1 a2 a3 = some (r1, r2)) :
 Calls Try.prog 21 #[.slice A0 l0.length c0, .slice A1 l1.length c1, .int .i64 a2, .int .i64 a3] w fun e w' => e = .returned (.tuple #[.int .i64 r1, .bool r2]) ∧ Drawn0 w w' := by
 have HR0 := A_ hr0
 have HC0 := A_ hc0
 clear hr0 hc0
 have HR1 := A_ hr1
 have HC1 := A_ hc1
 clear hr1 hc1
 have H : ((spec_dlGood.f k l0 l1 a2).bind fun t243 => (if t243 = true then ((spec_dlTrain.f l0 a3).bind fun t244 => (spec_HarmlessDelay.j0 k l0 l1 a2 a3 (!t244))) else (spec_HarmlessDelay.j0 k l0 l1 a2 a3 true))) = some (r1, r2) := h
 clear h
 have HC5 := A_ H
 clear H
 go_enter Try.func21, Try.ntmps21
 go_upto_region 1 with (fail)
 go_cut [23] (fun v23 wc => ∃ (kq : Nat) (x23_4 : Bool), v23 = .bool x23_4 ∧ Aside0 (spec_HarmlessDelay.j0 kq l0 l1 a2 a3 x23_4 = some (r1, r2)) ∧ Aside0 (kq ≤ k) ∧ Drawn0 w wc)
 case first =>
  have H := HC5.out
  clear HC5
  obtain ⟨t243, A60, H⟩ := Option.bind_eq_some_iff.mp H
  try dsimp only at H
  have A6 := A_ A60; clear A60
  by_cases c7 : t243 = true
  ·
   subst c7
   rw [if_pos rfl] at H
   obtain ⟨t244, A80, H⟩ := Option.bind_eq_some_iff.mp H
   try dsimp only at H
   have A8 := A_ A80; clear A80
   have H' := A_ H; clear H
   go_wp2_with (first | ((with_reducible refine gate_callee (f := 51) rfl ?_); refine goesL_ (some 16) rfl rfl Try.func51 kr_ rfl #[.slice A0 l0.length c0, .slice A1 l1.length c1, .int .i64 a2] rfl am_ ?_; (with_reducible refine (spec_dlGood.calls k _ _ l0 _ _ l1 a2 true _ ?side1 ?side2 ?side3 ?side4 A6.out).mono ?_); (case side1 => exact kC_ HR0.out); (case side2 => exact HC0.out); (case side3 => exact kC_ HR1.out); (case side4 => exact HC1.out); rintro e w' ⟨rfl, ⟨nd, rfl⟩⟩; refine ⟨_, rfl, ?_⟩) | (go_at_call 52; (with_reducible refine (spec_dlTrain.calls _ _ l0 a3 t244 _ ?side1 ?side2 A8.out).mono ?_); (case side1 => exact kC_ HR0.out); (case side2 => exact HC0.out); rintro e w' ⟨rfl, ⟨nd, rfl⟩⟩))
   go_meet
   case rel => exact ⟨_, (!t244), es_, H', ⟨by first | omega | exact Nat.le_refl _⟩, by repeat (first | exact Drawn0.refl _ | apply Drawn0.step)⟩
  ·
   replace c7 := Bool.eq_false_iff.mpr c7
   subst c7
   rw [if_neg (show ¬ (false = true) by decide)] at H
   have H' := A_ H; clear H
   go_wp2_with (first | ((with_reducible refine gate_callee (f := 51) rfl ?_); refine goesL_ (some 16) rfl rfl Try.func51 kr_ rfl #[.slice A0 l0.length c0, .slice A1 l1.length c1, .int .i64 a2] rfl am_ ?_; (with_reducible refine (spec_dlGood.calls k _ _ l0 _ _ l1 a2 false _ ?side1 ?side2 ?side3 ?side4 A6.out).mono ?_); (case side1 => exact kC_ HR0.out); (case side2 => exact HC0.out); (case side3 => exact kC_ HR1.out); (case side4 => exact HC1.out); rintro e w' ⟨rfl, ⟨nd, rfl⟩⟩; refine ⟨_, rfl, ?_⟩))
   go_meet
   case rel => exact ⟨_, (true), es_, H', ⟨by first | omega | exact Nat.le_refl _⟩, by repeat (first | exact Drawn0.refl _ | apply Drawn0.step)⟩
 case rest =>
  clear HC5
  (try clear c1); (try clear c2); (try clear p2); (try clear c5); (try clear c7)
  obtain ⟨kq, x23_4, rfl, HA, HJ4, ⟨mc4, rfl⟩⟩ := hcut
  cases kq with
  | zero => exact absurd HA.out (by simp [spec_HarmlessDelay.j0])
  | succ kj4 =>
   have H := HA.out
   clear HA
   simp only [spec_HarmlessDelay.j0] at H
   by_cases c9 : x23_4 = true
   ·
    subst c9
    rw [if_pos rfl] at H
    simp only [Option.some.injEq, Prod.mk.injEq] at H
    obtain ⟨rfl, rfl⟩ := H
    go_wp2
    go_ret2
    exact ⟨es_, by repeat (first | exact Drawn0.refl _ | apply Drawn0.step)⟩
   ·
    replace c9 := Bool.eq_false_iff.mpr c9
    subst c9
    rw [if_neg (show ¬ (false = true) by decide)] at H
    have H' := A_ H; clear H
    go_wp2
    go_loopg [10, 26] kj4 (fun kq v10 v26 w' => ∃ (x10_2 : Int) (x26_2 : Int), v10 = .int .i64 x10_2 ∧ v26 = .int .i64 x26_2 ∧ Aside0 (spec_HarmlessDelay.l0 kq l0 l1 a2 a3 x10_2 l0 (l0.length : Int) x26_2 = some (r1, r2)) ∧ Aside0 (kq ≤ kj4) ∧ Drawn0 w w')
    case atStart => exact ⟨(10000), (0), es_, es_, H', ⟨Nat.le_refl _⟩, by repeat (first | exact Drawn0.refl _ | apply Drawn0.step)⟩
    case round =>
     clear H'
     (try clear c1); (try clear c2); (try clear p2); (try clear c4); (try clear c5); (try clear c7); (try clear c9); (try clear p2)
     obtain ⟨x10_2, x26_2, rfl, rfl, HA, HK2, ⟨m2, rfl⟩⟩ := hrel
     cases gk with
     | zero => exact absurd HA.out (by simp [spec_HarmlessDelay.l0])
     | succ k2 =>
      have H := HA.out
      clear HA
      simp only [spec_HarmlessDelay.l0] at H
      by_cases c10 : x26_2 < (l0.length : Int)
      ·
       rw [if_pos c10] at H
       have c10b0 := decide_eq_true c10
       clear c10
       by_cases c11 : 0 ≤ x26_2
       ·
        rw [if_pos c11] at H
        have c11b0 := decide_eq_true c11
        clear c11
        by_cases c12 : x26_2 < (l0.length : Int)
        ·
         rw [if_pos c12] at H
         have c12b0 := decide_eq_true c12
         clear c12
         have HC13 := A_ H
         clear H
         have p245 : 0 ≤ (x26_2 : Int) := od_
         have q245 : x26_2 < (l0.length : Int) := od_
         obtain ⟨ad245, A245_0, c245_0, e245, hx245_0, hl245_0, hi245_0⟩ := at_L1 HR0.out x26_2 p245 q245
         cases e245
         have HR245_0 := A_ hi245_0
         have HC245_0 := A_ hl245_0
         clear hi245_0 hl245_0
         replace p245 := eq_true p245
         replace q245 := eq_true q245
         go_upto_region 7 with (fail)
         go_cut [40] (fun v40 wc => ∃ (kq : Nat) (x40_12 : Bool), v40 = .bool x40_12 ∧ Aside0 (spec_HarmlessDelay.j2 kq l0 l1 a2 a3 x10_2 x26_2 l0 (l0.length : Int) x26_2 x40_12 = some (r1, r2)) ∧ Aside0 (kq ≤ k2) ∧ Drawn0 w wc)
         case first =>
          have H := HC13.out
          clear HC13
          by_cases c14 : x26_2 = a3
          ·
           rw [if_pos c14] at H
           have c14b0 : (x26_2 == a3) = true := beq_iff_eq.mpr c14
           have c14b1 : (x26_2 != a3) = false := bne_eq_false_iff_eq.mpr c14
           clear c14
           (first | rw [c14b0] | (simp only [i64_w, i32_w]; rw [c14b0]) | skip)
           have H' := A_ H; clear H
           go_wp2
           go_meet
           case rel => exact ⟨_, (false), es_, H', ⟨by have := HJ4.out; have := HK2.out; first | omega | exact Nat.le_refl _⟩, by repeat (first | exact Drawn0.refl _ | apply Drawn0.step)⟩
          ·
           rw [if_neg c14] at H
           have c14b0 : (x26_2 == a3) = false := beq_eq_false_iff_ne.mpr c14
           have c14b1 : (x26_2 != a3) = true := bne_iff_ne.mpr c14
           (first | rw [c14b0] | (simp only [i64_w, i32_w]; rw [c14b0]) | skip)
           by_cases c15 : 0 ≤ a3
           ·
            rw [if_pos c15] at H
            have c15b0 := decide_eq_true c15
            clear c15
            by_cases c16 : a3 < ((rd_L1 l0 x26_2).length : Int)
            ·
             rw [if_pos c16] at H
             have c16b0 := decide_eq_true c16
             clear c16
             have H' := A_ H; clear H
             have p246 : 0 ≤ (a3 : Int) := od_
             have q246 : a3 < ((rd_L1 l0 x26_2).length : Int) := od_
             obtain ⟨ad246, e246, hx246_0⟩ := Kd.at_int HR245_0.out a3 p246 q246
             cases e246
             replace p246 := eq_true p246
             replace q246 := eq_true q246
             go_wp2
             go_meet
             case rel => exact ⟨_, (((rd (rd_L1 l0 x26_2) a3) != 1000000000)), es_, H', ⟨by have := HJ4.out; have := HK2.out; first | omega | exact Nat.le_refl _⟩, by repeat (first | exact Drawn0.refl _ | apply Drawn0.step)⟩
            ·
             rw [if_neg c16] at H; cases H
           ·
            rw [if_neg c15] at H; cases H
         case rest =>
          clear HC13
          (try clear c1); (try clear c2); (try clear p2); (try clear q2); (try clear hx2); (try clear c4); (try clear c5); (try clear c7); (try clear c9); (try clear c10); (try clear c10b0); (try clear c11); (try clear c11b0); (try clear c12); (try clear c12b0); (try clear c14); (try clear c14b0); (try clear c14b1); (try clear c15); (try clear c15b0); (try clear c16); (try clear c16b0); (try clear hx245_0); (try clear hx246_0); (try clear p2); (try clear p245); (try clear p246); (try clear q245); (try clear q246)
          obtain ⟨kq, x40_12, rfl, HA, HJ12, ⟨mc12, rfl⟩⟩ := hcut
          cases kq with
          | zero => exact absurd HA.out (by simp [spec_HarmlessDelay.j2])
          | succ kj12 =>
           have H := HA.out
           clear HA
           simp only [spec_HarmlessDelay.j2] at H
           by_cases c17 : x40_12 = true
           ·
            subst c17
            rw [if_pos rfl] at H
            obtain ⟨t247, A180, H⟩ := Option.bind_eq_some_iff.mp H
            try dsimp only at H
            have A18 := A_ A180; clear A180
            obtain ⟨t248, A190, H⟩ := Option.bind_eq_some_iff.mp H
            try dsimp only at H
            have A19 := A_ A190; clear A190
            have H' := A_ H; clear H
            go_wp2_with (first | ((with_reducible refine gate_callee (f := 53) rfl ?_); refine goesL_ (some 47) rfl rfl Try.func53 kr_ rfl #[.slice (some ad245) l0.length c0, .slice A1 l1.length c1, .int .i64 a2, .int .i64 x26_2, .int .i64 a3] rfl am_ ?_; (with_reducible refine (spec_dlBuffer.calls _ _ l0 _ _ l1 a2 x26_2 a3 t247 _ ?side1 ?side2 ?side3 ?side4 A18.out).mono ?_); (case side1 => exact kC_ HR0.out); (case side2 => exact HC0.out); (case side3 => exact kC_ HR1.out); (case side4 => exact HC1.out); rintro e w' ⟨rfl, ⟨nd, rfl⟩⟩; refine ⟨_, rfl, ?_⟩) | ((with_reducible refine gate_callee (f := 58) rfl ?_); refine goesL_ (some 48) rfl rfl Try.func58 kr_ rfl #[.int .i64 x10_2, .int .i64 t247] rfl am_ ?_; (with_reducible refine (spec_l1Least.calls x10_2 t247 t248 _ A19.out).mono ?_); rintro e w' ⟨rfl, ⟨nd, rfl⟩⟩; refine ⟨_, rfl, ?_⟩))
            go_roundg kj12
            case measure => have := HJ4.out; have := HK2.out; have := HJ12.out; omega
            case rel => exact ⟨(t248), (wrap64 (x26_2 + 1)), es_, es_, H', ⟨by have := HJ4.out; have := HK2.out; have := HJ12.out; omega⟩, by repeat (first | exact Drawn0.refl _ | apply Drawn0.step)⟩
           ·
            replace c17 := Bool.eq_false_iff.mpr c17
            subst c17
            rw [if_neg (show ¬ (false = true) by decide)] at H
            have H' := A_ H; clear H
            go_wp2
            go_roundg kj12
            case measure => have := HJ4.out; have := HK2.out; have := HJ12.out; omega
            case rel => exact ⟨(x10_2), (wrap64 (x26_2 + 1)), es_, es_, H', ⟨by have := HJ4.out; have := HK2.out; have := HJ12.out; omega⟩, by repeat (first | exact Drawn0.refl _ | apply Drawn0.step)⟩
        ·
         rw [if_neg c12] at H; cases H
       ·
        rw [if_neg c11] at H; cases H
      ·
       rw [if_neg c10] at H
       have c10b0 := decide_eq_false c10
       clear c10
       simp only [Option.some.injEq, Prod.mk.injEq] at H
       obtain ⟨rfl, rfl⟩ := H
       go_wp2
       go_ret2
       exact ⟨es_, by repeat (first | exact Drawn0.refl _ | apply Drawn0.step)⟩

/-! ### impl_HarmlessDelay: function 22 -/
mutual
def impl_HarmlessDelay.j0 : Nat → List (List Int) → Int → Bool → List (List Int) → List Int → Int → Option (Int × Bool)
  | 0, _, _, _, _, _, _ => none
  | k + 1, x0, x3, x29, x258000, x258001, x258002 => if x29 = true then (some (0, false)) else (impl_HarmlessDelay.l0 k x3 10000 (x0.length : Int) 0 x258000 x258001 x258002)
def impl_HarmlessDelay.l0 : Nat → Int → Int → Int → Int → List (List Int) → List Int → Int → Option (Int × Bool)
  | 0, _, _, _, _, _, _, _ => none
  | k + 1, x3, x12, x31, x32, x258000, x258001, x258002 => if x32 < x31 then (if x32 = x3 then (impl_HarmlessDelay.l0 k x3 x12 x31 (wrap64 (x32 + 1)) x258000 x258001 x258002) else ((impl_plan_waits.f x258000 x258001 x258002 x32 x3).bind fun t262 => (if t262 = true then ((impl_plan_buffer.f x258000 x258001 x258002 x32 x3).bind fun t263 => (impl_HarmlessDelay.l0 k x3 (mn x12 t263) x31 (wrap64 (x32 + 1)) x258000 x258001 x258002)) else (impl_HarmlessDelay.l0 k x3 x12 x31 (wrap64 (x32 + 1)) x258000 x258001 x258002)))) else (some (x12, true))
end
def impl_HarmlessDelay.f (k : Nat) (l0 : List (List Int)) (l1 : List Int) (a2 : Int) (a3 : Int) : Option (Int × Bool) := (impl_planOf.f k l0 l1 a2).bind fun bt249 => (if bt249.2.2.2 = true then ((impl_areVertices.f l0 (([a3] : List Int))).bind fun t261 => (impl_HarmlessDelay.j0 k l0 a3 (!t261) bt249.1 bt249.2.1 bt249.2.2.1)) else (impl_HarmlessDelay.j0 k l0 a3 true bt249.1 bt249.2.1 bt249.2.2.1))
theorem impl_HarmlessDelay.mono_l : ∀ k, (∀ y0 y1 y2 y3 y4 y5, LeO (impl_HarmlessDelay.j0 k y0 y1 y2 y3 y4 y5) (impl_HarmlessDelay.j0 (k + 1) y0 y1 y2 y3 y4 y5)) ∧ (∀ y0 y1 y2 y3 y4 y5 y6, LeO (impl_HarmlessDelay.l0 k y0 y1 y2 y3 y4 y5 y6) (impl_HarmlessDelay.l0 (k + 1) y0 y1 y2 y3 y4 y5 y6))
  | 0 => ⟨fun _ _ _ _ _ _ r h => by simp [impl_HarmlessDelay.j0] at h, fun _ _ _ _ _ _ _ r h => by simp [impl_HarmlessDelay.l0] at h⟩
  | k + 1 => by
    obtain ⟨ih0, ih1⟩ := impl_HarmlessDelay.mono_l k
    refine ⟨?_, ?_⟩
    all_goals (intros; first | unfold impl_HarmlessDelay.j0 | unfold impl_HarmlessDelay.l0)
    all_goals (repeat' first | (with_reducible first | exact ih0 _ _ _ _ _ _ | exact ih1 _ _ _ _ _ _ _ | exact impl_planOf.mono _ _ _ _ | exact LeO.refl _ | exact LeO.none _ | refine LeO.ite ?_ ?_ | refine LeO.bind ?_ (fun _ => ?_)) | exact ih0 _ _ _ _ _ _ | exact ih1 _ _ _ _ _ _ _ | exact impl_planOf.mono _ _ _ _ | exact LeO.none _ | refine LeO.ite ?_ ?_ | refine LeO.bind ?_ (fun _ => ?_))
theorem impl_HarmlessDelay.mono : ∀ a0 a1 a2 a3 k, LeO (impl_HarmlessDelay.f k a0 a1 a2 a3) (impl_HarmlessDelay.f (k + 1) a0 a1 a2 a3) := by
 intro a0 a1 a2 a3 k
 obtain ⟨ih0, ih1⟩ := impl_HarmlessDelay.mono_l k
 unfold impl_HarmlessDelay.f
 repeat' first | (with_reducible first | exact ih0 _ _ _ _ _ _ | exact ih1 _ _ _ _ _ _ _ | exact impl_planOf.mono _ _ _ _ | exact LeO.refl _ | exact LeO.none _ | refine LeO.ite ?_ ?_ | refine LeO.bind ?_ (fun _ => ?_)) | exact ih0 _ _ _ _ _ _ | exact ih1 _ _ _ _ _ _ _ | exact impl_planOf.mono _ _ _ _ | exact LeO.none _ | refine LeO.ite ?_ ?_ | refine LeO.bind ?_ (fun _ => ?_)
set_option maxHeartbeats 8000000 in
set_option maxRecDepth 100000 in
theorem impl_HarmlessDelay.calls (k : Nat) (A0 : Option Addr) (c0 : Nat) (l0 : List (List Int)) (A1 : Option Addr) (c1 : Nat) (l1 : List Int) (a2 : Int) (a3 : Int) (r1 : Int) (r2 : Bool) (w : World) (hr0 : Kd.C (Kd.slice 3 (Kd.int .i64)) w A0 l0.length l0) (hc0 : l0.length ≤ c0) (hr1 : Kd.C (Kd.int .i64) w A1 l1.length l1) (hc1 : l1.length ≤ c1) (h : impl_HarmlessDelay.f k l0 l1 a2 a3 = some (r1, r2)) :
 Calls Try.prog 22 #[.slice A0 l0.length c0, .slice A1 l1.length c1, .int .i64 a2, .int .i64 a3] w fun e w' => e = .returned (.tuple #[.int .i64 r1, .bool r2]) ∧ Below w.heap.size w w' := by
 have hu63 := Try.underlying63
 have HR0 := A_ hr0
 have HC0 := A_ hc0
 clear hr0 hc0
 have HR1 := A_ hr1
 have HC1 := A_ hc1
 clear hr1 hc1
 have HB := A_ (Below.refl w.heap.size w)
 have H : ((impl_planOf.f k l0 l1 a2).bind fun bt249 => (if bt249.2.2.2 = true then ((impl_areVertices.f l0 (([a3] : List Int))).bind fun t261 => (impl_HarmlessDelay.j0 k l0 a3 (!t261) bt249.1 bt249.2.1 bt249.2.2.1)) else (impl_HarmlessDelay.j0 k l0 a3 true bt249.1 bt249.2.1 bt249.2.2.1))) = some (r1, r2) := h
 clear h
 obtain ⟨⟨t249, t252, t255, t256⟩, A50, H⟩ := Option.bind_eq_some_iff.mp H
 try dsimp only at H
 have A5 := A_ A50; clear A50
 have HC6 := A_ H
 clear H
 go_enter Try.func22, Try.ntmps22
 go_upto_region 2 with (first | ((with_reducible refine gate_callee (f := 54) rfl ?_); refine goesL_ (some 18) rfl rfl Try.func54 kr_ rfl #[.slice A0 l0.length c0, .slice A1 l1.length c1, .int .i64 a2] rfl am_ ?_; (with_reducible refine (impl_planOf.calls k (fun k_ => k_ < w.heap.size) _ _ l0 (fun k_ => k_ < w.heap.size) _ _ l1 a2 t249 t252 t255 t256 _ ?side1 ?side2 A5.out).mono ?_); (case side1 => exact Kd.V_mk HC0.out (Kd.F_below (Kd.C_F (Kd.heap_slice 3 (Kd.heap_int .i64)) HR0.out) bl_)); (case side2 => exact Kd.V_mk HC1.out (Kd.F_below (Kd.C_F (Kd.heap_int .i64) HR1.out) bl_)); rintro e w7 ⟨v250, v253, rfl, ho0, ho1, hb⟩; refine ⟨_, rfl, ?_⟩; have n0_ := A_ (Kd.V_lower (Kd.V_mono (ok' := fun k_ => True) ho0 (fun k_ hk_ => trivial)) (below_size bl_)); have n1_ := A_ (Kd.V_lower (Kd.V_mono (ok' := fun k_ => True) ho1 (fun k_ hk_ => trivial)) (below_size bl_)); have n2_ := A_ (below_step bl_ hb); clear HB; have HO251 := n0_; have HO254 := n1_; have HB := n2_; clear n0_ n1_ n2_; (try clear hb); (try clear hb2); (try clear hk); (try clear hi); (try clear ho0); (try clear ho1)) | ((with_reducible refine gate_dst (N := 10) rfl ?_); (try (refine gate_guard (by rfl) ?_; dsimp only)); refine box_event ?hg (N := 10) ?hd (cs := #[.slice none 0 0, .slice none 0 0, .int .i64 0]) (t := 63) ?hr ?_; (case hd => rfl); (case hg => rfl); (case hr => first | (go_simp; done) | (go_simp; rfl)); intro gb257 hg w8 hbox hb; have n0_ := A_ (Kd.V_below (Kd.V_elderB (by (with_reducible repeat (first | apply Kd.V_alloc | apply Kd.V_drewN | apply Kd.V_drew)); exact HO251.out) gb257 (Nat.le_of_eq hg.symm)) hb); have n1_ := A_ (Kd.V_below (Kd.V_elderB (by (with_reducible repeat (first | apply Kd.V_alloc | apply Kd.V_drewN | apply Kd.V_drew)); exact HO254.out) gb257 (Nat.le_of_eq hg.symm)) hb); have n2_ := A_ (below_step bl_ hb); have n3_ := A_ (hbox); have n4_ := A_ ((by rw [hg]; exact (below_size bl_) : w.heap.size ≤ gb257)); have n5_ := A_ ((by rw [hg]; exact (below_size bl_) : w.heap.size ≤ gb257)); clear HO251; clear HO254; clear HB; have HO251 := n0_; have HO254 := n1_; have HB := n2_; have BK257 := n3_; have GW257 := n4_; have GE257 := n5_; clear n0_ n1_ n2_ n3_ n4_ n5_; clear hb hbox hg; obtain ⟨Ao9, co9, eo9⟩ := Kd.V_slice HO251.out; subst eo9; have hcz10_0 : w8.cell? ⟨gb257, 0, none⟩ = some (.slice none 0 0) := (blk_cell BK257.out 0).trans rfl; have hcz10_1 : w8.cell? ⟨gb257, 1, none⟩ = some (.slice none 0 0) := (blk_cell BK257.out 1).trans rfl; have hcz10_2 : w8.cell? ⟨gb257, 2, none⟩ = some (.int .i64 0) := (blk_cell BK257.out 2).trans rfl; have hfz10_0 := blk_frozen BK257.out 0; have hfz10_1 := blk_frozen BK257.out 1; have hfz10_2 := blk_frozen BK257.out 2; obtain ⟨Ao11, co11, eo11⟩ := Kd.V_slice HO254.out; subst eo11))
 (try simp only [Act.put, List.setIfInBounds_toArray, List.set_cons_zero, List.set_cons_succ])
 go_cut [29] (fun v29 wc => ∃ (kq : Nat) (x29_5 : Bool), v29 = .bool x29_5 ∧ Aside0 (impl_HarmlessDelay.j0 kq l0 a3 x29_5 t249 t252 t255 = some (r1, r2)) ∧ Aside0 (kq ≤ k) ∧ Aside0 (Kd.V (Kd.slice 3 (Kd.int .i64)) 23 wc w.heap.size (fun k_ => k_ ≠ gb257) (.slice Ao9 t249.length co9) t249) ∧ Aside0 (Kd.V (Kd.int .i64) 3 wc w.heap.size (fun k_ => k_ ≠ gb257) (.slice Ao11 t252.length co11) t252) ∧ Aside0 (wc.heap[gb257]? = some (.cells #[(.slice Ao9 t249.length co9), (.slice Ao11 t252.length co11), .int .i64 t255] 63 (0, 0))) ∧ Aside0 (Below w.heap.size w wc))
 case first =>
  have H := HC6.out
  clear HC6
  by_cases c12 : t256 = true
  ·
   subst c12
   rw [if_pos rfl] at H
   obtain ⟨y258, hy258⟩ : ∃ y_ : List Int, y_ = (([a3] : List Int)) := ⟨_, rfl⟩
   replace H : ((impl_areVertices.f l0 y258).bind fun t261 => (impl_HarmlessDelay.j0 k l0 a3 (!t261) t249 t252 t255)) = some (r1, r2) := by first | (rw [hy258]; with_reducible exact H) | (have H2_ := (Option.bind_some _ _).symm.trans H; rw [hy258]; with_reducible exact H2_) | (have H2_ := (Option.bind_some _ _).symm.trans H; with_reducible exact H2_) | with_reducible exact H | (rw [hy258]; exact H) | exact H
   have Ny258 := A_ hy258
   clear hy258
   obtain ⟨t261, A130, H⟩ := Option.bind_eq_some_iff.mp H
   try dsimp only at H
   have A13 := A_ A130; clear A130
   have H' := A_ H; clear H
   go_wp2_with (first | ((with_reducible refine gate_dst (N := 26) rfl ?_); (try (refine gate_guard (by rfl) ?_; dsimp only)); refine Kd.R_lit (Kd.int .i64) _ 3 ?hg (N := 26) ?hd (xs := ([a3] : List Int)) (inner := [.int .i64 a3]) (ok := fun _ => True) (okp := fun _ => True) ?hr ?hp (fun _ hk => hk) trivial (Below.refl _ _) (Nat.le_refl _) (by simp) ?_; (case hd => rfl); (case hg => rfl); (case hr => first | (go_simp; done) | (go_simp; rfl)); (case hp => exact (Reps.one (show Kd.M (Kd.int .i64) _ _ _ a3 [.int .i64 a3] from rfl) (Reps.none _ _))); intro v259 w14 ho15 hb hg_ hnew_; clear hg_ hnew_; (first | rw [← Ny258.out] at ho15 | (simp only [Int.reduceToNat] at ho15; rw [← Ny258.out] at ho15)); have n0_ := A_ (Kd.V_elder' (by (with_reducible repeat (first | apply Kd.V_alloc | apply Kd.V_drewN | apply Kd.V_drew)); exact (Kd.V_mono (Kd.V_far (p := ⟨gb257, 2, none⟩) (Kd.V_far (p := ⟨gb257, 1, none⟩) (Kd.V_far (p := ⟨gb257, 0, none⟩) (Kd.V_mono HO251.out (fun k_ hk => (⟨hk, hk.2⟩ : _ ∧ k_ ≠ gb257))) (fun _ hk => hk.2) (.slice Ao9 t249.length co9)) (fun _ hk => hk.2) (.slice Ao11 t252.length co11)) (fun _ hk => hk.2) (.int .i64 t255)) (fun _ h_ => h_.1))) (Kd.R_base ho15) hb); have n1_ := A_ (Kd.V_elder' (by (with_reducible repeat (first | apply Kd.V_alloc | apply Kd.V_drewN | apply Kd.V_drew)); exact (Kd.V_mono (Kd.V_far (p := ⟨gb257, 2, none⟩) (Kd.V_far (p := ⟨gb257, 1, none⟩) (Kd.V_far (p := ⟨gb257, 0, none⟩) (Kd.V_mono HO254.out (fun k_ hk => (⟨hk, hk.2⟩ : _ ∧ k_ ≠ gb257))) (fun _ hk => hk.2) (.slice Ao9 t249.length co9)) (fun _ hk => hk.2) (.slice Ao11 t252.length co11)) (fun _ hk => hk.2) (.int .i64 t255)) (fun _ h_ => h_.1))) (Kd.R_base ho15) hb); have n2_ := A_ (Kd.R_lower ho15 (below_size (bs_ GE257.out))); have n3_ := A_ (blk_below (g := gb257) (o := .cells #[.slice Ao9 t249.length co9, .slice Ao11 t252.length co11, .int .i64 t255] 63 (0, 0)) (by (with_reducible repeat (first | refine blk_drewN ?_ _ | refine blk_drew ?_ | refine blk_alloc ?_ _)); refine blk_put (cs := #[.slice Ao9 t249.length co9, .slice Ao11 t252.length co11, .int .i64 0]) ?_ 2 _ rfl; (with_reducible repeat (first | refine blk_drewN ?_ _ | refine blk_drew ?_ | refine blk_alloc ?_ _)); refine blk_put (cs := #[.slice Ao9 t249.length co9, .slice none 0 0, .int .i64 0]) ?_ 1 _ rfl; (with_reducible repeat (first | refine blk_drewN ?_ _ | refine blk_drew ?_ | refine blk_alloc ?_ _)); refine blk_put (cs := #[.slice none 0 0, .slice none 0 0, .int .i64 0]) ?_ 0 _ rfl; (with_reducible repeat (first | refine blk_drewN ?_ _ | refine blk_drew ?_ | refine blk_alloc ?_ _)); exact BK257.out) hb); have n4_ := A_ (below_step (bs_ GE257.out) hb); clear HO251; clear HO254; clear BK257; clear HB; have HO251 := n0_; have HO254 := n1_; have HO260 := n2_; have BK257 := n3_; have HB := n4_; clear n0_ n1_ n2_ n3_ n4_; clear hb ho15; obtain ⟨Ao16, co16, eo16⟩ := Kd.R_slice HO260.out; subst eo16) | (go_at_call 55; (with_reducible refine (impl_areVertices.calls _ _ l0 _ _ y258 t261 _ ?side1 ?side2 ?side3 ?side4 A13.out).mono ?_); (case side1 => exact kC_ (Kd.C_below HR0.out HB.out)); (case side2 => exact HC0.out); (case side3 => exact kC_ ((Kd.R_reads' HO260.out).2.2)); (case side4 => exact (Kd.R_reads' HO260.out).2.1); rintro e w17 ⟨rfl, hb⟩; have n0_ := A_ (Kd.V_below (by (with_reducible repeat (first | apply Kd.V_alloc | apply Kd.V_drewN | apply Kd.V_drew)); exact HO251.out) hb); have n1_ := A_ (Kd.V_below (by (with_reducible repeat (first | apply Kd.V_alloc | apply Kd.V_drewN | apply Kd.V_drew)); exact HO254.out) hb); have n2_ := A_ (Kd.R_below (kR_ HO260.out) hb); have n3_ := A_ (blk_below (g := gb257) (o := .cells #[.slice Ao9 t249.length co9, .slice Ao11 t252.length co11, .int .i64 t255] 63 (0, 0)) (by (with_reducible repeat (first | refine blk_drewN ?_ _ | refine blk_drew ?_ | refine blk_alloc ?_ _)); exact BK257.out) hb); have n4_ := A_ (below_step (bs_ GE257.out) hb); clear HO251; clear HO254; clear HO260; clear BK257; clear HB; have HO251 := n0_; have HO254 := n1_; have HO260 := n2_; have BK257 := n3_; have HB := n4_; clear n0_ n1_ n2_ n3_ n4_; (try clear hb); (try clear hb2); (try clear hk); (try clear hi)))
   go_meet
   case rel => exact ⟨_, (!t261), es_, H', ⟨by first | omega | exact Nat.le_refl _⟩, ⟨by (with_reducible repeat (first | apply Kd.V_alloc | apply Kd.V_drewN | apply Kd.V_drew)); exact Kd.V_mono HO251.out (fun _ hk => hk.1.2)⟩, ⟨by (with_reducible repeat (first | apply Kd.V_alloc | apply Kd.V_drewN | apply Kd.V_drew)); exact Kd.V_mono HO254.out (fun _ hk => hk.1.2)⟩, ⟨by (with_reducible repeat (first | refine blk_drewN ?_ _ | refine blk_drew ?_ | refine blk_alloc ?_ _)); exact BK257.out⟩, ⟨bs_ GE257.out⟩⟩
  ·
   replace c12 := Bool.eq_false_iff.mpr c12
   subst c12
   rw [if_neg (show ¬ (false = true) by decide)] at H
   have H' := A_ H; clear H
   go_wp2
   go_meet
   case rel => exact ⟨_, (true), es_, H', ⟨by first | omega | exact Nat.le_refl _⟩, ⟨by (with_reducible repeat (first | apply Kd.V_alloc | apply Kd.V_drewN | apply Kd.V_drew)); exact Kd.V_mono (Kd.V_far (p := ⟨gb257, 2, none⟩) (Kd.V_far (p := ⟨gb257, 1, none⟩) (Kd.V_far (p := ⟨gb257, 0, none⟩) (Kd.V_mono HO251.out (fun k_ hk => (⟨hk, hk.2⟩ : _ ∧ k_ ≠ gb257))) (fun _ hk => hk.2) (.slice Ao9 t249.length co9)) (fun _ hk => hk.2) (.slice Ao11 t252.length co11)) (fun _ hk => hk.2) (.int .i64 t255)) (fun _ hk => hk.1.2)⟩, ⟨by (with_reducible repeat (first | apply Kd.V_alloc | apply Kd.V_drewN | apply Kd.V_drew)); exact Kd.V_mono (Kd.V_far (p := ⟨gb257, 2, none⟩) (Kd.V_far (p := ⟨gb257, 1, none⟩) (Kd.V_far (p := ⟨gb257, 0, none⟩) (Kd.V_mono HO254.out (fun k_ hk => (⟨hk, hk.2⟩ : _ ∧ k_ ≠ gb257))) (fun _ hk => hk.2) (.slice Ao9 t249.length co9)) (fun _ hk => hk.2) (.slice Ao11 t252.length co11)) (fun _ hk => hk.2) (.int .i64 t255)) (fun _ hk => hk.1.2)⟩, ⟨by (with_reducible repeat (first | refine blk_drewN ?_ _ | refine blk_drew ?_ | refine blk_alloc ?_ _)); refine blk_put (cs := #[.slice Ao9 t249.length co9, .slice Ao11 t252.length co11, .int .i64 0]) ?_ 2 _ rfl; (with_reducible repeat (first | refine blk_drewN ?_ _ | refine blk_drew ?_ | refine blk_alloc ?_ _)); refine blk_put (cs := #[.slice Ao9 t249.length co9, .slice none 0 0, .int .i64 0]) ?_ 1 _ rfl; (with_reducible repeat (first | refine blk_drewN ?_ _ | refine blk_drew ?_ | refine blk_alloc ?_ _)); refine blk_put (cs := #[.slice none 0 0, .slice none 0 0, .int .i64 0]) ?_ 0 _ rfl; (with_reducible repeat (first | refine blk_drewN ?_ _ | refine blk_drew ?_ | refine blk_alloc ?_ _)); exact BK257.out⟩, ⟨bs_ GE257.out⟩⟩
 case rest =>
  clear HC6
  (try clear c1); (try clear c2); (try clear p2); (try clear c5); (try clear c12); (try clear hcz10_0); (try clear hcz10_1); (try clear hcz10_2); (try clear hfz10_0); (try clear hfz10_1); (try clear hfz10_2)
  obtain ⟨kq, x29_5, rfl, HA, HJ5, HO_258000, HO_258001, BK257, HB⟩ := hcut
  cases kq with
  | zero => exact absurd HA.out (by simp [impl_HarmlessDelay.j0])
  | succ kj5 =>
   have H := HA.out
   clear HA
   simp only [impl_HarmlessDelay.j0] at H
   by_cases c18 : x29_5 = true
   ·
    subst c18
    rw [if_pos rfl] at H
    simp only [Option.some.injEq, Prod.mk.injEq] at H
    obtain ⟨rfl, rfl⟩ := H
    go_wp2
    go_ret2
    exact ⟨ew_, bs_ GE257.out⟩
   ·
    replace c18 := Bool.eq_false_iff.mpr c18
    subst c18
    rw [if_neg (show ¬ (false = true) by decide)] at H
    have H' := A_ H; clear H
    go_wp2
    go_loopg [12, 32] kj5 (fun kq v12 v32 w' => ∃ (x12_2 : Int) (x32_2 : Int), v12 = .int .i64 x12_2 ∧ v32 = .int .i64 x32_2 ∧ Aside0 (impl_HarmlessDelay.l0 kq a3 x12_2 (l0.length : Int) x32_2 t249 t252 t255 = some (r1, r2)) ∧ Aside0 (kq ≤ kj5) ∧ Aside0 (Kd.V (Kd.slice 3 (Kd.int .i64)) 23 w' w.heap.size (fun k_ => k_ ≠ gb257) (.slice Ao9 t249.length co9) t249) ∧ Aside0 (Kd.V (Kd.int .i64) 3 w' w.heap.size (fun k_ => k_ ≠ gb257) (.slice Ao11 t252.length co11) t252) ∧ Aside0 (w'.heap[gb257]? = some (.cells #[(.slice Ao9 t249.length co9), (.slice Ao11 t252.length co11), .int .i64 t255] 63 (0, 0))) ∧ Aside0 (Below w.heap.size w w'))
    case atStart => exact ⟨(10000), (0), es_, es_, H', ⟨Nat.le_refl _⟩, ⟨by (with_reducible repeat (first | apply Kd.V_alloc | apply Kd.V_drewN | apply Kd.V_drew)); exact HO_258000.out⟩, ⟨by (with_reducible repeat (first | apply Kd.V_alloc | apply Kd.V_drewN | apply Kd.V_drew)); exact HO_258001.out⟩, ⟨by (with_reducible repeat (first | refine blk_drewN ?_ _ | refine blk_drew ?_ | refine blk_alloc ?_ _)); exact BK257.out⟩, ⟨bs_ GE257.out⟩⟩
    case round =>
     clear H'
     (try clear c1); (try clear c2); (try clear p2); (try clear c5); (try clear c12); (try clear c18); (try clear hcz10_0); (try clear hcz10_1); (try clear hcz10_2); (try clear hfz10_0); (try clear hfz10_1); (try clear hfz10_2); (try clear p2)
     obtain ⟨x12_2, x32_2, rfl, rfl, HA, HK2, HO_258000, HO_258001, BK257, HB⟩ := hrel
     cases gk with
     | zero => exact absurd HA.out (by simp [impl_HarmlessDelay.l0])
     | succ k2 =>
      have H := HA.out
      clear HA
      simp only [impl_HarmlessDelay.l0] at H
      by_cases c19 : x32_2 < (l0.length : Int)
      ·
       rw [if_pos c19] at H
       have c19b0 := decide_eq_true c19
       clear c19
       by_cases c20 : x32_2 = a3
       ·
        rw [if_pos c20] at H
        have c20b0 : (x32_2 == a3) = true := beq_iff_eq.mpr c20
        have c20b1 : (x32_2 != a3) = false := bne_eq_false_iff_eq.mpr c20
        clear c20
        have H' := A_ H; clear H
        go_wp2
        go_roundg k2
        case measure => have := HJ5.out; have := HK2.out; omega
        case rel => exact ⟨(x12_2), (wrap64 (x32_2 + 1)), es_, es_, H', ⟨by have := HJ5.out; have := HK2.out; omega⟩, ⟨by (with_reducible repeat (first | apply Kd.V_alloc | apply Kd.V_drewN | apply Kd.V_drew)); exact HO_258000.out⟩, ⟨by (with_reducible repeat (first | apply Kd.V_alloc | apply Kd.V_drewN | apply Kd.V_drew)); exact HO_258001.out⟩, ⟨by (with_reducible repeat (first | refine blk_drewN ?_ _ | refine blk_drew ?_ | refine blk_alloc ?_ _)); exact BK257.out⟩, ⟨bs_ GE257.out⟩⟩
       ·
        rw [if_neg c20] at H
        have c20b0 : (x32_2 == a3) = false := beq_eq_false_iff_ne.mpr c20
        have c20b1 : (x32_2 != a3) = true := bne_iff_ne.mpr c20
        obtain ⟨t262, A210, H⟩ := Option.bind_eq_some_iff.mp H
        try dsimp only at H
        have A21 := A_ A210; clear A210
        by_cases c22 : t262 = true
        ·
         subst c22
         rw [if_pos rfl] at H
         obtain ⟨t263, A230, H⟩ := Option.bind_eq_some_iff.mp H
         try dsimp only at H
         have A23 := A_ A230; clear A230
         obtain ⟨ji24, hji24⟩ : ∃ j_ : Int, (mn x12_2 t263) = j_ := ⟨_, rfl⟩
         replace H : (impl_HarmlessDelay.l0 k2 a3 ji24 (l0.length : Int) (wrap64 (x32_2 + 1)) t249 t252 t255) = some (r1, r2) := by first | (rw [hji24] at H; exact H) | (simp only [hji24] at H ⊢; exact H)
         (try rw [hji24] at A21)
         (try rw [hji24] at A23)
         have hji24_ : (if t263 < x12_2 then t263 else x12_2) = ji24 := hji24
         have H' := A_ H; clear H
         have hcz25_0 : wr.cell? ⟨gb257, 0, none⟩ = some (.slice Ao9 t249.length co9) := (blk_cell BK257.out 0).trans rfl
         have hcz25_1 : wr.cell? ⟨gb257, 1, none⟩ = some (.slice Ao11 t252.length co11) := (blk_cell BK257.out 1).trans rfl
         have hcz25_2 : wr.cell? ⟨gb257, 2, none⟩ = some (.int .i64 t255) := (blk_cell BK257.out 2).trans rfl
         have hfz25_0 := blk_frozen BK257.out 0
         have hfz25_1 := blk_frozen BK257.out 1
         have hfz25_2 := blk_frozen BK257.out 2
         go_wp2_with (first | (go_at_call 56; (with_reducible refine (impl_plan_waits.calls _ _ t249 _ _ t252 t255 x32_2 a3 true _ ?side1 ?side2 ?side3 ?side4 A21.out).mono ?_); (case side1 => exact kC_ ((Kd.V_reads' HO_258000.out).2.2)); (case side2 => exact (Kd.V_reads' HO_258000.out).2.1); (case side3 => exact kC_ ((Kd.V_reads' HO_258001.out).2.2)); (case side4 => exact (Kd.V_reads' HO_258001.out).2.1); rintro e w26 ⟨rfl, hb⟩; have n0_ := A_ (Kd.V_below (by (with_reducible repeat (first | apply Kd.V_alloc | apply Kd.V_drewN | apply Kd.V_drew)); exact HO_258000.out) hb); have n1_ := A_ (Kd.V_below (by (with_reducible repeat (first | apply Kd.V_alloc | apply Kd.V_drewN | apply Kd.V_drew)); exact HO_258001.out) hb); have n2_ := A_ (blk_below (g := gb257) (o := .cells #[.slice Ao9 t249.length co9, .slice Ao11 t252.length co11, .int .i64 t255] 63 (0, 0)) (by (with_reducible repeat (first | refine blk_drewN ?_ _ | refine blk_drew ?_ | refine blk_alloc ?_ _)); exact BK257.out) hb); have n3_ := A_ (below_step (bs_ GE257.out) hb); clear HO_258000; clear HO_258001; clear BK257; clear HB; have HO_258000 := n0_; have HO_258001 := n1_; have BK257 := n2_; have HB := n3_; clear n0_ n1_ n2_ n3_; (try clear hb); (try clear hb2); (try clear hk); (try clear hi); have hcz27_0 : w26.cell? ⟨gb257, 0, none⟩ = some (.slice Ao9 t249.length co9) := (blk_cell BK257.out 0).trans rfl; have hcz27_1 : w26.cell? ⟨gb257, 1, none⟩ = some (.slice Ao11 t252.length co11) := (blk_cell BK257.out 1).trans rfl; have hcz27_2 : w26.cell? ⟨gb257, 2, none⟩ = some (.int .i64 t255) := (blk_cell BK257.out 2).trans rfl; have hfz27_0 := blk_frozen BK257.out 0; have hfz27_1 := blk_frozen BK257.out 1; have hfz27_2 := blk_frozen BK257.out 2) | ((with_reducible refine gate_callee (f := 57) rfl ?_); refine goesL_ (some 48) rfl rfl Try.func57 kr_ rfl #[.agg #[.slice Ao9 t249.length co9, .slice Ao11 t252.length co11, .int .i64 t255], .int .i64 x32_2, .int .i64 a3] rfl am_ ?_; (with_reducible refine (impl_plan_buffer.calls _ _ t249 _ _ t252 t255 x32_2 a3 t263 _ ?side1 ?side2 ?side3 ?side4 A23.out).mono ?_); (case side1 => exact kC_ ((Kd.V_reads' HO_258000.out).2.2)); (case side2 => exact (Kd.V_reads' HO_258000.out).2.1); (case side3 => exact kC_ ((Kd.V_reads' HO_258001.out).2.2)); (case side4 => exact (Kd.V_reads' HO_258001.out).2.1); rintro e w28 ⟨rfl, hb⟩; refine ⟨_, rfl, ?_⟩; have n0_ := A_ (Kd.V_below (by (with_reducible repeat (first | apply Kd.V_alloc | apply Kd.V_drewN | apply Kd.V_drew)); exact HO_258000.out) hb); have n1_ := A_ (Kd.V_below (by (with_reducible repeat (first | apply Kd.V_alloc | apply Kd.V_drewN | apply Kd.V_drew)); exact HO_258001.out) hb); have n2_ := A_ (blk_below (g := gb257) (o := .cells #[.slice Ao9 t249.length co9, .slice Ao11 t252.length co11, .int .i64 t255] 63 (0, 0)) (by (with_reducible repeat (first | refine blk_drewN ?_ _ | refine blk_drew ?_ | refine blk_alloc ?_ _)); exact BK257.out) hb); have n3_ := A_ (below_step (bs_ GE257.out) hb); clear HO_258000; clear HO_258001; clear BK257; clear HB; have HO_258000 := n0_; have HO_258001 := n1_; have BK257 := n2_; have HB := n3_; clear n0_ n1_ n2_ n3_; (try clear hb); (try clear hb2); (try clear hk); (try clear hi)))
         go_roundg k2
         case measure => have := HJ5.out; have := HK2.out; omega
         case rel => exact ⟨(ji24), (wrap64 (x32_2 + 1)), (by first | rfl | (simp; done) | (simp only [← hji24] <;> (first | rfl | simp)) | (simp [*]; done)), es_, H', ⟨by have := HJ5.out; have := HK2.out; omega⟩, ⟨by (with_reducible repeat (first | apply Kd.V_alloc | apply Kd.V_drewN | apply Kd.V_drew)); exact HO_258000.out⟩, ⟨by (with_reducible repeat (first | apply Kd.V_alloc | apply Kd.V_drewN | apply Kd.V_drew)); exact HO_258001.out⟩, ⟨by (with_reducible repeat (first | refine blk_drewN ?_ _ | refine blk_drew ?_ | refine blk_alloc ?_ _)); exact BK257.out⟩, ⟨bs_ GE257.out⟩⟩
        ·
         replace c22 := Bool.eq_false_iff.mpr c22
         subst c22
         rw [if_neg (show ¬ (false = true) by decide)] at H
         have H' := A_ H; clear H
         have hcz29_0 : wr.cell? ⟨gb257, 0, none⟩ = some (.slice Ao9 t249.length co9) := (blk_cell BK257.out 0).trans rfl
         have hcz29_1 : wr.cell? ⟨gb257, 1, none⟩ = some (.slice Ao11 t252.length co11) := (blk_cell BK257.out 1).trans rfl
         have hcz29_2 : wr.cell? ⟨gb257, 2, none⟩ = some (.int .i64 t255) := (blk_cell BK257.out 2).trans rfl
         have hfz29_0 := blk_frozen BK257.out 0
         have hfz29_1 := blk_frozen BK257.out 1
         have hfz29_2 := blk_frozen BK257.out 2
         go_wp2_with (first | (go_at_call 56; (with_reducible refine (impl_plan_waits.calls _ _ t249 _ _ t252 t255 x32_2 a3 false _ ?side1 ?side2 ?side3 ?side4 A21.out).mono ?_); (case side1 => exact kC_ ((Kd.V_reads' HO_258000.out).2.2)); (case side2 => exact (Kd.V_reads' HO_258000.out).2.1); (case side3 => exact kC_ ((Kd.V_reads' HO_258001.out).2.2)); (case side4 => exact (Kd.V_reads' HO_258001.out).2.1); rintro e w30 ⟨rfl, hb⟩; have n0_ := A_ (Kd.V_below (by (with_reducible repeat (first | apply Kd.V_alloc | apply Kd.V_drewN | apply Kd.V_drew)); exact HO_258000.out) hb); have n1_ := A_ (Kd.V_below (by (with_reducible repeat (first | apply Kd.V_alloc | apply Kd.V_drewN | apply Kd.V_drew)); exact HO_258001.out) hb); have n2_ := A_ (blk_below (g := gb257) (o := .cells #[.slice Ao9 t249.length co9, .slice Ao11 t252.length co11, .int .i64 t255] 63 (0, 0)) (by (with_reducible repeat (first | refine blk_drewN ?_ _ | refine blk_drew ?_ | refine blk_alloc ?_ _)); exact BK257.out) hb); have n3_ := A_ (below_step (bs_ GE257.out) hb); clear HO_258000; clear HO_258001; clear BK257; clear HB; have HO_258000 := n0_; have HO_258001 := n1_; have BK257 := n2_; have HB := n3_; clear n0_ n1_ n2_ n3_; (try clear hb); (try clear hb2); (try clear hk); (try clear hi)))
         go_roundg k2
         case measure => have := HJ5.out; have := HK2.out; omega
         case rel => exact ⟨(x12_2), (wrap64 (x32_2 + 1)), es_, es_, H', ⟨by have := HJ5.out; have := HK2.out; omega⟩, ⟨by (with_reducible repeat (first | apply Kd.V_alloc | apply Kd.V_drewN | apply Kd.V_drew)); exact HO_258000.out⟩, ⟨by (with_reducible repeat (first | apply Kd.V_alloc | apply Kd.V_drewN | apply Kd.V_drew)); exact HO_258001.out⟩, ⟨by (with_reducible repeat (first | refine blk_drewN ?_ _ | refine blk_drew ?_ | refine blk_alloc ?_ _)); exact BK257.out⟩, ⟨bs_ GE257.out⟩⟩
      ·
       rw [if_neg c19] at H
       have c19b0 := decide_eq_false c19
       clear c19
       simp only [Option.some.injEq, Prod.mk.injEq] at H
       obtain ⟨rfl, rfl⟩ := H
       go_wp2
       go_ret2
       exact ⟨ew_, bs_ GE257.out⟩
/-! ### spec_LeastBuffer: function 23 -/
mutual
def spec_LeastBuffer.l0 : Nat → List (List Int) → List Int → Int → Int → Int → Int → List (List Int) → Int → Int → Option (Int × Int × Int × Bool)
  | 0, _, _, _, _, _, _, _, _, _ => none
  | k + 1, x0, x1, x2, x10, x11, x12, x23, x24, x25 => if x25 < x24 then (if 0 ≤ x25 then (if x25 < (x23.length : Int) then (spec_LeastBuffer.l1 k x0 x1 x2 x10 x11 x12 x25 x23 x24 x25 (rd_L1 x23 x25) ((rd_L1 x23 x25).length : Int) 0) else (none)) else (none)) else (some (x10, x11, x12, true))
def spec_LeastBuffer.l1 : Nat → List (List Int) → List Int → Int → Int → Int → Int → Int → List (List Int) → Int → Int → List Int → Int → Int → Option (Int × Int × Int × Bool)
  | 0, _, _, _, _, _, _, _, _, _, _, _, _, _ => none
  | k + 1, x0, x1, x2, x10, x11, x12, x13, x23, x24, x25, x30, x31, x32 => if x32 < x31 then (if 0 ≤ x32 then (if x32 < (x30.length : Int) then (if (rd x30 x32) = 1000000000 then (spec_LeastBuffer.l1 k x0 x1 x2 x10 x11 x12 x13 x23 x24 x25 x30 x31 (wrap64 (x32 + 1))) else ((spec_dlBuffer.f x0 x1 x2 x13 x32).bind fun t292 => (if x10 < 0 then (spec_LeastBuffer.l1 k x0 x1 x2 x13 x32 t292 x13 x23 x24 x25 x30 x31 (wrap64 (x32 + 1))) else (if t292 < x12 then (spec_LeastBuffer.l1 k x0 x1 x2 x13 x32 t292 x13 x23 x24 x25 x30 x31 (wrap64 (x32 + 1))) else (spec_LeastBuffer.l1 k x0 x1 x2 x10 x11 x12 x13 x23 x24 x25 x30 x31 (wrap64 (x32 + 1))))))) else (none)) else (none)) else (spec_LeastBuffer.l0 k x0 x1 x2 x10 x11 x12 x23 x24 (wrap64 (x25 + 1)))
end
def spec_LeastBuffer.f (k : Nat) (l0 : List (List Int)) (l1 : List Int) (a2 : Int) : Option (Int × Int × Int × Bool) := (spec_dlGood.f k l0 l1 a2).bind fun t289 => (if t289 = true then (spec_LeastBuffer.l0 k l0 l1 a2 (-1) (-1) 0 l0 (l0.length : Int) 0) else (some (0, 0, 0, false)))
theorem spec_LeastBuffer.mono_l : ∀ k, (∀ y0 y1 y2 y3 y4 y5 y6 y7 y8, LeO (spec_LeastBuffer.l0 k y0 y1 y2 y3 y4 y5 y6 y7 y8) (spec_LeastBuffer.l0 (k + 1) y0 y1 y2 y3 y4 y5 y6 y7 y8)) ∧ (∀ y0 y1 y2 y3 y4 y5 y6 y7 y8 y9 y10 y11 y12, LeO (spec_LeastBuffer.l1 k y0 y1 y2 y3 y4 y5 y6 y7 y8 y9 y10 y11 y12) (spec_LeastBuffer.l1 (k + 1) y0 y1 y2 y3 y4 y5 y6 y7 y8 y9 y10 y11 y12))
  | 0 => ⟨fun _ _ _ _ _ _ _ _ _ r h => by simp [spec_LeastBuffer.l0] at h, fun _ _ _ _ _ _ _ _ _ _ _ _ _ r h => by simp [spec_LeastBuffer.l1] at h⟩
  | k + 1 => by
    obtain ⟨ih0, ih1⟩ := spec_LeastBuffer.mono_l k
    refine ⟨?_, ?_⟩
    all_goals (intros; first | unfold spec_LeastBuffer.l0 | unfold spec_LeastBuffer.l1)
    all_goals (repeat' first | (with_reducible first | exact ih0 _ _ _ _ _ _ _ _ _ | exact ih1 _ _ _ _ _ _ _ _ _ _ _ _ _ | exact spec_dlGood.mono _ _ _ _ | exact LeO.refl _ | exact LeO.none _ | refine LeO.ite ?_ ?_ | refine LeO.bind ?_ (fun _ => ?_)) | exact ih0 _ _ _ _ _ _ _ _ _ | exact ih1 _ _ _ _ _ _ _ _ _ _ _ _ _ | exact spec_dlGood.mono _ _ _ _ | exact LeO.none _ | refine LeO.ite ?_ ?_ | refine LeO.bind ?_ (fun _ => ?_))
theorem spec_LeastBuffer.mono : ∀ a0 a1 a2 k, LeO (spec_LeastBuffer.f k a0 a1 a2) (spec_LeastBuffer.f (k + 1) a0 a1 a2) := by
 intro a0 a1 a2 k
 obtain ⟨ih0, ih1⟩ := spec_LeastBuffer.mono_l k
 unfold spec_LeastBuffer.f
 repeat' first | (with_reducible first | exact ih0 _ _ _ _ _ _ _ _ _ | exact ih1 _ _ _ _ _ _ _ _ _ _ _ _ _ | exact spec_dlGood.mono _ _ _ _ | exact LeO.refl _ | exact LeO.none _ | refine LeO.ite ?_ ?_ | refine LeO.bind ?_ (fun _ => ?_)) | exact ih0 _ _ _ _ _ _ _ _ _ | exact ih1 _ _ _ _ _ _ _ _ _ _ _ _ _ | exact spec_dlGood.mono _ _ _ _ | exact LeO.none _ | refine LeO.ite ?_ ?_ | refine LeO.bind ?_ (fun _ => ?_)
set_option maxHeartbeats 8000000 in
set_option maxRecDepth 100000 in
theorem spec_LeastBuffer.calls (k : Nat) (A0 : Option Addr) (c0 : Nat) (l0 : List (List Int)) (A1 : Option Addr) (c1 : Nat) (l1 : List Int) (a2 : Int) (r1 : Int) (r2 : Int) (r3 : Int) (r4 : Bool) (w : World) (hr0 : Kd.C (Kd.slice 3 (Kd.int .i64)) w A0 l0.length l0) (hc0 : l0.length ≤ c0) (hr1 : Kd.C (Kd.int .i64) w A1 l1.length l1) (hc1 : l1.length ≤ c1) (h : spec_LeastBuffer.f k l0 l1 a2 = some (r1, r2, r3, r4)) :
 Calls Try.prog 23 #[.slice A0 l0.length c0, .slice A1 l1.length c1, .int .i64 a2] w fun e w' => e = .returned (.tuple #[.int .i64 r1, .int .i64 r2, .int .i64 r3, .bool r4]) ∧ Drawn0 w w' := by
 have HR0 := A_ hr0
 have HC0 := A_ hc0
 clear hr0 hc0
 have HR1 := A_ hr1
 have HC1 := A_ hc1
 clear hr1 hc1
 have H : ((spec_dlGood.f k l0 l1 a2).bind fun t289 => (if t289 = true then (spec_LeastBuffer.l0 k l0 l1 a2 (-1) (-1) 0 l0 (l0.length : Int) 0) else (some (0, 0, 0, false)))) = some (r1, r2, r3, r4) := h
 clear h
 obtain ⟨t289, A40, H⟩ := Option.bind_eq_some_iff.mp H
 try dsimp only at H
 have A4 := A_ A40; clear A40
 by_cases c5 : t289 = true
 ·
  subst c5
  rw [if_pos rfl] at H
  have H' := A_ H; clear H
  go_enter Try.func23, Try.ntmps23
  go_wp2_with (first | ((with_reducible refine gate_callee (f := 51) rfl ?_); refine goesL_ (some 21) rfl rfl Try.func51 kr_ rfl #[.slice A0 l0.length c0, .slice A1 l1.length c1, .int .i64 a2] rfl am_ ?_; (with_reducible refine (spec_dlGood.calls k _ _ l0 _ _ l1 a2 true _ ?side1 ?side2 ?side3 ?side4 A4.out).mono ?_); (case side1 => exact kC_ HR0.out); (case side2 => exact HC0.out); (case side3 => exact kC_ HR1.out); (case side4 => exact HC1.out); rintro e w' ⟨rfl, ⟨nd, rfl⟩⟩; refine ⟨_, rfl, ?_⟩))
  go_loopg [10, 11, 12, 25] k (fun kq v10 v11 v12 v25 w' => ∃ (x10_1 : Int) (x11_1 : Int) (x12_1 : Int) (x25_1 : Int), v10 = .int .i64 x10_1 ∧ v11 = .int .i64 x11_1 ∧ v12 = .int .i64 x12_1 ∧ v25 = .int .i64 x25_1 ∧ Aside0 (spec_LeastBuffer.l0 kq l0 l1 a2 x10_1 x11_1 x12_1 l0 (l0.length : Int) x25_1 = some (r1, r2, r3, r4)) ∧ Aside0 (kq ≤ k) ∧ Drawn0 w w')
  case atStart => exact ⟨((-1)), ((-1)), (0), (0), es_, es_, es_, es_, H', ⟨Nat.le_refl _⟩, by repeat (first | exact Drawn0.refl _ | apply Drawn0.step)⟩
  case round =>
   clear H'
   (try clear c1); (try clear c2); (try clear p2); (try clear c5)
   obtain ⟨x10_1, x11_1, x12_1, x25_1, rfl, rfl, rfl, rfl, HA, HK1, ⟨m1, rfl⟩⟩ := hrel
   cases gk with
   | zero => exact absurd HA.out (by simp [spec_LeastBuffer.l0])
   | succ k1 =>
    have H := HA.out
    clear HA
    simp only [spec_LeastBuffer.l0] at H
    by_cases c6 : x25_1 < (l0.length : Int)
    ·
     rw [if_pos c6] at H
     have c6b0 := decide_eq_true c6
     clear c6
     by_cases c7 : 0 ≤ x25_1
     ·
      rw [if_pos c7] at H
      have c7b0 := decide_eq_true c7
      clear c7
      by_cases c8 : x25_1 < (l0.length : Int)
      ·
       rw [if_pos c8] at H
       have c8b0 := decide_eq_true c8
       clear c8
       have H' := A_ H; clear H
       have p290 : 0 ≤ (x25_1 : Int) := od_
       have q290 : x25_1 < (l0.length : Int) := od_
       obtain ⟨ad290, A290_0, c290_0, e290, hx290_0, hl290_0, hi290_0⟩ := at_L1 HR0.out x25_1 p290 q290
       cases e290
       have HR290_0 := A_ hi290_0
       have HC290_0 := A_ hl290_0
       clear hi290_0 hl290_0
       replace p290 := eq_true p290
       replace q290 := eq_true q290
       go_wp2
       go_loopg [10, 11, 12, 32] k1 (fun kq v10 v11 v12 v32 w' => ∃ (x10_2 : Int) (x11_2 : Int) (x12_2 : Int) (x32_2 : Int), v10 = .int .i64 x10_2 ∧ v11 = .int .i64 x11_2 ∧ v12 = .int .i64 x12_2 ∧ v32 = .int .i64 x32_2 ∧ Aside0 (spec_LeastBuffer.l1 kq l0 l1 a2 x10_2 x11_2 x12_2 x25_1 l0 (l0.length : Int) x25_1 (rd_L1 l0 x25_1) ((rd_L1 l0 x25_1).length : Int) x32_2 = some (r1, r2, r3, r4)) ∧ Aside0 (kq ≤ k1) ∧ Drawn0 w w')
       case atStart => exact ⟨(x10_1), (x11_1), (x12_1), (0), es_, es_, es_, es_, H', ⟨Nat.le_refl _⟩, by repeat (first | exact Drawn0.refl _ | apply Drawn0.step)⟩
       case round =>
        clear H'
        (try clear c1); (try clear c2); (try clear p2); (try clear q2); (try clear hx2); (try clear c5); (try clear c6); (try clear c6b0); (try clear c7); (try clear c7b0); (try clear c8); (try clear c8b0); (try clear hx290_0); (try clear p2); (try clear p290); (try clear q290)
        obtain ⟨x10_2, x11_2, x12_2, x32_2, rfl, rfl, rfl, rfl, HA, HK2, ⟨m2, rfl⟩⟩ := hrel
        cases gk with
        | zero => exact absurd HA.out (by simp [spec_LeastBuffer.l1])
        | succ k2 =>
         have H := HA.out
         clear HA
         simp only [spec_LeastBuffer.l1] at H
         by_cases c9 : x32_2 < ((rd_L1 l0 x25_1).length : Int)
         ·
          rw [if_pos c9] at H
          have c9b0 := decide_eq_true c9
          clear c9
          by_cases c10 : 0 ≤ x32_2
          ·
           rw [if_pos c10] at H
           have c10b0 := decide_eq_true c10
           clear c10
           by_cases c11 : x32_2 < ((rd_L1 l0 x25_1).length : Int)
           ·
            rw [if_pos c11] at H
            have c11b0 := decide_eq_true c11
            clear c11
            by_cases c12 : (rd (rd_L1 l0 x25_1) x32_2) = 1000000000
            ·
             rw [if_pos c12] at H
             have c12b0 : ((rd (rd_L1 l0 x25_1) x32_2) == 1000000000) = true := beq_iff_eq.mpr c12
             have c12b1 : ((rd (rd_L1 l0 x25_1) x32_2) != 1000000000) = false := bne_eq_false_iff_eq.mpr c12
             clear c12
             have H' := A_ H; clear H
             have p291 : 0 ≤ (x32_2 : Int) := od_
             have q291 : x32_2 < ((rd_L1 l0 x25_1).length : Int) := od_
             obtain ⟨ad291, e291, hx291_0⟩ := Kd.at_int HR290_0.out x32_2 p291 q291
             cases e291
             replace p291 := eq_true p291
             replace q291 := eq_true q291
             go_wp2
             go_roundg k2
             case measure => have := HK1.out; have := HK2.out; omega
             case rel => exact ⟨(x10_2), (x11_2), (x12_2), (wrap64 (x32_2 + 1)), es_, es_, es_, es_, H', ⟨by have := HK1.out; have := HK2.out; omega⟩, by repeat (first | exact Drawn0.refl _ | apply Drawn0.step)⟩
            ·
             rw [if_neg c12] at H
             have c12b0 : ((rd (rd_L1 l0 x25_1) x32_2) == 1000000000) = false := beq_eq_false_iff_ne.mpr c12
             have c12b1 : ((rd (rd_L1 l0 x25_1) x32_2) != 1000000000) = true := bne_iff_ne.mpr c12
             obtain ⟨t292, A130, H⟩ := Option.bind_eq_some_iff.mp H
             try dsimp only at H
             have A13 := A_ A130; clear A130
             by_cases c14 : x10_2 < 0
             ·
              rw [if_pos c14] at H
              have c14b0 := decide_eq_true c14
              clear c14
              have H' := A_ H; clear H
              have p291 : 0 ≤ (x32_2 : Int) := od_
              have q291 : x32_2 < ((rd_L1 l0 x25_1).length : Int) := od_
              obtain ⟨ad291, e291, hx291_0⟩ := Kd.at_int HR290_0.out x32_2 p291 q291
              cases e291
              replace p291 := eq_true p291
              replace q291 := eq_true q291
              go_wp2_with (first | ((with_reducible refine gate_callee (f := 53) rfl ?_); refine goesL_ (some 44) rfl rfl Try.func53 kr_ rfl #[.slice (some ad290) l0.length c0, .slice A1 l1.length c1, .int .i64 a2, .int .i64 x25_1, .int .i64 x32_2] rfl am_ ?_; (with_reducible refine (spec_dlBuffer.calls _ _ l0 _ _ l1 a2 x25_1 x32_2 t292 _ ?side1 ?side2 ?side3 ?side4 A13.out).mono ?_); (case side1 => exact kC_ HR0.out); (case side2 => exact HC0.out); (case side3 => exact kC_ HR1.out); (case side4 => exact HC1.out); rintro e w' ⟨rfl, ⟨nd, rfl⟩⟩; refine ⟨_, rfl, ?_⟩))
              go_roundg k2
              case measure => have := HK1.out; have := HK2.out; omega
              case rel => exact ⟨(x25_1), (x32_2), (t292), (wrap64 (x32_2 + 1)), es_, es_, es_, es_, H', ⟨by have := HK1.out; have := HK2.out; omega⟩, by repeat (first | exact Drawn0.refl _ | apply Drawn0.step)⟩
             ·
              rw [if_neg c14] at H
              have c14b0 := decide_eq_false c14
              clear c14
              by_cases c15 : t292 < x12_2
              ·
               rw [if_pos c15] at H
               have c15b0 := decide_eq_true c15
               clear c15
               have H' := A_ H; clear H
               have p291 : 0 ≤ (x32_2 : Int) := od_
               have q291 : x32_2 < ((rd_L1 l0 x25_1).length : Int) := od_
               obtain ⟨ad291, e291, hx291_0⟩ := Kd.at_int HR290_0.out x32_2 p291 q291
               cases e291
               replace p291 := eq_true p291
               replace q291 := eq_true q291
               go_wp2_with (first | ((with_reducible refine gate_callee (f := 53) rfl ?_); refine goesL_ (some 44) rfl rfl Try.func53 kr_ rfl #[.slice (some ad290) l0.length c0, .slice A1 l1.length c1, .int .i64 a2, .int .i64 x25_1, .int .i64 x32_2] rfl am_ ?_; (with_reducible refine (spec_dlBuffer.calls _ _ l0 _ _ l1 a2 x25_1 x32_2 t292 _ ?side1 ?side2 ?side3 ?side4 A13.out).mono ?_); (case side1 => exact kC_ HR0.out); (case side2 => exact HC0.out); (case side3 => exact kC_ HR1.out); (case side4 => exact HC1.out); rintro e w' ⟨rfl, ⟨nd, rfl⟩⟩; refine ⟨_, rfl, ?_⟩))
               go_roundg k2
               case measure => have := HK1.out; have := HK2.out; omega
               case rel => exact ⟨(x25_1), (x32_2), (t292), (wrap64 (x32_2 + 1)), es_, es_, es_, es_, H', ⟨by have := HK1.out; have := HK2.out; omega⟩, by repeat (first | exact Drawn0.refl _ | apply Drawn0.step)⟩
              ·
               rw [if_neg c15] at H
               have c15b0 := decide_eq_false c15
               clear c15
               have H' := A_ H; clear H
               have p291 : 0 ≤ (x32_2 : Int) := od_
               have q291 : x32_2 < ((rd_L1 l0 x25_1).length : Int) := od_
               obtain ⟨ad291, e291, hx291_0⟩ := Kd.at_int HR290_0.out x32_2 p291 q291
               cases e291
               replace p291 := eq_true p291
               replace q291 := eq_true q291
               go_wp2_with (first | ((with_reducible refine gate_callee (f := 53) rfl ?_); refine goesL_ (some 44) rfl rfl Try.func53 kr_ rfl #[.slice (some ad290) l0.length c0, .slice A1 l1.length c1, .int .i64 a2, .int .i64 x25_1, .int .i64 x32_2] rfl am_ ?_; (with_reducible refine (spec_dlBuffer.calls _ _ l0 _ _ l1 a2 x25_1 x32_2 t292 _ ?side1 ?side2 ?side3 ?side4 A13.out).mono ?_); (case side1 => exact kC_ HR0.out); (case side2 => exact HC0.out); (case side3 => exact kC_ HR1.out); (case side4 => exact HC1.out); rintro e w' ⟨rfl, ⟨nd, rfl⟩⟩; refine ⟨_, rfl, ?_⟩))
               go_roundg k2
               case measure => have := HK1.out; have := HK2.out; omega
               case rel => exact ⟨(x10_2), (x11_2), (x12_2), (wrap64 (x32_2 + 1)), es_, es_, es_, es_, H', ⟨by have := HK1.out; have := HK2.out; omega⟩, by repeat (first | exact Drawn0.refl _ | apply Drawn0.step)⟩
           ·
            rw [if_neg c11] at H; cases H
          ·
           rw [if_neg c10] at H; cases H
         ·
          rw [if_neg c9] at H
          have c9b0 := decide_eq_false c9
          clear c9
          have H' := A_ H; clear H
          go_wp2
          go_roundg k2
          case measure => have := HK1.out; have := HK2.out; omega
          case rel => exact ⟨(x10_2), (x11_2), (x12_2), (wrap64 (x25_1 + 1)), es_, es_, es_, es_, H', ⟨by have := HK1.out; have := HK2.out; omega⟩, by repeat (first | exact Drawn0.refl _ | apply Drawn0.step)⟩
      ·
       rw [if_neg c8] at H; cases H
     ·
      rw [if_neg c7] at H; cases H
    ·
     rw [if_neg c6] at H
     have c6b0 := decide_eq_false c6
     clear c6
     simp only [Option.some.injEq, Prod.mk.injEq] at H
     obtain ⟨rfl, rfl, rfl, rfl⟩ := H
     go_wp2
     refine bodyPost_ret (results_list (rs := [.tmp 6, .tmp 7, .tmp 8, .tmp 9]) rfl (by simp) (.tmp (.tmp (.tmp (.tmp .nil))))) rfl ?_
     exact ⟨es_, by repeat (first | exact Drawn0.refl _ | apply Drawn0.step)⟩
 ·
  replace c5 := Bool.eq_false_iff.mpr c5
  subst c5
  rw [if_neg (show ¬ (false = true) by decide)] at H
  simp only [Option.some.injEq, Prod.mk.injEq] at H
  obtain ⟨rfl, rfl, rfl, rfl⟩ := H
  go_enter Try.func23, Try.ntmps23
  go_wp2_with (first | ((with_reducible refine gate_callee (f := 51) rfl ?_); refine goesL_ (some 21) rfl rfl Try.func51 kr_ rfl #[.slice A0 l0.length c0, .slice A1 l1.length c1, .int .i64 a2] rfl am_ ?_; (with_reducible refine (spec_dlGood.calls k _ _ l0 _ _ l1 a2 false _ ?side1 ?side2 ?side3 ?side4 A4.out).mono ?_); (case side1 => exact kC_ HR0.out); (case side2 => exact HC0.out); (case side3 => exact kC_ HR1.out); (case side4 => exact HC1.out); rintro e w' ⟨rfl, ⟨nd, rfl⟩⟩; refine ⟨_, rfl, ?_⟩))
  refine bodyPost_ret (results_list (rs := [.tmp 6, .tmp 7, .tmp 8, .tmp 9]) rfl (by simp) (.tmp (.tmp (.tmp (.tmp .nil))))) rfl ?_
  exact ⟨es_, by repeat (first | exact Drawn0.refl _ | apply Drawn0.step)⟩

-- NOT PRINTED: function 59 (impl_plan_each)

end Go.Proofs.Ytebjiooojkhkpaa.X
