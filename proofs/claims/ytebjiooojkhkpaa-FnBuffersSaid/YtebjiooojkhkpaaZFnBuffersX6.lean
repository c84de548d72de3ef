-- Shaken out of the printed texts.
import Derived.Test.YtebjiooojkhkpaaZFnBuffersWBX0
import Derived.Test.YtebjiooojkhkpaaZFnBuffersQ
import Derived.Test.YtebjiooojkhkpaaZFnBuffersX0
import Derived.Test.YtebjiooojkhkpaaZFnBuffersX1
import Derived.Test.YtebjiooojkhkpaaZFnBuffersX3
import Derived.Test.YtebjiooojkhkpaaZFnBuffersX5
namespace Go.Proofs.Ytebjiooojkhkpaa.X
open Go.RowKit Go.Proofs.YtebjiooojkhkpaaW.PrintWords Go.Proofs.YtebjiooojkhkpaaW.PrintLast Go.Proofs.YtebjiooojkhkpaaW.PrintMore
attribute [local go_sem] max2_int min2_int max_two min_two max_three min_three max_four min_four   -- for this text's walks alone
set_option linter.unusedVariables false
set_option linter.unusedSimpArgs false

/-! ### impl_TrainsReached: function 40 -/
mutual
def impl_TrainsReached.j0 : Nat → List (List Int) → Int → Int → Bool → List (List Int) → List Int → Int → Option (List Int × Bool)
  | 0, _, _, _, _, _, _, _ => none
  | k + 1, x0, x3, x4, x38, x706000, x706001, x706002 => if x38 = true then (some (([] : List Int), false)) else (if 0 ≤ (x0.length : Int) then (if ((x0.length : Int) : Int).toNat ≤ 35184372088832 then ((some (List.replicate ((x0.length : Int) : Int).toNat 0 : List Int)).bind fun y711 => (if ((x0.length : Int) : Int).toNat ≤ 281474976710656 then (if 0 ≤ x3 then (if x3 < (y711.length : Int) then (impl_TrainsReached.l0 k (y711.set (x3 : Int).toNat x4) (List.replicate ((x0.length : Int) : Int).toNat false) 0 x706000 x706001 x706002) else (none)) else (none)) else (none))) else (none)) else (none))
def impl_TrainsReached.l0 : Nat → List Int → List Bool → Int → List (List Int) → List Int → Int → Option (List Int × Bool)
  | 0, _, _, _, _, _, _ => none
  | k + 1, x14, x15, x49, x706000, x706001, x706002 => if x49 < 50 then ((impl_plan_next.f x706000 x706001 x706002 x14).bind fun t721 => (impl_TrainsReached.l1 k t721 x15 x49 t721 (t721.length : Int) 0 x706000 x706001 x706002)) else ((impl_markedOf.f k x15).bind fun t718 => (some (t718, true)))
def impl_TrainsReached.l1 : Nat → List Int → List Bool → Int → List Int → Int → Int → List (List Int) → List Int → Int → Option (List Int × Bool)
  | 0, _, _, _, _, _, _, _, _, _ => none
  | k + 1, x14, x15, x49, x54, x55, x56, x706000, x706001, x706002 => if x56 < x55 then (if 0 ≤ x56 then (if x56 < (x54.length : Int) then (if x56 < (x15.length : Int) then (if rdOf false x15 x56 = true then (impl_TrainsReached.l1 k x14 (x15.set (x56 : Int).toNat true) x49 x54 x55 (wrap64 (x56 + 1)) x706000 x706001 x706002) else (impl_TrainsReached.l1 k x14 (x15.set (x56 : Int).toNat (decide ((rd x54 x56) > 0))) x49 x54 x55 (wrap64 (x56 + 1)) x706000 x706001 x706002)) else (none)) else (none)) else (none)) else (impl_TrainsReached.l0 k x14 x15 (wrap64 (x49 + 1)) x706000 x706001 x706002)
end
def impl_TrainsReached.f (k : Nat) (l0 : List (List Int)) (l1 : List Int) (a2 : Int) (a3 : Int) (a4 : Int) : Option (List Int × Bool) := (impl_planOf.f k l0 l1 a2).bind fun bt697 => (if bt697.2.2.2 = true then ((impl_areVertices.f l0 (([a3] : List Int))).bind fun t709 => (if t709 = true then ((impl_within.f a4 1 10000).bind fun t710 => (impl_TrainsReached.j0 k l0 a3 a4 (!t710) bt697.1 bt697.2.1 bt697.2.2.1)) else (impl_TrainsReached.j0 k l0 a3 a4 true bt697.1 bt697.2.1 bt697.2.2.1))) else (impl_TrainsReached.j0 k l0 a3 a4 true bt697.1 bt697.2.1 bt697.2.2.1))
theorem impl_TrainsReached.mono_l : ∀ k, (∀ y0 y1 y2 y3 y4 y5 y6, LeO (impl_TrainsReached.j0 k y0 y1 y2 y3 y4 y5 y6) (impl_TrainsReached.j0 (k + 1) y0 y1 y2 y3 y4 y5 y6)) ∧ (∀ y0 y1 y2 y3 y4 y5, LeO (impl_TrainsReached.l0 k y0 y1 y2 y3 y4 y5) (impl_TrainsReached.l0 (k + 1) y0 y1 y2 y3 y4 y5)) ∧ (∀ y0 y1 y2 y3 y4 y5 y6 y7 y8, LeO (impl_TrainsReached.l1 k y0 y1 y2 y3 y4 y5 y6 y7 y8) (impl_TrainsReached.l1 (k + 1) y0 y1 y2 y3 y4 y5 y6 y7 y8))
  | 0 => ⟨fun _ _ _ _ _ _ _ r h => by simp [impl_TrainsReached.j0] at h, fun _ _ _ _ _ _ r h => by simp [impl_TrainsReached.l0] at h, fun _ _ _ _ _ _ _ _ _ r h => by simp [impl_TrainsReached.l1] at h⟩
  | k + 1 => by
    obtain ⟨ih0, ih1, ih2⟩ := impl_TrainsReached.mono_l k
    refine ⟨?_, ?_, ?_⟩
    all_goals (intros; first | unfold impl_TrainsReached.j0 | unfold impl_TrainsReached.l0 | unfold impl_TrainsReached.l1)
    all_goals (repeat' first | (with_reducible first | exact ih0 _ _ _ _ _ _ _ | exact ih1 _ _ _ _ _ _ | exact ih2 _ _ _ _ _ _ _ _ _ | exact impl_markedOf.mono _ _ | exact impl_planOf.mono _ _ _ _ | exact LeO.refl _ | exact LeO.none _ | refine LeO.ite ?_ ?_ | refine LeO.bind ?_ (fun _ => ?_)) | exact ih0 _ _ _ _ _ _ _ | exact ih1 _ _ _ _ _ _ | exact ih2 _ _ _ _ _ _ _ _ _ | exact impl_markedOf.mono _ _ | exact impl_planOf.mono _ _ _ _ | exact LeO.none _ | refine LeO.ite ?_ ?_ | refine LeO.bind ?_ (fun _ => ?_))
theorem impl_TrainsReached.mono : ∀ a0 a1 a2 a3 a4 k, LeO (impl_TrainsReached.f k a0 a1 a2 a3 a4) (impl_TrainsReached.f (k + 1) a0 a1 a2 a3 a4) := by
 intro a0 a1 a2 a3 a4 k
 obtain ⟨ih0, ih1, ih2⟩ := impl_TrainsReached.mono_l k
 unfold impl_TrainsReached.f
 repeat' first | (with_reducible first | exact ih0 _ _ _ _ _ _ _ | exact ih1 _ _ _ _ _ _ | exact ih2 _ _ _ _ _ _ _ _ _ | exact impl_markedOf.mono _ _ | exact impl_planOf.mono _ _ _ _ | exact LeO.refl _ | exact LeO.none _ | refine LeO.ite ?_ ?_ | refine LeO.bind ?_ (fun _ => ?_)) | exact ih0 _ _ _ _ _ _ _ | exact ih1 _ _ _ _ _ _ | exact ih2 _ _ _ _ _ _ _ _ _ | exact impl_markedOf.mono _ _ | exact impl_planOf.mono _ _ _ _ | exact LeO.none _ | refine LeO.ite ?_ ?_ | refine LeO.bind ?_ (fun _ => ?_)
def impl_TrainsReached.T4 : Bool × List (List Nat × List Nat) := (true, [([], []), ([0], [0]), ([1, 1], [1]), ([], []), ([3], [3]), ([4, 4], [4]), ([2, 0, 1, 2], [2]), ([5, 6, 0, 1, 2, 3, 4, 5, 6], [5])])
def impl_TrainsReached.B4 : List Nat := [0, 1, 3, 0, 8, 24, 7, 127]
theorem impl_TrainsReached.tab4 : rtab .any (opsOf Try.f40 4) = impl_TrainsReached.T4 := by kernel_rfl
theorem impl_TrainsReached.bits4 : waitsOk impl_TrainsReached.T4.2 impl_TrainsReached.B4 = true := by kernel_rfl
set_option maxHeartbeats 8000000 in
set_option maxRecDepth 100000 in
theorem impl_TrainsReached.calls (k : Nat) (A0 : Option Addr) (c0 : Nat) (l0 : List (List Int)) (A1 : Option Addr) (c1 : Nat) (l1 : List Int) (a2 : Int) (a3 : Int) (a4 : Int) (r1 : List Int) (r2 : Bool) (w : World) (hr0 : Kd.C (Kd.slice 3 (Kd.int .i64)) w A0 l0.length l0) (hc0 : l0.length ≤ c0) (hr1 : Kd.C (Kd.int .i64) w A1 l1.length l1) (hc1 : l1.length ≤ c1) (h : impl_TrainsReached.f k l0 l1 a2 a3 a4 = some (r1, r2)) :
 Calls Try.prog 40 #[.slice A0 l0.length c0, .slice A1 l1.length c1, .int .i64 a2, .int .i64 a3, .int .i64 a4] w fun e w' => ∃ v0_ : Value, e = .returned (.tuple #[v0_, .bool r2]) ∧ Kd.R (Kd.int .i64) 3 w' w.heap.size (fun _ => True) v0_ r1 ∧ Below w.heap.size w w' := by
 have hu63 := Try.underlying63
 have HR0 := A_ hr0
 have HC0 := A_ hc0
 clear hr0 hc0
 have HR1 := A_ hr1
 have HC1 := A_ hc1
 clear hr1 hc1
 have HB := A_ (Below.refl w.heap.size w)
 have H : ((impl_planOf.f k l0 l1 a2).bind fun bt697 => (if bt697.2.2.2 = true then ((impl_areVertices.f l0 (([a3] : List Int))).bind fun t709 => (if t709 = true then ((impl_within.f a4 1 10000).bind fun t710 => (impl_TrainsReached.j0 k l0 a3 a4 (!t710) bt697.1 bt697.2.1 bt697.2.2.1)) else (impl_TrainsReached.j0 k l0 a3 a4 true bt697.1 bt697.2.1 bt697.2.2.1))) else (impl_TrainsReached.j0 k l0 a3 a4 true bt697.1 bt697.2.1 bt697.2.2.1))) = some (r1, r2) := h
 clear h
 obtain ⟨⟨t697, t700, t703, t704⟩, A60, H⟩ := Option.bind_eq_some_iff.mp H
 try dsimp only at H
 have A6 := A_ A60; clear A60
 have HC7 := A_ H
 clear H
 go_enter Try.func40, Try.ntmps40
 go_upto_region 2 with (first | ((with_reducible refine gate_callee (f := 54) rfl ?_); refine goesL_ (some 22) rfl rfl Try.func54 kr_ rfl #[.slice A0 l0.length c0, .slice A1 l1.length c1, .int .i64 a2] rfl am_ ?_; (with_reducible refine (impl_planOf.calls k (fun k_ => k_ < w.heap.size) _ _ l0 (fun k_ => k_ < w.heap.size) _ _ l1 a2 t697 t700 t703 t704 _ ?side1 ?side2 A6.out).mono ?_); (case side1 => exact Kd.V_mk HC0.out (Kd.F_below (Kd.C_F (Kd.heap_slice 3 (Kd.heap_int .i64)) HR0.out) bl_)); (case side2 => exact Kd.V_mk HC1.out (Kd.F_below (Kd.C_F (Kd.heap_int .i64) HR1.out) bl_)); rintro e w8 ⟨v698, v701, rfl, ho0, ho1, hb⟩; refine ⟨_, rfl, ?_⟩; have n0_ := A_ (Kd.V_lower (Kd.V_mono (ok' := fun k_ => True) ho0 (fun k_ hk_ => trivial)) (below_size bl_)); have n1_ := A_ (Kd.V_lower (Kd.V_mono (ok' := fun k_ => True) ho1 (fun k_ hk_ => trivial)) (below_size bl_)); have n2_ := A_ (below_step bl_ hb); clear HB; have HO699 := n0_; have HO702 := n1_; have HB := n2_; clear n0_ n1_ n2_; (try clear hb); (try clear hb2); (try clear hk); (try clear hi); (try clear ho0); (try clear ho1)) | ((with_reducible refine gate_dst (N := 12) rfl ?_); (try (refine gate_guard (by rfl) ?_; dsimp only)); refine box_event ?hg (N := 12) ?hd (cs := #[.slice none 0 0, .slice none 0 0, .int .i64 0]) (t := 63) ?hr ?_; (case hd => rfl); (case hg => rfl); (case hr => first | (go_simp; done) | (go_simp; rfl)); intro gb705 hg w9 hbox hb; have n0_ := A_ (Kd.V_below (Kd.V_elderB (by (with_reducible repeat (first | apply Kd.V_alloc | apply Kd.V_drewN | apply Kd.V_drew)); exact HO699.out) gb705 (Nat.le_of_eq hg.symm)) hb); have n1_ := A_ (Kd.V_below (Kd.V_elderB (by (with_reducible repeat (first | apply Kd.V_alloc | apply Kd.V_drewN | apply Kd.V_drew)); exact HO702.out) gb705 (Nat.le_of_eq hg.symm)) hb); have n2_ := A_ (below_step bl_ hb); have n3_ := A_ (hbox); have n4_ := A_ ((by rw [hg]; exact (below_size bl_) : w.heap.size ≤ gb705)); have n5_ := A_ ((by rw [hg]; exact (below_size bl_) : w.heap.size ≤ gb705)); clear HO699; clear HO702; clear HB; have HO699 := n0_; have HO702 := n1_; have HB := n2_; have BK705 := n3_; have GW705 := n4_; have GE705 := n5_; clear n0_ n1_ n2_ n3_ n4_ n5_; clear hb hbox hg; obtain ⟨Ao10, co10, eo10⟩ := Kd.V_slice HO699.out; subst eo10; have hcz11_0 : w9.cell? ⟨gb705, 0, none⟩ = some (.slice none 0 0) := (blk_cell BK705.out 0).trans rfl; have hcz11_1 : w9.cell? ⟨gb705, 1, none⟩ = some (.slice none 0 0) := (blk_cell BK705.out 1).trans rfl; have hcz11_2 : w9.cell? ⟨gb705, 2, none⟩ = some (.int .i64 0) := (blk_cell BK705.out 2).trans rfl; have hfz11_0 := blk_frozen BK705.out 0; have hfz11_1 := blk_frozen BK705.out 1; have hfz11_2 := blk_frozen BK705.out 2; obtain ⟨Ao12, co12, eo12⟩ := Kd.V_slice HO702.out; subst eo12))
 (try simp only [Act.put, List.setIfInBounds_toArray, List.set_cons_zero, List.set_cons_succ])
 go_cut [38] (fun v38 wc => ∃ (kq : Nat) (x38_6 : Bool), v38 = .bool x38_6 ∧ Aside0 (impl_TrainsReached.j0 kq l0 a3 a4 x38_6 t697 t700 t703 = some (r1, r2)) ∧ Aside0 (kq ≤ k) ∧ Aside0 (Kd.V (Kd.slice 3 (Kd.int .i64)) 23 wc w.heap.size (fun k_ => k_ ≠ gb705) (.slice Ao10 t697.length co10) t697) ∧ Aside0 (Kd.V (Kd.int .i64) 3 wc w.heap.size (fun k_ => k_ ≠ gb705) (.slice Ao12 t700.length co12) t700) ∧ Aside0 (wc.heap[gb705]? = some (.cells #[(.slice Ao10 t697.length co10), (.slice Ao12 t700.length co12), .int .i64 t703] 63 (0, 0))) ∧ Aside0 (Below w.heap.size w wc))
 case first =>
  have H := HC7.out
  clear HC7
  by_cases c13 : t704 = true
  ·
   subst c13
   rw [if_pos rfl] at H
   obtain ⟨y706, hy706⟩ : ∃ y_ : List Int, y_ = (([a3] : List Int)) := ⟨_, rfl⟩
   replace H : ((impl_areVertices.f l0 y706).bind fun t709 => (if t709 = true then ((impl_within.f a4 1 10000).bind fun t710 => (impl_TrainsReached.j0 k l0 a3 a4 (!t710) t697 t700 t703)) else (impl_TrainsReached.j0 k l0 a3 a4 true t697 t700 t703))) = some (r1, r2) := by first | (rw [hy706]; with_reducible exact H) | (have H2_ := (Option.bind_some _ _).symm.trans H; rw [hy706]; with_reducible exact H2_) | (have H2_ := (Option.bind_some _ _).symm.trans H; with_reducible exact H2_) | with_reducible exact H | (rw [hy706]; exact H) | exact H
   have Ny706 := A_ hy706
   clear hy706
   obtain ⟨t709, A140, H⟩ := Option.bind_eq_some_iff.mp H
   try dsimp only at H
   have A14 := A_ A140; clear A140
   by_cases c15 : t709 = true
   ·
    subst c15
    rw [if_pos rfl] at H
    obtain ⟨t710, A160, H⟩ := Option.bind_eq_some_iff.mp H
    try dsimp only at H
    have A16 := A_ A160; clear A160
    have H' := A_ H; clear H
    go_wp2_with (first | ((with_reducible refine gate_dst (N := 30) rfl ?_); (try (refine gate_guard (by rfl) ?_; dsimp only)); refine Kd.R_lit (Kd.int .i64) _ 3 ?hg (N := 30) ?hd (xs := ([a3] : List Int)) (inner := [.int .i64 a3]) (ok := fun _ => True) (okp := fun _ => True) ?hr ?hp (fun _ hk => hk) trivial (Below.refl _ _) (Nat.le_refl _) (by simp) ?_; (case hd => rfl); (case hg => rfl); (case hr => first | (go_simp; done) | (go_simp; rfl)); (case hp => exact (Reps.one (show Kd.M (Kd.int .i64) _ _ _ a3 [.int .i64 a3] from rfl) (Reps.none _ _))); intro v707 w17 ho18 hb hg_ hnew_; clear hg_ hnew_; (first | rw [← Ny706.out] at ho18 | (simp only [Int.reduceToNat] at ho18; rw [← Ny706.out] at ho18)); have n0_ := A_ (Kd.V_elder' (by (with_reducible repeat (first | apply Kd.V_alloc | apply Kd.V_drewN | apply Kd.V_drew)); exact (Kd.V_mono (Kd.V_far (p := ⟨gb705, 2, none⟩) (Kd.V_far (p := ⟨gb705, 1, none⟩) (Kd.V_far (p := ⟨gb705, 0, none⟩) (Kd.V_mono HO699.out (fun k_ hk => (⟨hk, hk.2⟩ : _ ∧ k_ ≠ gb705))) (fun _ hk => hk.2) (.slice Ao10 t697.length co10)) (fun _ hk => hk.2) (.slice Ao12 t700.length co12)) (fun _ hk => hk.2) (.int .i64 t703)) (fun _ h_ => h_.1))) (Kd.R_base ho18) hb); have n1_ := A_ (Kd.V_elder' (by (with_reducible repeat (first | apply Kd.V_alloc | apply Kd.V_drewN | apply Kd.V_drew)); exact (Kd.V_mono (Kd.V_far (p := ⟨gb705, 2, none⟩) (Kd.V_far (p := ⟨gb705, 1, none⟩) (Kd.V_far (p := ⟨gb705, 0, none⟩) (Kd.V_mono HO702.out (fun k_ hk => (⟨hk, hk.2⟩ : _ ∧ k_ ≠ gb705))) (fun _ hk => hk.2) (.slice Ao10 t697.length co10)) (fun _ hk => hk.2) (.slice Ao12 t700.length co12)) (fun _ hk => hk.2) (.int .i64 t703)) (fun _ h_ => h_.1))) (Kd.R_base ho18) hb); have n2_ := A_ (Kd.R_lower ho18 (below_size (bs_ GE705.out))); have n3_ := A_ (blk_below (g := gb705) (o := .cells #[.slice Ao10 t697.length co10, .slice Ao12 t700.length co12, .int .i64 t703] 63 (0, 0)) (by (with_reducible repeat (first | refine blk_drewN ?_ _ | refine blk_drew ?_ | refine blk_alloc ?_ _)); refine blk_put (cs := #[.slice Ao10 t697.length co10, .slice Ao12 t700.length co12, .int .i64 0]) ?_ 2 _ rfl; (with_reducible repeat (first | refine blk_drewN ?_ _ | refine blk_drew ?_ | refine blk_alloc ?_ _)); refine blk_put (cs := #[.slice Ao10 t697.length co10, .slice none 0 0, .int .i64 0]) ?_ 1 _ rfl; (with_reducible repeat (first | refine blk_drewN ?_ _ | refine blk_drew ?_ | refine blk_alloc ?_ _)); refine blk_put (cs := #[.slice none 0 0, .slice none 0 0, .int .i64 0]) ?_ 0 _ rfl; (with_reducible repeat (first | refine blk_drewN ?_ _ | refine blk_drew ?_ | refine blk_alloc ?_ _)); exact BK705.out) hb); have n4_ := A_ (below_step (bs_ GE705.out) hb); clear HO699; clear HO702; clear BK705; clear HB; have HO699 := n0_; have HO702 := n1_; have HO708 := n2_; have BK705 := n3_; have HB := n4_; clear n0_ n1_ n2_ n3_ n4_; clear hb ho18; obtain ⟨Ao19, co19, eo19⟩ := Kd.R_slice HO708.out; subst eo19) | (go_at_call 55; (with_reducible refine (impl_areVertices.calls _ _ l0 _ _ y706 true _ ?side1 ?side2 ?side3 ?side4 A14.out).mono ?_); (case side1 => exact kC_ (Kd.C_below HR0.out HB.out)); (case side2 => exact HC0.out); (case side3 => exact kC_ ((Kd.R_reads' HO708.out).2.2)); (case side4 => exact (Kd.R_reads' HO708.out).2.1); rintro e w20 ⟨rfl, hb⟩; have n0_ := A_ (Kd.V_below (by (with_reducible repeat (first | apply Kd.V_alloc | apply Kd.V_drewN | apply Kd.V_drew)); exact HO699.out) hb); have n1_ := A_ (Kd.V_below (by (with_reducible repeat (first | apply Kd.V_alloc | apply Kd.V_drewN | apply Kd.V_drew)); exact HO702.out) hb); have n2_ := A_ (Kd.R_below (kR_ HO708.out) hb); have n3_ := A_ (blk_below (g := gb705) (o := .cells #[.slice Ao10 t697.length co10, .slice Ao12 t700.length co12, .int .i64 t703] 63 (0, 0)) (by (with_reducible repeat (first | refine blk_drewN ?_ _ | refine blk_drew ?_ | refine blk_alloc ?_ _)); exact BK705.out) hb); have n4_ := A_ (below_step (bs_ GE705.out) hb); clear HO699; clear HO702; clear HO708; clear BK705; clear HB; have HO699 := n0_; have HO702 := n1_; have HO708 := n2_; have BK705 := n3_; have HB := n4_; clear n0_ n1_ n2_ n3_ n4_; (try clear hb); (try clear hb2); (try clear hk); (try clear hi)) | (go_at_call 68; (with_reducible refine (impl_within.calls a4 1 10000 t710 _ A16.out).mono ?_); rintro e w' ⟨rfl, ⟨nd, rfl⟩⟩))
    go_meet
    case rel => exact ⟨_, (!t710), es_, H', ⟨by first | omega | exact Nat.le_refl _⟩, ⟨by (with_reducible repeat (first | apply Kd.V_alloc | apply Kd.V_drewN | apply Kd.V_drew)); exact Kd.V_mono HO699.out (fun _ hk => hk.1.2)⟩, ⟨by (with_reducible repeat (first | apply Kd.V_alloc | apply Kd.V_drewN | apply Kd.V_drew)); exact Kd.V_mono HO702.out (fun _ hk => hk.1.2)⟩, ⟨by (with_reducible repeat (first | refine blk_drewN ?_ _ | refine blk_drew ?_ | refine blk_alloc ?_ _)); exact BK705.out⟩, ⟨bs_ GE705.out⟩⟩
   ·
    replace c15 := Bool.eq_false_iff.mpr c15
    subst c15
    rw [if_neg (show ¬ (false = true) by decide)] at H
    have H' := A_ H; clear H
    go_wp2_with (first | ((with_reducible refine gate_dst (N := 30) rfl ?_); (try (refine gate_guard (by rfl) ?_; dsimp only)); refine Kd.R_lit (Kd.int .i64) _ 3 ?hg (N := 30) ?hd (xs := ([a3] : List Int)) (inner := [.int .i64 a3]) (ok := fun _ => True) (okp := fun _ => True) ?hr ?hp (fun _ hk => hk) trivial (Below.refl _ _) (Nat.le_refl _) (by simp) ?_; (case hd => rfl); (case hg => rfl); (case hr => first | (go_simp; done) | (go_simp; rfl)); (case hp => exact (Reps.one (show Kd.M (Kd.int .i64) _ _ _ a3 [.int .i64 a3] from rfl) (Reps.none _ _))); intro v707 w21 ho22 hb hg_ hnew_; clear hg_ hnew_; (first | rw [← Ny706.out] at ho22 | (simp only [Int.reduceToNat] at ho22; rw [← Ny706.out] at ho22)); have n0_ := A_ (Kd.V_elder' (by (with_reducible repeat (first | apply Kd.V_alloc | apply Kd.V_drewN | apply Kd.V_drew)); exact (Kd.V_mono (Kd.V_far (p := ⟨gb705, 2, none⟩) (Kd.V_far (p := ⟨gb705, 1, none⟩) (Kd.V_far (p := ⟨gb705, 0, none⟩) (Kd.V_mono HO699.out (fun k_ hk => (⟨hk, hk.2⟩ : _ ∧ k_ ≠ gb705))) (fun _ hk => hk.2) (.slice Ao10 t697.length co10)) (fun _ hk => hk.2) (.slice Ao12 t700.length co12)) (fun _ hk => hk.2) (.int .i64 t703)) (fun _ h_ => h_.1))) (Kd.R_base ho22) hb); have n1_ := A_ (Kd.V_elder' (by (with_reducible repeat (first | apply Kd.V_alloc | apply Kd.V_drewN | apply Kd.V_drew)); exact (Kd.V_mono (Kd.V_far (p := ⟨gb705, 2, none⟩) (Kd.V_far (p := ⟨gb705, 1, none⟩) (Kd.V_far (p := ⟨gb705, 0, none⟩) (Kd.V_mono HO702.out (fun k_ hk => (⟨hk, hk.2⟩ : _ ∧ k_ ≠ gb705))) (fun _ hk => hk.2) (.slice Ao10 t697.length co10)) (fun _ hk => hk.2) (.slice Ao12 t700.length co12)) (fun _ hk => hk.2) (.int .i64 t703)) (fun _ h_ => h_.1))) (Kd.R_base ho22) hb); have n2_ := A_ (Kd.R_lower ho22 (below_size (bs_ GE705.out))); have n3_ := A_ (blk_below (g := gb705) (o := .cells #[.slice Ao10 t697.length co10, .slice Ao12 t700.length co12, .int .i64 t703] 63 (0, 0)) (by (with_reducible repeat (first | refine blk_drewN ?_ _ | refine blk_drew ?_ | refine blk_alloc ?_ _)); refine blk_put (cs := #[.slice Ao10 t697.length co10, .slice Ao12 t700.length co12, .int .i64 0]) ?_ 2 _ rfl; (with_reducible repeat (first | refine blk_drewN ?_ _ | refine blk_drew ?_ | refine blk_alloc ?_ _)); refine blk_put (cs := #[.slice Ao10 t697.length co10, .slice none 0 0, .int .i64 0]) ?_ 1 _ rfl; (with_reducible repeat (first | refine blk_drewN ?_ _ | refine blk_drew ?_ | refine blk_alloc ?_ _)); refine blk_put (cs := #[.slice none 0 0, .slice none 0 0, .int .i64 0]) ?_ 0 _ rfl; (with_reducible repeat (first | refine blk_drewN ?_ _ | refine blk_drew ?_ | refine blk_alloc ?_ _)); exact BK705.out) hb); have n4_ := A_ (below_step (bs_ GE705.out) hb); clear HO699; clear HO702; clear BK705; clear HB; have HO699 := n0_; have HO702 := n1_; have HO708 := n2_; have BK705 := n3_; have HB := n4_; clear n0_ n1_ n2_ n3_ n4_; clear hb ho22; obtain ⟨Ao23, co23, eo23⟩ := Kd.R_slice HO708.out; subst eo23) | (go_at_call 55; (with_reducible refine (impl_areVertices.calls _ _ l0 _ _ y706 false _ ?side1 ?side2 ?side3 ?side4 A14.out).mono ?_); (case side1 => exact kC_ (Kd.C_below HR0.out HB.out)); (case side2 => exact HC0.out); (case side3 => exact kC_ ((Kd.R_reads' HO708.out).2.2)); (case side4 => exact (Kd.R_reads' HO708.out).2.1); rintro e w24 ⟨rfl, hb⟩; have n0_ := A_ (Kd.V_below (by (with_reducible repeat (first | apply Kd.V_alloc | apply Kd.V_drewN | apply Kd.V_drew)); exact HO699.out) hb); have n1_ := A_ (Kd.V_below (by (with_reducible repeat (first | apply Kd.V_alloc | apply Kd.V_drewN | apply Kd.V_drew)); exact HO702.out) hb); have n2_ := A_ (Kd.R_below (kR_ HO708.out) hb); have n3_ := A_ (blk_below (g := gb705) (o := .cells #[.slice Ao10 t697.length co10, .slice Ao12 t700.length co12, .int .i64 t703] 63 (0, 0)) (by (with_reducible repeat (first | refine blk_drewN ?_ _ | refine blk_drew ?_ | refine blk_alloc ?_ _)); exact BK705.out) hb); have n4_ := A_ (below_step (bs_ GE705.out) hb); clear HO699; clear HO702; clear HO708; clear BK705; clear HB; have HO699 := n0_; have HO702 := n1_; have HO708 := n2_; have BK705 := n3_; have HB := n4_; clear n0_ n1_ n2_ n3_ n4_; (try clear hb); (try clear hb2); (try clear hk); (try clear hi)))
    go_meet
    case rel => exact ⟨_, (true), es_, H', ⟨by first | omega | exact Nat.le_refl _⟩, ⟨by (with_reducible repeat (first | apply Kd.V_alloc | apply Kd.V_drewN | apply Kd.V_drew)); exact Kd.V_mono HO699.out (fun _ hk => hk.1.2)⟩, ⟨by (with_reducible repeat (first | apply Kd.V_alloc | apply Kd.V_drewN | apply Kd.V_drew)); exact Kd.V_mono HO702.out (fun _ hk => hk.1.2)⟩, ⟨by (with_reducible repeat (first | refine blk_drewN ?_ _ | refine blk_drew ?_ | refine blk_alloc ?_ _)); exact BK705.out⟩, ⟨bs_ GE705.out⟩⟩
  ·
   replace c13 := Bool.eq_false_iff.mpr c13
   subst c13
   rw [if_neg (show ¬ (false = true) by decide)] at H
   have H' := A_ H; clear H
   go_wp2
   go_meet
   case rel => exact ⟨_, (true), es_, H', ⟨by first | omega | exact Nat.le_refl _⟩, ⟨by (with_reducible repeat (first | apply Kd.V_alloc | apply Kd.V_drewN | apply Kd.V_drew)); exact Kd.V_mono (Kd.V_far (p := ⟨gb705, 2, none⟩) (Kd.V_far (p := ⟨gb705, 1, none⟩) (Kd.V_far (p := ⟨gb705, 0, none⟩) (Kd.V_mono HO699.out (fun k_ hk => (⟨hk, hk.2⟩ : _ ∧ k_ ≠ gb705))) (fun _ hk => hk.2) (.slice Ao10 t697.length co10)) (fun _ hk => hk.2) (.slice Ao12 t700.length co12)) (fun _ hk => hk.2) (.int .i64 t703)) (fun _ hk => hk.1.2)⟩, ⟨by (with_reducible repeat (first | apply Kd.V_alloc | apply Kd.V_drewN | apply Kd.V_drew)); exact Kd.V_mono (Kd.V_far (p := ⟨gb705, 2, none⟩) (Kd.V_far (p := ⟨gb705, 1, none⟩) (Kd.V_far (p := ⟨gb705, 0, none⟩) (Kd.V_mono HO702.out (fun k_ hk => (⟨hk, hk.2⟩ : _ ∧ k_ ≠ gb705))) (fun _ hk => hk.2) (.slice Ao10 t697.length co10)) (fun _ hk => hk.2) (.slice Ao12 t700.length co12)) (fun _ hk => hk.2) (.int .i64 t703)) (fun _ hk => hk.1.2)⟩, ⟨by (with_reducible repeat (first | refine blk_drewN ?_ _ | refine blk_drew ?_ | refine blk_alloc ?_ _)); refine blk_put (cs := #[.slice Ao10 t697.length co10, .slice Ao12 t700.length co12, .int .i64 0]) ?_ 2 _ rfl; (with_reducible repeat (first | refine blk_drewN ?_ _ | refine blk_drew ?_ | refine blk_alloc ?_ _)); refine blk_put (cs := #[.slice Ao10 t697.length co10, .slice none 0 0, .int .i64 0]) ?_ 1 _ rfl; (with_reducible repeat (first | refine blk_drewN ?_ _ | refine blk_drew ?_ | refine blk_alloc ?_ _)); refine blk_put (cs := #[.slice none 0 0, .slice none 0 0, .int .i64 0]) ?_ 0 _ rfl; (with_reducible repeat (first | refine blk_drewN ?_ _ | refine blk_drew ?_ | refine blk_alloc ?_ _)); exact BK705.out⟩, ⟨bs_ GE705.out⟩⟩
 case rest =>
  clear HC7
  (try clear c1); (try clear p2); (try clear c4); (try clear c5); (try clear c13); (try clear c15); (try clear hcz11_0); (try clear hcz11_1); (try clear hcz11_2); (try clear hfz11_0); (try clear hfz11_1); (try clear hfz11_2)
  obtain ⟨kq, x38_6, rfl, HA, HJ6, HO_706000, HO_706001, BK705, HB⟩ := hcut
  cases kq with
  | zero => exact absurd HA.out (by simp [impl_TrainsReached.j0])
  | succ kj6 =>
   have H := HA.out
   clear HA
   simp only [impl_TrainsReached.j0] at H
   by_cases c25 : x38_6 = true
   ·
    subst c25
    rw [if_pos rfl] at H
    simp only [Option.some.injEq, Prod.mk.injEq] at H
    obtain ⟨rfl, rfl⟩ := H
    go_wp2
    go_ret2
    exact ⟨_, ew_, by first | exact Kd.R_nil _ _ _ _ _ | exact Kd.N_nil _ _ _ _ _ | exact Kd.V_nil _ _ _ _ _ | exact Kd.Q_nil _ _ _ _ _ | exact Kd.S_nil _ _ _ _ _, bs_ GE705.out⟩
   ·
    replace c25 := Bool.eq_false_iff.mpr c25
    subst c25
    rw [if_neg (show ¬ (false = true) by decide)] at H
    by_cases c26 : 0 ≤ (l0.length : Int)
    ·
     rw [if_pos c26] at H
     have c26b0 := eq_true c26
     have c26b1 : decide (0 ≤ (l0.length : Int)) = true := decide_eq_true c26
     clear c26
     by_cases c27 : ((l0.length : Int) : Int).toNat ≤ 35184372088832
     ·
      rw [if_pos c27] at H
      have c27b0 := eq_true c27
      have c27b1 : decide (((l0.length : Int) : Int).toNat ≤ 35184372088832) = true := decide_eq_true c27
      clear c27
      obtain ⟨y711, hy711⟩ : ∃ y_ : List Int, y_ = (List.replicate ((l0.length : Int) : Int).toNat 0) := ⟨_, rfl⟩
      replace H : (if ((l0.length : Int) : Int).toNat ≤ 281474976710656 then (if 0 ≤ a3 then (if a3 < (y711.length : Int) then (impl_TrainsReached.l0 kj6 (y711.set (a3 : Int).toNat a4) (List.replicate ((l0.length : Int) : Int).toNat false) 0 t697 t700 t703) else (none)) else (none)) else (none)) = some (r1, r2) := by first | (rw [hy711]; with_reducible exact H) | (have H2_ := (Option.bind_some _ _).symm.trans H; rw [hy711]; with_reducible exact H2_) | (have H2_ := (Option.bind_some _ _).symm.trans H; with_reducible exact H2_) | with_reducible exact H | (rw [hy711]; exact H) | exact H
      have Ny711 := A_ hy711
      clear hy711
      by_cases c28 : ((l0.length : Int) : Int).toNat ≤ 281474976710656
      ·
       rw [if_pos c28] at H
       have c28b0 := eq_true c28
       have c28b1 : decide (((l0.length : Int) : Int).toNat ≤ 281474976710656) = true := decide_eq_true c28
       clear c28
       obtain ⟨y714, hy714⟩ : ∃ y_ : List Bool, y_ = (List.replicate ((l0.length : Int) : Int).toNat false) := ⟨_, rfl⟩
       replace H : (if 0 ≤ a3 then (if a3 < (y711.length : Int) then (impl_TrainsReached.l0 kj6 (y711.set (a3 : Int).toNat a4) y714 0 t697 t700 t703) else (none)) else (none)) = some (r1, r2) := by first | (rw [hy714]; with_reducible exact H) | (have H2_ := (Option.bind_some _ _).symm.trans H; rw [hy714]; with_reducible exact H2_) | (have H2_ := (Option.bind_some _ _).symm.trans H; with_reducible exact H2_) | with_reducible exact H | (rw [hy714]; exact H) | exact H
       have Ny714 := A_ hy714
       clear hy714
       by_cases c29 : 0 ≤ a3
       ·
        rw [if_pos c29] at H
        have c29b0 := decide_eq_true c29
        clear c29
        by_cases c30 : a3 < (y711.length : Int)
        ·
         rw [if_pos c30] at H
         have c30b0 := decide_eq_true c30
         clear c30
         obtain ⟨y717, hy717⟩ : ∃ y_ : List Int, y_ = (y711.set (a3 : Int).toNat a4) := ⟨_, rfl⟩
         replace H : (impl_TrainsReached.l0 kj6 y717 y714 0 t697 t700 t703) = some (r1, r2) := by first | (rw [hy717]; with_reducible exact H) | (have H2_ := (Option.bind_some _ _).symm.trans H; rw [hy717]; with_reducible exact H2_) | (have H2_ := (Option.bind_some _ _).symm.trans H; with_reducible exact H2_) | with_reducible exact H | (rw [hy717]; exact H) | exact H
         have Ny717 := A_ hy717
         clear hy717
         have H' := A_ H; clear H
         try go_wp2
         have n0_ := A_ (Kd.V_drew HO_706000.out)
         have n1_ := A_ (Kd.V_drew HO_706001.out)
         have n2_ := A_ (blk_drew BK705.out)
         have n3_ := A_ (below_drew1 HB.out)
         clear HO_706000
         clear HO_706001
         clear BK705
         clear HB
         have HO_706000 := n0_
         have HO_706001 := n1_
         have BK705 := n2_
         have HB := n3_
         clear n0_ n1_ n2_ n3_
         refine start_ (n := 8) (S := fun w' => True) (ds := []) #[false, false, false, false, false, false, false, false] kr_ rfl rfl trivial (fun hHeld => ?_); refine with_tabW impl_TrainsReached.tab4 impl_TrainsReached.bits4 (fun HT_ HW_ => ?_)
         generalize wc.drew = w32 at HO_706000 HO_706001 BK705 HB hHeld ⊢
         refine pure_ (i := 0) (N := some 39) (v := ?_) (a' := ?_) #[true, false, false, false, false, false, false, false] rfl rfl (any_of HT_.out kr_) (fun _ _ _ h => h) (Or.inl ⟨by rfl, ?_⟩) ?_ ?_
         rotate_left
         ·
          intro w'
          go_simp
          with_reducible rfl
         rotate_left
         ·
          simp only [Act.put, List.setIfInBounds_toArray, List.set_cons_zero, List.set_cons_succ, i64_w, i32_w]
          rfl
         refine pure_ (i := 1) (N := some 40) (v := ?_) (a' := ?_) #[true, true, false, false, false, false, false, false] rfl rfl (any_of HT_.out kr_) (fun _ _ _ h => h) (Or.inl ⟨by rfl, ?_⟩) ?_ ?_
         rotate_left
         ·
          intro w'
          go_simp
          with_reducible rfl
         rotate_left
         ·
          simp only [Act.put, List.setIfInBounds_toArray, List.set_cons_zero, List.set_cons_succ, i64_w, i32_w]
          rfl
         refine pure_ (i := 3) (N := some 42) (v := ?_) (a' := ?_) #[true, true, false, true, false, false, false, false] rfl rfl (any_of HT_.out kr_) (fun _ _ _ h => h) (Or.inl ⟨by rfl, ?_⟩) ?_ ?_
         rotate_left
         ·
          intro w'
          go_simp
          with_reducible rfl
         rotate_left
         ·
          simp only [Act.put, List.setIfInBounds_toArray, List.set_cons_zero, List.set_cons_succ, i64_w, i32_w]
          rfl
         refine pure_ (i := 4) (N := some 43) (v := ?_) (a' := ?_) #[true, true, false, true, true, false, false, false] rfl rfl (any_of HT_.out kr_) (fun _ _ _ h => h) (Or.inl ⟨by rfl, ?_⟩) ?_ ?_
         rotate_left
         ·
          intro w'
          go_simp
          with_reducible rfl
         rotate_left
         ·
          simp only [Act.put, List.setIfInBounds_toArray, List.set_cons_zero, List.set_cons_succ, i64_w, i32_w]
          rfl
         refine join_ (σ := Value × Value) 1 #[true, true, true, true, true, true, true, false] (fun s_ => [(41, s_.1), (44, s_.2), (14, s_.1)]) (fun s_ w' => (Kd.R (Kd.int .i64) 3 w' w.heap.size (fun _ => True) s_.1 y711) ∧ (Kd.R Kd.bool 4 w' w.heap.size (fun _ => True) s_.2 y714) ∧ (Kd.V (Kd.slice 3 (Kd.int .i64)) 23 w' w.heap.size (fun k_ => some k_ ≠ (s_.1 : Value).ownBlock ∧ some k_ ≠ (s_.2 : Value).ownBlock ∧ k_ ≠ gb705) (.slice Ao10 t697.length co10) t697) ∧ (Kd.V (Kd.int .i64) 3 w' w.heap.size (fun k_ => some k_ ≠ (s_.1 : Value).ownBlock ∧ some k_ ≠ (s_.2 : Value).ownBlock ∧ k_ ≠ gb705) (.slice Ao12 t700.length co12) t700) ∧ (w'.heap[gb705]? = some (.cells #[.slice Ao10 t697.length co10, .slice Ao12 t700.length co12, .int .i64 t703] 63 (0, 0))) ∧ (Below w.heap.size w w')) ?_ ?_
         rotate_left
         ·
          intro hCont
          refine two_ (i := 2) (j := 5) (Ni := some 41) (Nj := some 44) #[true, true, true, true, true, false, false, false] #[true, true, false, true, true, true, false, false] rfl rfl rfl rfl (two_of HT_.out kr_) (by decide) (by decide) (fun K hK => ?_) (fun K hK => ?_)
          ·
           skip
           refine Kd.R_make_step (Kd.int .i64) _ 3 (by rfl) (N := 41) rfl 23 _ _ rfl (l0.length : Int) rfl rfl Try.underlying23 (.int .i64 0) 8 info3 rfl (by decide) (by omega) 0 (ok := fun _ => True) (okp := fun _ => True) rfl (fun _ hk => hk) trivial (od_) (Nat.le_trans (Nat.mul_le_mul_right _ (od_ : (l0.length : Int).toNat ≤ 35184372088832)) (by omega)) (Below.refl _ _) (Nat.le_refl _) ?_
           intro v712 w33 ho34 hb hg_ hnew_
           clear hg_ hnew_
           (first | rw [← Ny711.out] at ho34 | (simp only [Int.reduceToNat] at ho34; rw [← Ny711.out] at ho34))
           have n0_ := A_ (Kd.V_elder' (by (with_reducible repeat (first | apply Kd.V_alloc | apply Kd.V_drewN | apply Kd.V_drew)); exact HO_706000.out) (Kd.R_base ho34) hb)
           have n1_ := A_ (Kd.V_elder' (by (with_reducible repeat (first | apply Kd.V_alloc | apply Kd.V_drewN | apply Kd.V_drew)); exact HO_706001.out) (Kd.R_base ho34) hb)
           have n2_ := A_ (Kd.R_lower ho34 (below_size (bs_ GE705.out)))
           have n3_ := A_ (blk_below (g := gb705) (o := .cells #[.slice Ao10 t697.length co10, .slice Ao12 t700.length co12, .int .i64 t703] 63 (0, 0)) (by (with_reducible repeat (first | refine blk_drewN ?_ _ | refine blk_drew ?_ | refine blk_alloc ?_ _)); exact BK705.out) hb)
           have n4_ := A_ (below_step (bs_ GE705.out) hb)
           clear HO_706000
           clear HO_706001
           clear BK705
           clear HB
           have HO_706000 := n0_
           have HO_706001 := n1_
           have HO713 := n2_
           have BK705 := n3_
           have HB := n4_
           clear n0_ n1_ n2_ n3_ n4_
           clear hb ho34
           refine hK.out _ _ trivial (fun hHeld => ?_)
           clear hK K
           refine norm_ (a' := ?_) ?_ ?_
           rotate_left
           ·
            show Act.put _ (some 41) _ = _
            simp only [Act.put, List.setIfInBounds_toArray, List.set_cons_zero, List.set_cons_succ, i64_w, i32_w]
            rfl
           refine pure_ (i := 6) (N := some 14) (v := ?_) (a' := ?_) #[true, true, true, true, true, false, true, false] rfl rfl (any_of HT_.out kr_) (fun _ _ _ h => h) (Or.inl ⟨by rfl, ?_⟩) ?_ ?_
           rotate_left
           ·
            intro w'
            go_simp
            with_reducible rfl
           rotate_left
           ·
            simp only [Act.put, List.setIfInBounds_toArray, List.set_cons_zero, List.set_cons_succ, i64_w, i32_w]
            rfl
           refine one_ (i := 5) (N := some 44) #[true, true, true, true, true, true, true, false] rfl rfl (one_of HT_.out kr_) (by decide) (fun K hK => ?_)
           refine Kd.R_make_step Kd.bool _ 4 (by rfl) (N := 44) rfl 78 _ _ rfl (l0.length : Int) rfl rfl Try.underlying78 (.bool false) 1 info4 rfl (by decide) (by omega) false (ok := fun _ => True) (okp := fun _ => True) rfl (fun _ hk => hk) trivial (od_) (Nat.le_trans (Nat.mul_le_mul_right _ (od_ : (l0.length : Int).toNat ≤ 281474976710656)) (by omega)) (Below.refl _ _) (Nat.le_refl _) ?_
           intro v715 w35 ho36 hb hg_ hnew_
           clear hg_ hnew_
           (first | rw [← Ny714.out] at ho36 | (simp only [Int.reduceToNat] at ho36; rw [← Ny714.out] at ho36))
           have n0_ := A_ (Kd.V_elder' (by (with_reducible repeat (first | apply Kd.V_alloc | apply Kd.V_drewN | apply Kd.V_drew)); exact HO_706000.out) (Kd.R_base ho36) hb)
           have n1_ := A_ (Kd.V_elder' (by (with_reducible repeat (first | apply Kd.V_alloc | apply Kd.V_drewN | apply Kd.V_drew)); exact HO_706001.out) (Kd.R_base ho36) hb)
           have n2_ := A_ (Kd.R_below (kR_ HO713.out) hb)
           have n3_ := A_ (Kd.R_lower ho36 (below_size (bs_ GE705.out)))
           have n4_ := A_ (blk_below (g := gb705) (o := .cells #[.slice Ao10 t697.length co10, .slice Ao12 t700.length co12, .int .i64 t703] 63 (0, 0)) (by (with_reducible repeat (first | refine blk_drewN ?_ _ | refine blk_drew ?_ | refine blk_alloc ?_ _)); exact BK705.out) hb)
           have n5_ := A_ (below_step (bs_ GE705.out) hb)
           clear HO_706000
           clear HO_706001
           clear HO713
           clear BK705
           clear HB
           have HO_706000 := n0_
           have HO_706001 := n1_
           have HO713 := n2_
           have HO716 := n3_
           have BK705 := n4_
           have HB := n5_
           clear n0_ n1_ n2_ n3_ n4_ n5_
           clear hb ho36
           refine hK.out _ _ trivial (fun hHeld => ?_)
           clear hK K
           refine norm_ (a' := ?_) ?_ ?_
           rotate_left
           ·
            show Act.put _ (some 44) _ = _
            simp only [Act.put, List.setIfInBounds_toArray, List.set_cons_zero, List.set_cons_succ, i64_w, i32_w]
            rfl
           exact norm_ (by simp only [putAll, Act.put, List.setIfInBounds_toArray, List.set_cons_zero, List.set_cons_succ]) (hCont (v712, v715) _ ⟨(kR_ HO713.out), (kR_ HO716.out), (by (with_reducible repeat (first | apply Kd.V_alloc | apply Kd.V_drewN | apply Kd.V_drew)); exact Kd.V_mono HO_706000.out (fun _ hk => ⟨hk.1.2, ⟨hk.2, hk.1.1⟩⟩)), (by (with_reducible repeat (first | apply Kd.V_alloc | apply Kd.V_drewN | apply Kd.V_drew)); exact Kd.V_mono HO_706001.out (fun _ hk => ⟨hk.1.2, ⟨hk.2, hk.1.1⟩⟩)), (by (with_reducible repeat (first | refine blk_drewN ?_ _ | refine blk_drew ?_ | refine blk_alloc ?_ _)); exact BK705.out), (bs_ GE705.out)⟩)
          ·
           skip
           refine Kd.R_make_step Kd.bool _ 4 (by rfl) (N := 44) rfl 78 _ _ rfl (l0.length : Int) rfl rfl Try.underlying78 (.bool false) 1 info4 rfl (by decide) (by omega) false (ok := fun _ => True) (okp := fun _ => True) rfl (fun _ hk => hk) trivial (od_) (Nat.le_trans (Nat.mul_le_mul_right _ (od_ : (l0.length : Int).toNat ≤ 281474976710656)) (by omega)) (Below.refl _ _) (Nat.le_refl _) ?_
           intro v715 w33 ho34 hb hg_ hnew_
           clear hg_ hnew_
           (first | rw [← Ny714.out] at ho34 | (simp only [Int.reduceToNat] at ho34; rw [← Ny714.out] at ho34))
           have n0_ := A_ (Kd.V_elder' (by (with_reducible repeat (first | apply Kd.V_alloc | apply Kd.V_drewN | apply Kd.V_drew)); exact HO_706000.out) (Kd.R_base ho34) hb)
           have n1_ := A_ (Kd.V_elder' (by (with_reducible repeat (first | apply Kd.V_alloc | apply Kd.V_drewN | apply Kd.V_drew)); exact HO_706001.out) (Kd.R_base ho34) hb)
           have n2_ := A_ (Kd.R_lower ho34 (below_size (bs_ GE705.out)))
           have n3_ := A_ (blk_below (g := gb705) (o := .cells #[.slice Ao10 t697.length co10, .slice Ao12 t700.length co12, .int .i64 t703] 63 (0, 0)) (by (with_reducible repeat (first | refine blk_drewN ?_ _ | refine blk_drew ?_ | refine blk_alloc ?_ _)); exact BK705.out) hb)
           have n4_ := A_ (below_step (bs_ GE705.out) hb)
           clear HO_706000
           clear HO_706001
           clear BK705
           clear HB
           have HO_706000 := n0_
           have HO_706001 := n1_
           have HO716 := n2_
           have BK705 := n3_
           have HB := n4_
           clear n0_ n1_ n2_ n3_ n4_
           clear hb ho34
           refine hK.out _ _ trivial (fun hHeld => ?_)
           clear hK K
           refine norm_ (a' := ?_) ?_ ?_
           rotate_left
           ·
            show Act.put _ (some 44) _ = _
            simp only [Act.put, List.setIfInBounds_toArray, List.set_cons_zero, List.set_cons_succ, i64_w, i32_w]
            rfl
           refine one_ (i := 2) (N := some 41) #[true, true, true, true, true, true, false, false] rfl rfl (one_of HT_.out kr_) (by decide) (fun K hK => ?_)
           refine Kd.R_make_step (Kd.int .i64) _ 3 (by rfl) (N := 41) rfl 23 _ _ rfl (l0.length : Int) rfl rfl Try.underlying23 (.int .i64 0) 8 info3 rfl (by decide) (by omega) 0 (ok := fun _ => True) (okp := fun _ => True) rfl (fun _ hk => hk) trivial (od_) (Nat.le_trans (Nat.mul_le_mul_right _ (od_ : (l0.length : Int).toNat ≤ 35184372088832)) (by omega)) (Below.refl _ _) (Nat.le_refl _) ?_
           intro v712 w35 ho36 hb hg_ hnew_
           clear hg_ hnew_
           (first | rw [← Ny711.out] at ho36 | (simp only [Int.reduceToNat] at ho36; rw [← Ny711.out] at ho36))
           have n0_ := A_ (Kd.V_elder' (by (with_reducible repeat (first | apply Kd.V_alloc | apply Kd.V_drewN | apply Kd.V_drew)); exact HO_706000.out) (Kd.R_base ho36) hb)
           have n1_ := A_ (Kd.V_elder' (by (with_reducible repeat (first | apply Kd.V_alloc | apply Kd.V_drewN | apply Kd.V_drew)); exact HO_706001.out) (Kd.R_base ho36) hb)
           have n2_ := A_ (Kd.R_below (kR_ HO716.out) hb)
           have n3_ := A_ (Kd.R_lower ho36 (below_size (bs_ GE705.out)))
           have n4_ := A_ (blk_below (g := gb705) (o := .cells #[.slice Ao10 t697.length co10, .slice Ao12 t700.length co12, .int .i64 t703] 63 (0, 0)) (by (with_reducible repeat (first | refine blk_drewN ?_ _ | refine blk_drew ?_ | refine blk_alloc ?_ _)); exact BK705.out) hb)
           have n5_ := A_ (below_step (bs_ GE705.out) hb)
           clear HO_706000
           clear HO_706001
           clear HO716
           clear BK705
           clear HB
           have HO_706000 := n0_
           have HO_706001 := n1_
           have HO716 := n2_
           have HO713 := n3_
           have BK705 := n4_
           have HB := n5_
           clear n0_ n1_ n2_ n3_ n4_ n5_
           clear hb ho36
           refine hK.out _ _ trivial (fun hHeld => ?_)
           clear hK K
           refine norm_ (a' := ?_) ?_ ?_
           rotate_left
           ·
            show Act.put _ (some 41) _ = _
            simp only [Act.put, List.setIfInBounds_toArray, List.set_cons_zero, List.set_cons_succ, i64_w, i32_w]
            rfl
           refine pure_ (i := 6) (N := some 14) (v := ?_) (a' := ?_) #[true, true, true, true, true, true, true, false] rfl rfl (any_of HT_.out kr_) (fun _ _ _ h => h) (Or.inl ⟨by rfl, ?_⟩) ?_ ?_
           rotate_left
           ·
            intro w'
            go_simp
            with_reducible rfl
           rotate_left
           ·
            simp only [Act.put, List.setIfInBounds_toArray, List.set_cons_zero, List.set_cons_succ, i64_w, i32_w]
            rfl
           exact norm_ (by simp only [putAll, Act.put, List.setIfInBounds_toArray, List.set_cons_zero, List.set_cons_succ]) (hCont (v712, v715) _ ⟨(kR_ HO713.out), (kR_ HO716.out), (by (with_reducible repeat (first | apply Kd.V_alloc | apply Kd.V_drewN | apply Kd.V_drew)); exact Kd.V_mono HO_706000.out (fun _ hk => ⟨hk.2, ⟨hk.1.2, hk.1.1⟩⟩)), (by (with_reducible repeat (first | apply Kd.V_alloc | apply Kd.V_drewN | apply Kd.V_drew)); exact Kd.V_mono HO_706001.out (fun _ hk => ⟨hk.2, ⟨hk.1.2, hk.1.1⟩⟩)), (by (with_reducible repeat (first | refine blk_drewN ?_ _ | refine blk_drew ?_ | refine blk_alloc ?_ _)); exact BK705.out), (bs_ GE705.out)⟩)
         rintro ⟨v712, v715⟩ w37 ⟨h0_, h1_, h2_, h3_, h4_, h5_⟩
         have n0_ : Aside0 (Kd.R (Kd.int .i64) 3 w37 w.heap.size (fun _ => True) v712 y711) := ⟨h0_⟩
         have n1_ : Aside0 (Kd.R Kd.bool 4 w37 w.heap.size (fun _ => True) v715 y714) := ⟨h1_⟩
         have n2_ : Aside0 (Kd.V (Kd.slice 3 (Kd.int .i64)) 23 w37 w.heap.size (fun k_ => some k_ ≠ (v712 : Value).ownBlock ∧ some k_ ≠ (v715 : Value).ownBlock ∧ k_ ≠ gb705) (.slice Ao10 t697.length co10) t697) := ⟨h2_⟩
         have n3_ : Aside0 (Kd.V (Kd.int .i64) 3 w37 w.heap.size (fun k_ => some k_ ≠ (v712 : Value).ownBlock ∧ some k_ ≠ (v715 : Value).ownBlock ∧ k_ ≠ gb705) (.slice Ao12 t700.length co12) t700) := ⟨h3_⟩
         have n4_ : Aside0 (w37.heap[gb705]? = some (.cells #[.slice Ao10 t697.length co10, .slice Ao12 t700.length co12, .int .i64 t703] 63 (0, 0))) := ⟨h4_⟩
         have n5_ : Aside0 (Below w.heap.size w w37) := ⟨h5_⟩
         clear HO_706000
         clear HO_706001
         clear BK705
         clear HB
         clear h0_ h1_ h2_ h3_ h4_ h5_
         have HO713 := n0_
         have HO716 := n1_
         have HO_706000 := n2_
         have HO_706001 := n3_
         have BK705 := n4_
         have HB := n5_
         clear n0_ n1_ n2_ n3_ n4_ n5_
         have hHeld := trivial
         refine norm_ (a' := ?_) ?_ ?_
         rotate_left
         ·
          simp only [putAll, Act.put, List.setIfInBounds_toArray, List.set_cons_zero, List.set_cons_succ]
          rfl
         refine pure_ (i := 7) (N := some 15) (v := ?_) (a' := ?_) #[true, true, true, true, true, true, true, true] rfl rfl (any_of HT_.out kr_) (fun _ _ _ h => h) (Or.inl ⟨by rfl, ?_⟩) ?_ ?_
         rotate_left
         ·
          intro w'
          go_simp
          with_reducible rfl
         rotate_left
         ·
          simp only [Act.put, List.setIfInBounds_toArray, List.set_cons_zero, List.set_cons_succ, i64_w, i32_w]
          rfl
         refine done_ (done_of HT_.out kr_) ?_
         have p31 : 0 ≤ (a3 : Int) := od_
         have q31 : (a3 : Int) < ((y711.length : Int) : Int) := od_
         obtain ⟨go31, co31, eo31, gb31, gl31, cl31, HG31⟩ := Kd.R_form HO713.out (by omega)
         (first | cases eo31 | (injection eo31 with ea_ en_ ec_; (first | subst ea_ | (injection ea_ with ea_; subst ea_)); subst ec_; clear en_))
         have GB31 := A_ gb31
         have GG31 := A_ HG31
         clear gb31 gl31 HG31
         obtain ⟨hx31_0, hf31_0⟩ := Kd.R_celln 0 HO713.out (a3 : Int) p31 q31
         replace p31 := eq_true p31
         replace q31 := eq_true q31
         obtain ⟨hy38_, hz38_⟩ := Kd.R_celln 0 HO713.out (a3 : Int) (od_) (od_)
         have HP38 := Kd.R_putg HO713.out (a3 : Int) a4
         try go_wp2_with (first | ((with_reducible refine gate_store (t := 3) (p := 48) rfl ?_); refine store_event (t := 3) (p := 48) (v := ?vo_w39) (w1 := (w37.setCell ⟨go31, (a3 : Int).toNat, none⟩ (.int .i64 a4))) ?hg ?ho ?hn ?hr ?_; (case ho => rfl); (case hg => rfl); (case hn => rfl); (case hr => first | (go_simp; done) | (go_simp; rfl)); intro w39 hw; have hg : w37.grownBy w39 (some go31) := (by rw [hw]; exact HP38.2); have hp_ : Kd.R (Kd.int .i64) 3 w39 w.heap.size (fun _ => True) (.slice (some ⟨go31, 0, none⟩) y711.length co31) y717 := (by rw [hw, Ny717.out]; exact HP38.1); clear HP38; have n0_ := A_ (Kd.V_afterv (v := (.slice (some ⟨go31, 0, none⟩) y711.length co31)) (v1 := (.slice (some ⟨go31, 0, none⟩) y711.length co31)) (ok := (fun k_ => some k_ ≠ (v715 : Value).ownBlock ∧ k_ ≠ gb705)) (by (with_reducible repeat (first | apply Kd.V_alloc | apply Kd.V_drewN | apply Kd.V_drew)); exact Kd.V_mono HO_706000.out (fun _ hk => ⟨⟨hk.2.1, hk.2.2⟩, hk.1⟩)) hg (.inl rfl)); have n1_ := A_ (Kd.V_afterv (v := (.slice (some ⟨go31, 0, none⟩) y711.length co31)) (v1 := (.slice (some ⟨go31, 0, none⟩) y711.length co31)) (ok := (fun k_ => some k_ ≠ (v715 : Value).ownBlock ∧ k_ ≠ gb705)) (by (with_reducible repeat (first | apply Kd.V_alloc | apply Kd.V_drewN | apply Kd.V_drew)); exact Kd.V_mono HO_706001.out (fun _ hk => ⟨⟨hk.2.1, hk.2.2⟩, hk.1⟩)) hg (.inl rfl)); have n2_ := A_ (blk_grown (g := gb705) (o := .cells #[.slice Ao10 t697.length co10, .slice Ao12 t700.length co12, .int .i64 t703] 63 (0, 0)) (by (with_reducible repeat (first | refine blk_drewN ?_ _ | refine blk_drew ?_ | refine blk_alloc ?_ _)); exact BK705.out) hg (Kd.R_ne HO713.out BK705.out (by decide))); have n3_ := A_ (hp_); have n4_ := A_ (Kd.R_over' (v := (.slice (some ⟨go31, 0, none⟩) y711.length co31)) (kR_ HO716.out) (Kd.R_typed HO713.out) (by decide) hg); have n5_ := A_ ((by rw [hw]; exact below_set (HB.out) GB31.out : Below w.heap.size w w39)); clear HO_706000; clear HO_706001; clear BK705; clear HO713; clear HO716; clear HB; have HO_706000 := n0_; have HO_706001 := n1_; have BK705 := n2_; have HO713 := n3_; have HO716 := n4_; have HB := n5_; clear n0_ n1_ n2_ n3_ n4_ n5_; clear hg hw hp_))
         go_loopg [14, 49] kj6 (fun kq v14 v49 w' => ∃ (x14_2 : List Int) (x15_2 : List Bool) (x49_2 : Int), v49 = .int .i64 x49_2 ∧ Aside0 (impl_TrainsReached.l0 kq x14_2 x15_2 x49_2 t697 t700 t703 = some (r1, r2)) ∧ Aside0 (kq ≤ kj6) ∧ Aside0 (Kd.R (Kd.int .i64) 3 w' w.heap.size (fun _ => True) v14 x14_2) ∧ Aside0 (Kd.R Kd.bool 4 w' w.heap.size (fun _ => True) v715 x15_2) ∧ Aside0 (Kd.V (Kd.slice 3 (Kd.int .i64)) 23 w' w.heap.size (fun k_ => some k_ ≠ (v14 : Value).ownBlock ∧ some k_ ≠ (v715 : Value).ownBlock ∧ k_ ≠ gb705) (.slice Ao10 t697.length co10) t697) ∧ Aside0 (Kd.V (Kd.int .i64) 3 w' w.heap.size (fun k_ => some k_ ≠ (v14 : Value).ownBlock ∧ some k_ ≠ (v715 : Value).ownBlock ∧ k_ ≠ gb705) (.slice Ao12 t700.length co12) t700) ∧ Aside0 (w'.heap[gb705]? = some (.cells #[(.slice Ao10 t697.length co10), (.slice Ao12 t700.length co12), .int .i64 t703] 63 (0, 0))) ∧ Aside0 (Below w.heap.size w w'))
         case atStart => exact ⟨(y717), (y714), (0), es_, H', ⟨Nat.le_refl _⟩, ⟨kR_ HO713.out⟩, ⟨kR_ HO716.out⟩, ⟨by (with_reducible repeat (first | apply Kd.V_alloc | apply Kd.V_drewN | apply Kd.V_drew)); exact Kd.V_mono HO_706000.out (fun _ hk => ⟨hk.2, ⟨hk.1.1, hk.1.2⟩⟩)⟩, ⟨by (with_reducible repeat (first | apply Kd.V_alloc | apply Kd.V_drewN | apply Kd.V_drew)); exact Kd.V_mono HO_706001.out (fun _ hk => ⟨hk.2, ⟨hk.1.1, hk.1.2⟩⟩)⟩, ⟨by (with_reducible repeat (first | refine blk_drewN ?_ _ | refine blk_drew ?_ | refine blk_alloc ?_ _)); exact BK705.out⟩, ⟨bs_ GE705.out⟩⟩
         case round =>
          clear H'
          (try clear c1); (try clear c2); (try clear p2); (try clear c3); (try clear p3); (try clear q3); (try clear hx3); (try clear c4); (try clear c5); (try clear c13); (try clear c15); (try clear c25); (try clear c26); (try clear c26b0); (try clear c26b1); (try clear c27); (try clear c27b0); (try clear c27b1); (try clear c28); (try clear c28b0); (try clear c28b1); (try clear c29); (try clear c29b0); (try clear c30); (try clear c30b0); (try clear p31); (try clear q31); (try clear hx31); (try clear hf31); (try clear hcz11_0); (try clear hcz11_1); (try clear hcz11_2); (try clear hfz11_0); (try clear hfz11_1); (try clear hfz11_2); (try clear hx31_0); (try clear p2); (try clear p31); (try clear q31)
          obtain ⟨x14_2, x15_2, x49_2, rfl, HA, HK2, HO_14, HO_15, HO_706000, HO_706001, BK705, HB⟩ := hrel
          cases gk with
          | zero => exact absurd HA.out (by simp [impl_TrainsReached.l0])
          | succ k2 =>
           have H := HA.out
           clear HA
           simp only [impl_TrainsReached.l0] at H
           by_cases c40 : x49_2 < 50
           ·
            rw [if_pos c40] at H
            have c40b0 := decide_eq_true c40
            clear c40
            obtain ⟨t721, A410, H⟩ := Option.bind_eq_some_iff.mp H
            try dsimp only at H
            have A41 := A_ A410; clear A410
            have H' := A_ H; clear H
            have hcz42_0 : wr.cell? ⟨gb705, 0, none⟩ = some (.slice Ao10 t697.length co10) := (blk_cell BK705.out 0).trans rfl
            have hcz42_1 : wr.cell? ⟨gb705, 1, none⟩ = some (.slice Ao12 t700.length co12) := (blk_cell BK705.out 1).trans rfl
            have hcz42_2 : wr.cell? ⟨gb705, 2, none⟩ = some (.int .i64 t703) := (blk_cell BK705.out 2).trans rfl
            have hfz42_0 := blk_frozen BK705.out 0
            have hfz42_1 := blk_frozen BK705.out 1
            have hfz42_2 := blk_frozen BK705.out 2
            obtain ⟨Ao43, co43, eo43⟩ := Kd.R_slice HO_14.out
            subst eo43
            go_wp2_with (first | ((with_reducible refine gate_callee (f := 65) rfl ?_); refine goesL_ (some 53) rfl rfl Try.func65 kr_ rfl #[.agg #[.slice Ao10 t697.length co10, .slice Ao12 t700.length co12, .int .i64 t703], .slice Ao43 x14_2.length co43] rfl am_ ?_; (with_reducible refine (impl_plan_next.calls _ _ t697 _ _ t700 t703 _ _ x14_2 t721 _ ?side1 ?side2 ?side3 ?side4 ?side5 ?side6 A41.out).mono ?_); (case side1 => exact kC_ ((Kd.V_reads' HO_706000.out).2.2)); (case side2 => exact (Kd.V_reads' HO_706000.out).2.1); (case side3 => exact kC_ ((Kd.V_reads' HO_706001.out).2.2)); (case side4 => exact (Kd.V_reads' HO_706001.out).2.1); (case side5 => exact kC_ ((Kd.R_reads' HO_14.out).2.2)); (case side6 => exact (Kd.R_reads' HO_14.out).2.1); rintro e w44 ⟨v722, rfl, ho0, hb⟩; refine ⟨_, rfl, ?_⟩; have n0_ := A_ (Kd.R_elder' (kR_ HO_14.out) (Kd.R_base ho0) hb); have n1_ := A_ (Kd.R_below (kR_ HO_15.out) hb); have n2_ := A_ (Kd.V_elder' (by (with_reducible repeat (first | apply Kd.V_alloc | apply Kd.V_drewN | apply Kd.V_drew)); exact HO_706000.out) (Kd.R_base ho0) hb); have n3_ := A_ (Kd.V_elder' (by (with_reducible repeat (first | apply Kd.V_alloc | apply Kd.V_drewN | apply Kd.V_drew)); exact HO_706001.out) (Kd.R_base ho0) hb); have n4_ := A_ (Kd.R_lower (Kd.R_new' ho0 (Kd.R_lt (kR_ HO_14.out))) (below_size (bs_ GE705.out))); have n5_ := A_ (blk_below (g := gb705) (o := .cells #[.slice Ao10 t697.length co10, .slice Ao12 t700.length co12, .int .i64 t703] 63 (0, 0)) (by (with_reducible repeat (first | refine blk_drewN ?_ _ | refine blk_drew ?_ | refine blk_alloc ?_ _)); exact BK705.out) hb); have n6_ := A_ (below_step (bs_ GE705.out) hb); clear HO_14; clear HO_15; clear HO_706000; clear HO_706001; clear BK705; clear HB; have HO_14 := n0_; have HO_15 := n1_; have HO_706000 := n2_; have HO_706001 := n3_; have HO723 := n4_; have BK705 := n5_; have HB := n6_; clear n0_ n1_ n2_ n3_ n4_ n5_ n6_; (try clear hb); (try clear hb2); (try clear hk); (try clear hi); (try clear ho0); obtain ⟨Ao45, co45, eo45⟩ := Kd.R_slice HO723.out; subst eo45))
            go_loopg [56] k2 (fun kq v56 w' => ∃ (x15_3 : List Bool) (x56_3 : Int), v56 = .int .i64 x56_3 ∧ Aside0 (impl_TrainsReached.l1 kq t721 x15_3 x49_2 t721 (t721.length : Int) x56_3 t697 t700 t703 = some (r1, r2)) ∧ Aside0 (kq ≤ k2) ∧ Aside0 (Kd.R (Kd.int .i64) 3 w' w.heap.size (fun _ => True) (.slice Ao45 t721.length co45) t721) ∧ Aside0 (Kd.R Kd.bool 4 w' w.heap.size (fun _ => True) v715 x15_3) ∧ Aside0 (Kd.R (Kd.int .i64) 3 w' w.heap.size (fun _ => True) (.slice Ao45 t721.length co45) t721) ∧ Aside0 (Kd.V (Kd.slice 3 (Kd.int .i64)) 23 w' w.heap.size (fun k_ => some k_ ≠ ((.slice Ao45 t721.length co45) : Value).ownBlock ∧ some k_ ≠ (v715 : Value).ownBlock ∧ some k_ ≠ ((.slice Ao45 t721.length co45) : Value).ownBlock ∧ k_ ≠ gb705) (.slice Ao10 t697.length co10) t697) ∧ Aside0 (Kd.V (Kd.int .i64) 3 w' w.heap.size (fun k_ => some k_ ≠ ((.slice Ao45 t721.length co45) : Value).ownBlock ∧ some k_ ≠ (v715 : Value).ownBlock ∧ some k_ ≠ ((.slice Ao45 t721.length co45) : Value).ownBlock ∧ k_ ≠ gb705) (.slice Ao12 t700.length co12) t700) ∧ Aside0 (w'.heap[gb705]? = some (.cells #[(.slice Ao10 t697.length co10), (.slice Ao12 t700.length co12), .int .i64 t703] 63 (0, 0))) ∧ Aside0 (Below w.heap.size w w'))
            case atStart => exact ⟨(x15_2), (0), es_, H', ⟨Nat.le_refl _⟩, ⟨by (with_reducible repeat (first | apply Kd.R_alloc | apply Kd.R_drewN | apply Kd.R_drew)); exact Kd.R_mono HO723.out (fun _ hk => trivial)⟩, ⟨kR_ HO_15.out⟩, ⟨by (with_reducible repeat (first | apply Kd.R_alloc | apply Kd.R_drewN | apply Kd.R_drew)); exact Kd.R_mono HO723.out (fun _ hk => trivial)⟩, ⟨by (with_reducible repeat (first | apply Kd.V_alloc | apply Kd.V_drewN | apply Kd.V_drew)); exact Kd.V_mono HO_706000.out (fun _ hk => ⟨hk.2, ⟨hk.1.2.1, ⟨hk.2, hk.1.2.2⟩⟩⟩)⟩, ⟨by (with_reducible repeat (first | apply Kd.V_alloc | apply Kd.V_drewN | apply Kd.V_drew)); exact Kd.V_mono HO_706001.out (fun _ hk => ⟨hk.2, ⟨hk.1.2.1, ⟨hk.2, hk.1.2.2⟩⟩⟩)⟩, ⟨by (with_reducible repeat (first | refine blk_drewN ?_ _ | refine blk_drew ?_ | refine blk_alloc ?_ _)); exact BK705.out⟩, ⟨bs_ GE705.out⟩⟩
            case round =>
             clear H'
             (try clear c1); (try clear c2); (try clear p2); (try clear c3); (try clear p3); (try clear q3); (try clear hx3); (try clear c4); (try clear c5); (try clear c6); (try clear c13); (try clear c15); (try clear c25); (try clear c26); (try clear c26b0); (try clear c26b1); (try clear c27); (try clear c27b0); (try clear c27b1); (try clear c28); (try clear c28b0); (try clear c28b1); (try clear c29); (try clear c29b0); (try clear c30); (try clear c30b0); (try clear p31); (try clear q31); (try clear hx31); (try clear hf31); (try clear c40); (try clear c40b0); (try clear hcz11_0); (try clear hcz11_1); (try clear hcz11_2); (try clear hcz42_0); (try clear hcz42_1); (try clear hcz42_2); (try clear hfz11_0); (try clear hfz11_1); (try clear hfz11_2); (try clear hfz42_0); (try clear hfz42_1); (try clear hfz42_2); (try clear hx31_0); (try clear p2); (try clear p3); (try clear p31); (try clear q3); (try clear q31)
             obtain ⟨x15_3, x56_3, rfl, HA, HK3, HO_14, HO_15, HO_54, HO_706000, HO_706001, BK705, HB⟩ := hrel
             cases gk with
             | zero => exact absurd HA.out (by simp [impl_TrainsReached.l1])
             | succ k3 =>
              have H := HA.out
              clear HA
              simp only [impl_TrainsReached.l1] at H
              by_cases c46 : x56_3 < (t721.length : Int)
              ·
               rw [if_pos c46] at H
               have c46b0 := decide_eq_true c46
               clear c46
               by_cases c47 : 0 ≤ x56_3
               ·
                rw [if_pos c47] at H
                have c47b0 := decide_eq_true c47
                clear c47
                by_cases c48 : x56_3 < (t721.length : Int)
                ·
                 rw [if_pos c48] at H
                 have c48b0 := decide_eq_true c48
                 clear c48
                 by_cases c49 : x56_3 < (x15_3.length : Int)
                 ·
                  rw [if_pos c49] at H
                  have c49b0 := decide_eq_true c49
                  clear c49
                  obtain ⟨bq50, hbq50⟩ : ∃ b_ : Bool, b_ = (rdOf false x15_3 x56_3) := ⟨_, rfl⟩
                  replace H : (if bq50 = true then (impl_TrainsReached.l1 k3 t721 (x15_3.set (x56_3 : Int).toNat true) x49_2 t721 (t721.length : Int) (wrap64 (x56_3 + 1)) t697 t700 t703) else (impl_TrainsReached.l1 k3 t721 (x15_3.set (x56_3 : Int).toNat (decide ((rd t721 x56_3) > 0))) x49_2 t721 (t721.length : Int) (wrap64 (x56_3 + 1)) t697 t700 t703)) = some (r1, r2) := by rw [← hbq50] at H; exact H
                  have Nbq50 := A_ hbq50
                  clear hbq50
                  by_cases c51 : bq50 = true
                  ·
                   subst c51
                   rw [if_pos rfl] at H
                   obtain ⟨y726, hy726⟩ : ∃ y_ : List Bool, y_ = (x15_3.set (x56_3 : Int).toNat true) := ⟨_, rfl⟩
                   replace H : (impl_TrainsReached.l1 k3 t721 y726 x49_2 t721 (t721.length : Int) (wrap64 (x56_3 + 1)) t697 t700 t703) = some (r1, r2) := by first | (rw [hy726]; with_reducible exact H) | (have H2_ := (Option.bind_some _ _).symm.trans H; rw [hy726]; with_reducible exact H2_) | (have H2_ := (Option.bind_some _ _).symm.trans H; with_reducible exact H2_) | with_reducible exact H | (rw [hy726]; exact H) | exact H
                   have Ny726 := A_ hy726
                   clear hy726
                   have H' := A_ H; clear H
                   have p724 : 0 ≤ (x56_3 : Int) := od_
                   have q724 : x56_3 < (t721.length : Int) := od_
                   obtain ⟨ad724, e724, hx724_0⟩ := Kd.at_int (Kd.R_reads' HO_54.out).2.2 x56_3 p724 q724
                   cases e724
                   replace p724 := eq_true p724
                   replace q724 := eq_true q724
                   obtain ⟨Ao53, co53, eo53⟩ := Kd.R_slice HO_15.out
                   subst eo53
                   have p725 : 0 ≤ (x56_3 : Int) := od_
                   have q725 : x56_3 < (x15_3.length : Int) := od_
                   obtain ⟨ad725, e725, hx725_0⟩ := Kd.at_bool (Kd.R_reads' HO_15.out).2.2 x56_3 p725 q725
                   (try rw [← Nbq50.out] at hx725_0)
                   cases e725
                   replace p725 := eq_true p725
                   replace q725 := eq_true q725
                   have p52 : 0 ≤ (x56_3 : Int) := od_
                   have q52 : (x56_3 : Int) < ((x15_3.length : Int) : Int) := od_
                   obtain ⟨go52, co52, eo52, gb52, gl52, cl52, HG52⟩ := Kd.R_form HO_15.out (by omega)
                   (first | cases eo52 | (injection eo52 with ea_ en_ ec_; (first | subst ea_ | (injection ea_ with ea_; subst ea_)); subst ec_; clear en_))
                   have GB52 := A_ gb52
                   have GG52 := A_ HG52
                   clear gb52 gl52 HG52
                   (first | simp only [add_plain] at hx725_0 | skip)
                   obtain ⟨hx52_0, hf52_0⟩ := Kd.R_celln false HO_15.out (x56_3 : Int) p52 q52
                   replace p52 := eq_true p52
                   replace q52 := eq_true q52
                   have HP54 := Kd.R_putg HO_15.out (x56_3 : Int) true
                   go_wp2_with (first | ((with_reducible refine gate_store (t := 4) (p := 71) rfl ?_); refine store_event (t := 4) (p := 71) (v := ?vo_w55) (w1 := (wr.setCell ⟨go52, (x56_3 : Int).toNat, none⟩ (.bool true))) ?hg ?ho ?hn ?hr ?_; (case ho => rfl); (case hg => rfl); (case hn => rfl); (case hr => first | (go_simp; done) | (go_simp; rfl)); intro w55 hw; have hg : wr.grownBy w55 (some go52) := (by rw [hw]; exact HP54.2); have hp_ : Kd.R Kd.bool 4 w55 w.heap.size (fun _ => True) (.slice (some ⟨go52, 0, none⟩) x15_3.length co53) y726 := (by rw [hw, Ny726.out]; exact HP54.1); clear HP54; have n0_ := A_ (Kd.R_over' (v := (.slice (some ⟨go52, 0, none⟩) x15_3.length co53)) (kR_ HO_14.out) (Kd.R_typed HO_15.out) (by decide) hg); have n1_ := A_ (hp_); have n2_ := A_ (Kd.R_over' (v := (.slice (some ⟨go52, 0, none⟩) x15_3.length co53)) (kR_ HO_54.out) (Kd.R_typed HO_15.out) (by decide) hg); have n3_ := A_ (Kd.V_afterv (v := (.slice (some ⟨go52, 0, none⟩) x15_3.length co53)) (v1 := (.slice (some ⟨go52, 0, none⟩) x15_3.length co53)) (ok := (fun k_ => some k_ ≠ (.slice (some ad724) t721.length co45 : Value).ownBlock ∧ some k_ ≠ (.slice (some ad724) t721.length co45 : Value).ownBlock ∧ k_ ≠ gb705)) (by (with_reducible repeat (first | apply Kd.V_alloc | apply Kd.V_drewN | apply Kd.V_drew)); exact Kd.V_mono HO_706000.out (fun _ hk => ⟨⟨hk.1, ⟨hk.2.2.1, hk.2.2.2⟩⟩, hk.2.1⟩)) hg (.inl rfl)); have n4_ := A_ (Kd.V_afterv (v := (.slice (some ⟨go52, 0, none⟩) x15_3.length co53)) (v1 := (.slice (some ⟨go52, 0, none⟩) x15_3.length co53)) (ok := (fun k_ => some k_ ≠ (.slice (some ad724) t721.length co45 : Value).ownBlock ∧ some k_ ≠ (.slice (some ad724) t721.length co45 : Value).ownBlock ∧ k_ ≠ gb705)) (by (with_reducible repeat (first | apply Kd.V_alloc | apply Kd.V_drewN | apply Kd.V_drew)); exact Kd.V_mono HO_706001.out (fun _ hk => ⟨⟨hk.1, ⟨hk.2.2.1, hk.2.2.2⟩⟩, hk.2.1⟩)) hg (.inl rfl)); have n5_ := A_ (blk_grown (g := gb705) (o := .cells #[.slice Ao10 t697.length co10, .slice Ao12 t700.length co12, .int .i64 t703] 63 (0, 0)) (by (with_reducible repeat (first | refine blk_drewN ?_ _ | refine blk_drew ?_ | refine blk_alloc ?_ _)); exact BK705.out) hg (Kd.R_ne HO_15.out BK705.out (by decide))); have n6_ := A_ ((by rw [hw]; exact below_set (HB.out) GB52.out : Below w.heap.size w w55)); clear HO_14; clear HO_15; clear HO_54; clear HO_706000; clear HO_706001; clear BK705; clear HB; have HO_14 := n0_; have HO_15 := n1_; have HO_54 := n2_; have HO_706000 := n3_; have HO_706001 := n4_; have BK705 := n5_; have HB := n6_; clear n0_ n1_ n2_ n3_ n4_ n5_ n6_; clear hg hw hp_))
                   go_roundg k3
                   case measure => have := HJ6.out; have := HK2.out; have := HK3.out; omega
                   case rel => exact ⟨(y726), (wrap64 (x56_3 + 1)), es_, H', ⟨by have := HJ6.out; have := HK2.out; have := HK3.out; omega⟩, ⟨kR_ HO_14.out⟩, ⟨kR_ HO_15.out⟩, ⟨kR_ HO_54.out⟩, ⟨by (with_reducible repeat (first | apply Kd.V_alloc | apply Kd.V_drewN | apply Kd.V_drew)); exact Kd.V_mono HO_706000.out (fun _ hk => ⟨hk.1.1, ⟨hk.2, ⟨hk.1.2.1, hk.1.2.2⟩⟩⟩)⟩, ⟨by (with_reducible repeat (first | apply Kd.V_alloc | apply Kd.V_drewN | apply Kd.V_drew)); exact Kd.V_mono HO_706001.out (fun _ hk => ⟨hk.1.1, ⟨hk.2, ⟨hk.1.2.1, hk.1.2.2⟩⟩⟩)⟩, ⟨by (with_reducible repeat (first | refine blk_drewN ?_ _ | refine blk_drew ?_ | refine blk_alloc ?_ _)); exact BK705.out⟩, ⟨bs_ GE705.out⟩⟩
                  ·
                   replace c51 := Bool.eq_false_iff.mpr c51
                   subst c51
                   rw [if_neg (show ¬ (false = true) by decide)] at H
                   obtain ⟨y727, hy727⟩ : ∃ y_ : List Bool, y_ = (x15_3.set (x56_3 : Int).toNat (decide ((rd t721 x56_3) > 0))) := ⟨_, rfl⟩
                   replace H : (impl_TrainsReached.l1 k3 t721 y727 x49_2 t721 (t721.length : Int) (wrap64 (x56_3 + 1)) t697 t700 t703) = some (r1, r2) := by first | (rw [hy727]; with_reducible exact H) | (have H2_ := (Option.bind_some _ _).symm.trans H; rw [hy727]; with_reducible exact H2_) | (have H2_ := (Option.bind_some _ _).symm.trans H; with_reducible exact H2_) | with_reducible exact H | (rw [hy727]; exact H) | exact H
                   have Ny727 := A_ hy727
                   clear hy727
                   have H' := A_ H; clear H
                   have p724 : 0 ≤ (x56_3 : Int) := od_
                   have q724 : x56_3 < (t721.length : Int) := od_
                   obtain ⟨ad724, e724, hx724_0⟩ := Kd.at_int (Kd.R_reads' HO_54.out).2.2 x56_3 p724 q724
                   cases e724
                   replace p724 := eq_true p724
                   replace q724 := eq_true q724
                   obtain ⟨Ao57, co57, eo57⟩ := Kd.R_slice HO_15.out
                   subst eo57
                   have p725 : 0 ≤ (x56_3 : Int) := od_
                   have q725 : x56_3 < (x15_3.length : Int) := od_
                   obtain ⟨ad725, e725, hx725_0⟩ := Kd.at_bool (Kd.R_reads' HO_15.out).2.2 x56_3 p725 q725
                   (try rw [← Nbq50.out] at hx725_0)
                   cases e725
                   replace p725 := eq_true p725
                   replace q725 := eq_true q725
                   have p56 : 0 ≤ (x56_3 : Int) := od_
                   have q56 : (x56_3 : Int) < ((x15_3.length : Int) : Int) := od_
                   obtain ⟨go56, co56, eo56, gb56, gl56, cl56, HG56⟩ := Kd.R_form HO_15.out (by omega)
                   (first | cases eo56 | (injection eo56 with ea_ en_ ec_; (first | subst ea_ | (injection ea_ with ea_; subst ea_)); subst ec_; clear en_))
                   have GB56 := A_ gb56
                   have GG56 := A_ HG56
                   clear gb56 gl56 HG56
                   (first | simp only [add_plain] at hx725_0 | skip)
                   obtain ⟨hx56_0, hf56_0⟩ := Kd.R_celln false HO_15.out (x56_3 : Int) p56 q56
                   replace p56 := eq_true p56
                   replace q56 := eq_true q56
                   have HP58 := Kd.R_putg HO_15.out (x56_3 : Int) (decide ((rd t721 x56_3) > 0))
                   go_wp2_with (first | ((with_reducible refine gate_store (t := 4) (p := 71) rfl ?_); refine store_event (t := 4) (p := 71) (v := ?vo_w59) (w1 := (wr.setCell ⟨go56, (x56_3 : Int).toNat, none⟩ (.bool (decide ((rd t721 x56_3) > 0))))) ?hg ?ho ?hn ?hr ?_; (case ho => rfl); (case hg => rfl); (case hn => rfl); (case hr => first | (go_simp; done) | (go_simp; rfl)); intro w59 hw; have hg : wr.grownBy w59 (some go56) := (by rw [hw]; exact HP58.2); have hp_ : Kd.R Kd.bool 4 w59 w.heap.size (fun _ => True) (.slice (some ⟨go56, 0, none⟩) x15_3.length co57) y727 := (by rw [hw, Ny727.out]; exact HP58.1); clear HP58; have n0_ := A_ (Kd.R_over' (v := (.slice (some ⟨go56, 0, none⟩) x15_3.length co57)) (kR_ HO_14.out) (Kd.R_typed HO_15.out) (by decide) hg); have n1_ := A_ (hp_); have n2_ := A_ (Kd.R_over' (v := (.slice (some ⟨go56, 0, none⟩) x15_3.length co57)) (kR_ HO_54.out) (Kd.R_typed HO_15.out) (by decide) hg); have n3_ := A_ (Kd.V_afterv (v := (.slice (some ⟨go56, 0, none⟩) x15_3.length co57)) (v1 := (.slice (some ⟨go56, 0, none⟩) x15_3.length co57)) (ok := (fun k_ => some k_ ≠ (.slice (some ad724) t721.length co45 : Value).ownBlock ∧ some k_ ≠ (.slice (some ad724) t721.length co45 : Value).ownBlock ∧ k_ ≠ gb705)) (by (with_reducible repeat (first | apply Kd.V_alloc | apply Kd.V_drewN | apply Kd.V_drew)); exact Kd.V_mono HO_706000.out (fun _ hk => ⟨⟨hk.1, ⟨hk.2.2.1, hk.2.2.2⟩⟩, hk.2.1⟩)) hg (.inl rfl)); have n4_ := A_ (Kd.V_afterv (v := (.slice (some ⟨go56, 0, none⟩) x15_3.length co57)) (v1 := (.slice (some ⟨go56, 0, none⟩) x15_3.length co57)) (ok := (fun k_ => some k_ ≠ (.slice (some ad724) t721.length co45 : Value).ownBlock ∧ some k_ ≠ (.slice (some ad724) t721.length co45 : Value).ownBlock ∧ k_ ≠ gb705)) (by (with_reducible repeat (first | apply Kd.V_alloc | apply Kd.V_drewN | apply Kd.V_drew)); exact Kd.V_mono HO_706001.out (fun _ hk => ⟨⟨hk.1, ⟨hk.2.2.1, hk.2.2.2⟩⟩, hk.2.1⟩)) hg (.inl rfl)); have n5_ := A_ (blk_grown (g := gb705) (o := .cells #[.slice Ao10 t697.length co10, .slice Ao12 t700.length co12, .int .i64 t703] 63 (0, 0)) (by (with_reducible repeat (first | refine blk_drewN ?_ _ | refine blk_drew ?_ | refine blk_alloc ?_ _)); exact BK705.out) hg (Kd.R_ne HO_15.out BK705.out (by decide))); have n6_ := A_ ((by rw [hw]; exact below_set (HB.out) GB56.out : Below w.heap.size w w59)); clear HO_14; clear HO_15; clear HO_54; clear HO_706000; clear HO_706001; clear BK705; clear HB; have HO_14 := n0_; have HO_15 := n1_; have HO_54 := n2_; have HO_706000 := n3_; have HO_706001 := n4_; have BK705 := n5_; have HB := n6_; clear n0_ n1_ n2_ n3_ n4_ n5_ n6_; clear hg hw hp_))
                   go_roundg k3
                   case measure => have := HJ6.out; have := HK2.out; have := HK3.out; omega
                   case rel => exact ⟨(y727), (wrap64 (x56_3 + 1)), es_, H', ⟨by have := HJ6.out; have := HK2.out; have := HK3.out; omega⟩, ⟨kR_ HO_14.out⟩, ⟨kR_ HO_15.out⟩, ⟨kR_ HO_54.out⟩, ⟨by (with_reducible repeat (first | apply Kd.V_alloc | apply Kd.V_drewN | apply Kd.V_drew)); exact Kd.V_mono HO_706000.out (fun _ hk => ⟨hk.1.1, ⟨hk.2, ⟨hk.1.2.1, hk.1.2.2⟩⟩⟩)⟩, ⟨by (with_reducible repeat (first | apply Kd.V_alloc | apply Kd.V_drewN | apply Kd.V_drew)); exact Kd.V_mono HO_706001.out (fun _ hk => ⟨hk.1.1, ⟨hk.2, ⟨hk.1.2.1, hk.1.2.2⟩⟩⟩)⟩, ⟨by (with_reducible repeat (first | refine blk_drewN ?_ _ | refine blk_drew ?_ | refine blk_alloc ?_ _)); exact BK705.out⟩, ⟨bs_ GE705.out⟩⟩
                 ·
                  rw [if_neg c49] at H; cases H
                ·
                 rw [if_neg c48] at H; cases H
               ·
                rw [if_neg c47] at H; cases H
              ·
               rw [if_neg c46] at H
               have c46b0 := decide_eq_false c46
               clear c46
               have H' := A_ H; clear H
               go_wp2
               go_roundg k3
               case measure => have := HJ6.out; have := HK2.out; have := HK3.out; omega
               case rel => exact ⟨(t721), (x15_3), (wrap64 (x49_2 + 1)), es_, H', ⟨by have := HJ6.out; have := HK2.out; have := HK3.out; omega⟩, ⟨kR_ HO_14.out⟩, ⟨kR_ HO_15.out⟩, ⟨by (with_reducible repeat (first | apply Kd.V_alloc | apply Kd.V_drewN | apply Kd.V_drew)); exact Kd.V_mono HO_706000.out (fun _ hk => ⟨hk.1, ⟨hk.2.1, hk.2.2.2⟩⟩)⟩, ⟨by (with_reducible repeat (first | apply Kd.V_alloc | apply Kd.V_drewN | apply Kd.V_drew)); exact Kd.V_mono HO_706001.out (fun _ hk => ⟨hk.1, ⟨hk.2.1, hk.2.2.2⟩⟩)⟩, ⟨by (with_reducible repeat (first | refine blk_drewN ?_ _ | refine blk_drew ?_ | refine blk_alloc ?_ _)); exact BK705.out⟩, ⟨bs_ GE705.out⟩⟩
           ·
            rw [if_neg c40] at H
            have c40b0 := decide_eq_false c40
            clear c40
            obtain ⟨t718, A600, H⟩ := Option.bind_eq_some_iff.mp H
            try dsimp only at H
            have A60 := A_ A600; clear A600
            simp only [Option.some.injEq, Prod.mk.injEq] at H
            obtain ⟨rfl, rfl⟩ := H
            obtain ⟨Ao61, co61, eo61⟩ := Kd.R_slice HO_15.out
            subst eo61
            go_wp2_with (first | ((with_reducible refine gate_callee (f := 73) rfl ?_); refine goesL_ (some 75) rfl rfl Try.func73 kr_ rfl #[.slice Ao61 x15_2.length co61] rfl am_ ?_; (with_reducible refine (impl_markedOf.calls k2 _ _ x15_2 t718 _ ?side1 ?side2 A60.out).mono ?_); (case side1 => exact kC_ ((Kd.R_reads' HO_15.out).2.2)); (case side2 => exact (Kd.R_reads' HO_15.out).2.1); rintro e w62 ⟨v719, rfl, ho0, hb⟩; refine ⟨_, rfl, ?_⟩; have n0_ := A_ (Kd.R_elder' (kR_ HO_14.out) (Kd.R_base ho0) hb); have n1_ := A_ (Kd.R_below (kR_ HO_15.out) hb); have n2_ := A_ (Kd.V_elder' (by (with_reducible repeat (first | apply Kd.V_alloc | apply Kd.V_drewN | apply Kd.V_drew)); exact HO_706000.out) (Kd.R_base ho0) hb); have n3_ := A_ (Kd.V_elder' (by (with_reducible repeat (first | apply Kd.V_alloc | apply Kd.V_drewN | apply Kd.V_drew)); exact HO_706001.out) (Kd.R_base ho0) hb); have n4_ := A_ (Kd.R_lower (Kd.R_new' ho0 (Kd.R_lt (kR_ HO_14.out))) (below_size (bs_ GE705.out))); have n5_ := A_ (blk_below (g := gb705) (o := .cells #[.slice Ao10 t697.length co10, .slice Ao12 t700.length co12, .int .i64 t703] 63 (0, 0)) (by (with_reducible repeat (first | refine blk_drewN ?_ _ | refine blk_drew ?_ | refine blk_alloc ?_ _)); exact BK705.out) hb); have n6_ := A_ (below_step (bs_ GE705.out) hb); clear HO_14; clear HO_15; clear HO_706000; clear HO_706001; clear BK705; clear HB; have HO_14 := n0_; have HO_15 := n1_; have HO_706000 := n2_; have HO_706001 := n3_; have HO720 := n4_; have BK705 := n5_; have HB := n6_; clear n0_ n1_ n2_ n3_ n4_ n5_ n6_; (try clear hb); (try clear hb2); (try clear hk); (try clear hi); (try clear ho0)))
            go_ret2
            exact ⟨_, ew_, by (with_reducible repeat (first | apply Kd.R_alloc | apply Kd.R_drewN | apply Kd.R_drew)); exact Kd.R_mono HO720.out (fun _ hk => trivial), bs_ GE705.out⟩
        ·
         rw [if_neg c30] at H; cases H
       ·
        rw [if_neg c29] at H; cases H
      ·
       rw [if_neg c28] at H; cases H
     ·
      rw [if_neg c27] at H; cases H
    ·
     rw [if_neg c26] at H; cases H

end Go.Proofs.Ytebjiooojkhkpaa.X

namespace Go.Proofs.Ytebjiooojkhkpaa.X
open Go.RowKit Go.Proofs.YtebjiooojkhkpaaW.PrintWords Go.Proofs.YtebjiooojkhkpaaW.PrintLast Go.Proofs.YtebjiooojkhkpaaW.PrintMore
attribute [local go_sem] max2_int min2_int max_two min_two max_three min_three max_four min_four   -- for this text's walks alone
set_option linter.unusedVariables false
set_option linter.unusedSimpArgs false

-- NOT PRINTED: function 11 (laws_FnExactTrainsReached)

/-- A state of type 83 at block g of W; what its slices lead to came in by w0. -/
def IsS83 (w0 W : World) (g : Nat) (f0 : List Int) (f1 : Int) (f2 : Int) : Prop := ∃ A0 c0, W.heap[g]? = some (.cells #[.slice A0 f0.length c0, .int .i64 f1, .int .u64 f2] 83 (0, 0)) ∧ w0.heap.size ≤ g ∧ Kd.C (Kd.int .u8) w0 A0 f0.length f0
theorem IsS83.grown {w0 W : World} {g : Nat} {f0 : List Int} {f1 : Int} {f2 : Int} {W1 : World} {row : Option Nat} (h : IsS83 w0 W g f0 f1 f2) (hw : W.grownBy W1 row) (hne : some g ≠ row) : IsS83 w0 W1 g f0 f1 f2 := by
 obtain ⟨A0, c0, hb, hg, hr0⟩ := h
 exact ⟨A0, c0, blk_grown hb hw hne, hg, hr0⟩
theorem IsS83.own_neN {w0 W : World} {g : Nat} {f0 : List Int} {f1 : Int} {f2 : Int} {α : Type} {d : Kd α} {e : Nat} {base : Nat} {ok : Nat → Prop} {v : Value} {xs : List α} (h : IsS83 w0 W g f0 f1 f2) (ho : Kd.N d e W base ok v xs) (ht : e ≠ 83) : some g ≠ v.ownBlock := by
 obtain ⟨A0, c0, hb, hg, hr0⟩ := h
 exact Kd.N_ne ho hb ht
theorem IsS83.fresh {w0 W : World} {g : Nat} {f0 : List Int} {f1 : Int} {f2 : Int} (h : IsS83 w0 W g f0 f1 f2) : ∀ k, W.heap.size ≤ k → k ≠ g := by
 obtain ⟨A0, c0, hb, hg, hr0⟩ := h
 exact Kd.freshB hb
theorem IsS83.kept {w0 W : World} {g : Nat} {f0 : List Int} {f1 : Int} {f2 : Int} {W1 : World} {S : Nat → Prop} (h : IsS83 w0 W g f0 f1 f2) (hk : Kept W W1 S) (hne : ¬ S g) : IsS83 w0 W1 g f0 f1 f2 := by
 obtain ⟨A0, c0, hb, hg, hr0⟩ := h
 exact ⟨A0, c0, blk_kept hb hk hne, hg, hr0⟩
theorem IsS83.below {w0 W : World} {g : Nat} {f0 : List Int} {f1 : Int} {f2 : Int} {W1 : World} (h : IsS83 w0 W g f0 f1 f2) (hw : Below W.heap.size W W1) : IsS83 w0 W1 g f0 f1 f2 := h.grown (grown_of_below hw none) (by simp)
theorem IsS83.alloc {w0 W : World} {g : Nat} {f0 : List Int} {f1 : Int} {f2 : Int} (h : IsS83 w0 W g f0 f1 f2) (o : Obj) : IsS83 w0 (W.alloc o) g f0 f1 f2 := h.below (below_alloc (Below.refl _ _) o)
theorem IsS83.drewN {w0 W : World} {g : Nat} {f0 : List Int} {f1 : Int} {f2 : Int} (h : IsS83 w0 W g f0 f1 f2) (m : Nat) : IsS83 w0 (W.drewN m) g f0 f1 f2 := h
theorem IsS83.drew {w0 W : World} {g : Nat} {f0 : List Int} {f1 : Int} {f2 : Int} (h : IsS83 w0 W g f0 f1 f2) : IsS83 w0 W.drew g f0 f1 f2 := h
theorem IsS83.at_ {w0 W : World} {g : Nat} {f0 : List Int} {f1 : Int} {f2 : Int} {w' : World} {m : Nat} (hq : W.drewN m = w') (h : IsS83 w0 W g f0 f1 f2) : IsS83 w0 w' g f0 f1 f2 := by subst hq; exact IsS83.drewN h m
theorem IsS83.apart {w0 W : World} {g : Nat} {f0 : List Int} {f1 : Int} {f2 : Int} {α : Type} {d : Kd α} {e : Nat} {base : Nat} {ok : Nat → Prop} {v : Value} {xs : List α} (h : IsS83 w0 W g f0 f1 f2) (ho : d.R e W base ok v xs) (ht : ∀ q, q ∈ e :: d.E → q ≠ 83) : d.R e W base (fun k => ok k ∧ k ≠ g) v xs := by
 obtain ⟨A0, c0, hb, hg, hr0⟩ := h
 exact Kd.R_types ho hb ht
theorem IsS83.own_ne {w0 W : World} {g : Nat} {f0 : List Int} {f1 : Int} {f2 : Int} {α : Type} {d : Kd α} {e : Nat} {base : Nat} {ok : Nat → Prop} {v : Value} {xs : List α} (h : IsS83 w0 W g f0 f1 f2) (ho : d.R e W base ok v xs) (ht : e ≠ 83) : some g ≠ v.ownBlock := by
 obtain ⟨A0, c0, hb, hg, hr0⟩ := h
 exact Kd.R_ne ho hb ht
theorem IsS83.apartQ {w0 W : World} {g : Nat} {f0 : List Int} {f1 : Int} {f2 : Int} {α : Type} {d : Kd α} {e : Nat} {base : Nat} {ok : Nat → Prop} {v : Value} {xs : List α} (h : IsS83 w0 W g f0 f1 f2) (ho : d.Q e W base ok v xs) (ht : ∀ q, q ∈ e :: d.E → q ≠ 83) : d.Q e W base (fun k => ok k ∧ k ≠ g) v xs := by
 obtain ⟨A0, c0, hb, hg, hr0⟩ := h
 exact Kd.Q_types ho hb ht
theorem IsS83.own_neQ {w0 W : World} {g : Nat} {f0 : List Int} {f1 : Int} {f2 : Int} {α : Type} {d : Kd α} {e : Nat} {base : Nat} {ok : Nat → Prop} {v : Value} {xs : List α} (h : IsS83 w0 W g f0 f1 f2) (ho : d.Q e W base ok v xs) (ht : e ≠ 83) : some g ≠ v.ownBlock := by
 obtain ⟨A0, c0, hb, hg, hr0⟩ := h
 exact Kd.Q_ne ho hb ht
theorem IsS83.apartS {w0 W : World} {g : Nat} {f0 : List Int} {f1 : Int} {f2 : Int} {α : Type} {d : Kd α} {e : Nat} {base : Nat} {ok : Nat → Prop} {v : Value} {xs : List α} (h : IsS83 w0 W g f0 f1 f2) (ho : d.S e W base ok v xs) (ht : ∀ q, q ∈ e :: d.E → q ≠ 83) : d.S e W base (fun k => ok k ∧ k ≠ g) v xs := by
 obtain ⟨A0, c0, hb, hg, hr0⟩ := h
 exact Kd.S_types ho hb ht
theorem IsS83.own_neS {w0 W : World} {g : Nat} {f0 : List Int} {f1 : Int} {f2 : Int} {α : Type} {d : Kd α} {e : Nat} {base : Nat} {ok : Nat → Prop} {v : Value} {xs : List α} (h : IsS83 w0 W g f0 f1 f2) (ho : d.S e W base ok v xs) (ht : e ≠ 83) : some g ≠ v.ownBlock := by
 obtain ⟨A0, c0, hb, hg, hr0⟩ := h
 exact Kd.S_ne ho hb ht
theorem IsS83.lt {w0 W : World} {g : Nat} {f0 : List Int} {f1 : Int} {f2 : Int} (h : IsS83 w0 W g f0 f1 f2) : g < W.heap.size := by
 obtain ⟨A0, c0, hb, hg, hr0⟩ := h
 exact blk_lt hb
theorem IsS83.ge {w0 W : World} {g : Nat} {f0 : List Int} {f1 : Int} {f2 : Int} (h : IsS83 w0 W g f0 f1 f2) : w0.heap.size ≤ g := by
 obtain ⟨A0, c0, hb, hg, hr0⟩ := h
 exact hg
theorem IsS83.ne_blk {w0 W : World} {g : Nat} {f0 : List Int} {f1 : Int} {f2 : Int} {a : Nat} {cs : Array Value} {t : TypeId} {fr : Nat × Nat} (h : IsS83 w0 W g f0 f1 f2) (hb2 : W.heap[a]? = some (.cells cs t fr)) (ht : t ≠ 83) : g ≠ a := by
 obtain ⟨A0, c0, hb, hg, hr0⟩ := h
 rintro rfl
 rw [hb] at hb2
 injection hb2 with hb2
 injection hb2 with _ ht2
 exact ht ht2.symm
theorem IsS83.far {w0 W : World} {g : Nat} {f0 : List Int} {f1 : Int} {f2 : Int} {p : Addr} (h : IsS83 w0 W g f0 f1 f2) (hne : g ≠ p.block) (u : Value) : IsS83 w0 (W.setCell p u) g f0 f1 f2 := by
 obtain ⟨A0, c0, hb, hg, hr0⟩ := h
 exact ⟨A0, c0, blk_far hb hne u, hg, hr0⟩
theorem cellS83_0 {W : World} {g : Nat} {A0 : Option Addr} {c0 : Nat} {f0 : List Int} {f1 : Int} {f2 : Int} (h : W.heap[g]? = some (.cells #[.slice A0 f0.length c0, .int .i64 f1, .int .u64 f2] 83 (0, 0))) : W.cell? ⟨g, 0, none⟩ = some (.slice A0 f0.length c0) := (blk_cell h 0).trans rfl
theorem cellS83_1 {W : World} {g : Nat} {A0 : Option Addr} {c0 : Nat} {f0 : List Int} {f1 : Int} {f2 : Int} (h : W.heap[g]? = some (.cells #[.slice A0 f0.length c0, .int .i64 f1, .int .u64 f2] 83 (0, 0))) : W.cell? ⟨g, 1, none⟩ = some (.int .i64 f1) := (blk_cell h 1).trans rfl
theorem IsS83.set_1 {w0 W : World} {g : Nat} {f0 : List Int} {f1 : Int} {f2 : Int} (h : IsS83 w0 W g f0 f1 f2) (x : Int) : IsS83 w0 (W.setCell ⟨g, 1, none⟩ (.int .i64 x)) g f0 x f2 := by
 obtain ⟨A0, c0, hb, hg, hr0⟩ := h
 exact ⟨A0, c0, by simpa using blk_set hb 1 (.int .i64 x), hg, hr0⟩
theorem cellS83_2 {W : World} {g : Nat} {A0 : Option Addr} {c0 : Nat} {f0 : List Int} {f1 : Int} {f2 : Int} (h : W.heap[g]? = some (.cells #[.slice A0 f0.length c0, .int .i64 f1, .int .u64 f2] 83 (0, 0))) : W.cell? ⟨g, 2, none⟩ = some (.int .u64 f2) := (blk_cell h 2).trans rfl
theorem IsS83.set_2 {w0 W : World} {g : Nat} {f0 : List Int} {f1 : Int} {f2 : Int} (h : IsS83 w0 W g f0 f1 f2) (x : Int) : IsS83 w0 (W.setCell ⟨g, 2, none⟩ (.int .u64 x)) g f0 f1 x := by
 obtain ⟨A0, c0, hb, hg, hr0⟩ := h
 exact ⟨A0, c0, by simpa using blk_set hb 2 (.int .u64 x), hg, hr0⟩
theorem IsS83.new (w0 W : World) (A0 : Option Addr) (c0 : Nat) (f0 : List Int) (f1 : Int) (f2 : Int) (hB : Below w0.heap.size w0 W) (hr0 : Kd.C (Kd.int .u8) w0 A0 f0.length f0) : IsS83 w0 (W.alloc (.cells #[.slice A0 f0.length c0, .int .i64 f1, .int .u64 f2] 83)) W.heap.size f0 f1 f2 := ⟨A0, c0, by simpa using heap_alloc_new W _, hB.size, hr0⟩

theorem kI_83 {w0 w w' : World} {g : Nat} {f0 : List Int} {f1 : Int} {f2 : Int} (h : IsS83 w0 w g f0 f1 f2) (s : IsS83 w0 w g f0 f1 f2 → IsS83 w0 w' g f0 f1 f2 := by intro h_; repeat (first | (with_reducible first | exact h_ | apply IsS83.alloc | apply IsS83.drewN | apply IsS83.drew) | exact h_)) : IsS83 w0 w' g f0 f1 f2 := s h
/-! ### spec_l1Cur_next: function 100 -/
def spec_l1Cur_next.f (s0_0 : List Int) (s0_1 : Int) (s0_2 : Int) : Option (Int × Int × Int) := if s0_1 < (s0_0.length : Int) then (if 0 ≤ s0_1 then (if (wrap64 (s0_1 + 1)) ≤ (s0_0.length : Int) then (some (wrap64 (rd s0_0 s0_1), wrap64 (s0_1 + 1), IntKind.u64.wrap ((IntKind.u64.wrap ((IntKind.u64.wrap (s0_2 * 6364136223846793005)) + (IntKind.u64.wrap (wrap64 (rd s0_0 s0_1))))) + 1442695040888963407))) else (some (wrap64 (Go.bits .and .u64 ((IntKind.u64.wrap ((IntKind.u64.wrap ((IntKind.u64.wrap (s0_2 * 6364136223846793005)) + (IntKind.u64.wrap (wrap64 (rd s0_0 s0_1))))) + 1442695040888963407)) / 1099511627776) 255), wrap64 (s0_1 + 1), IntKind.u64.wrap ((IntKind.u64.wrap ((IntKind.u64.wrap (s0_2 * 6364136223846793005)) + (IntKind.u64.wrap (wrap64 (rd s0_0 s0_1))))) + 1442695040888963407)))) else (none)) else (if (wrap64 (s0_1 + 1)) ≤ (s0_0.length : Int) then (some (0, wrap64 (s0_1 + 1), IntKind.u64.wrap ((IntKind.u64.wrap ((IntKind.u64.wrap (s0_2 * 6364136223846793005)))) + 1442695040888963407))) else (some (wrap64 (Go.bits .and .u64 ((IntKind.u64.wrap ((IntKind.u64.wrap ((IntKind.u64.wrap (s0_2 * 6364136223846793005)))) + 1442695040888963407)) / 1099511627776) 255), wrap64 (s0_1 + 1), IntKind.u64.wrap ((IntKind.u64.wrap ((IntKind.u64.wrap (s0_2 * 6364136223846793005)))) + 1442695040888963407))))
set_option maxHeartbeats 8000000 in
set_option maxRecDepth 100000 in
theorem spec_l1Cur_next.calls (g : Nat) (s0_0 : List Int) (s0_1 : Int) (s0_2 : Int) (r1 : Int) (r2 : Int) (r3 : Int) (w0 w : World) (hI : IsS83 w0 w g s0_0 s0_1 s0_2) (hB : Below w0.heap.size w0 w) (h : spec_l1Cur_next.f s0_0 s0_1 s0_2 = some (r1, r2, r3)) :
 Calls Try.prog 100 #[.pointer (some ⟨g, 0, none⟩)] w fun e w' => e = .returned (.int .i64 r1) ∧ IsS83 w0 w' g s0_0 r2 r3 ∧ Below w0.heap.size w0 w' ∧ KeepBut w w' g none := by
 have HI0 := Aside0.mk hI
 have HK := Aside0.mk (KeepBut.refl w g none)
 have HL := Aside0.mk hB.size
 clear hI
 have HW0 := Aside0.mk hB.size
 have HB := Aside0.mk hB
 clear hB
 have H : (if s0_1 < (s0_0.length : Int) then (if 0 ≤ s0_1 then (if (wrap64 (s0_1 + 1)) ≤ (s0_0.length : Int) then (some (wrap64 (rd s0_0 s0_1), wrap64 (s0_1 + 1), IntKind.u64.wrap ((IntKind.u64.wrap ((IntKind.u64.wrap (s0_2 * 6364136223846793005)) + (IntKind.u64.wrap (wrap64 (rd s0_0 s0_1))))) + 1442695040888963407))) else (some (wrap64 (Go.bits .and .u64 ((IntKind.u64.wrap ((IntKind.u64.wrap ((IntKind.u64.wrap (s0_2 * 6364136223846793005)) + (IntKind.u64.wrap (wrap64 (rd s0_0 s0_1))))) + 1442695040888963407)) / 1099511627776) 255), wrap64 (s0_1 + 1), IntKind.u64.wrap ((IntKind.u64.wrap ((IntKind.u64.wrap (s0_2 * 6364136223846793005)) + (IntKind.u64.wrap (wrap64 (rd s0_0 s0_1))))) + 1442695040888963407)))) else (none)) else (if (wrap64 (s0_1 + 1)) ≤ (s0_0.length : Int) then (some (0, wrap64 (s0_1 + 1), IntKind.u64.wrap ((IntKind.u64.wrap ((IntKind.u64.wrap (s0_2 * 6364136223846793005)))) + 1442695040888963407))) else (some (wrap64 (Go.bits .and .u64 ((IntKind.u64.wrap ((IntKind.u64.wrap ((IntKind.u64.wrap (s0_2 * 6364136223846793005)))) + 1442695040888963407)) / 1099511627776) 255), wrap64 (s0_1 + 1), IntKind.u64.wrap ((IntKind.u64.wrap ((IntKind.u64.wrap (s0_2 * 6364136223846793005)))) + 1442695040888963407))))) = some (r1, r2, r3) := h
 clear h
 by_cases c2 : s0_1 < (s0_0.length : Int)
 ·
  rw [if_pos c2] at H
  have c2b0 : decide (s0_1 < (s0_0.length : Int)) = true := decide_eq_true c2
  clear c2
  by_cases c3 : 0 ≤ s0_1
  ·
   rw [if_pos c3] at H
   have c3b0 : decide (0 ≤ s0_1) = true := decide_eq_true c3
   clear c3
   by_cases c4 : (wrap64 (s0_1 + 1)) ≤ (s0_0.length : Int)
   ·
    rw [if_pos c4] at H
    have c4b0 : decide ((wrap64 (s0_1 + 1)) ≤ (s0_0.length : Int)) = true := decide_eq_true c4
    clear c4
    simp only [Option.some.injEq, Prod.mk.injEq] at H
    obtain ⟨rfl, rfl, rfl⟩ := H
    obtain ⟨ASz5_0, cSz5_0, HGz5, hgz5, HSz5_0⟩ := HI0.out
    have hcz5_0 := cellS83_0 HGz5
    have hcz5_1 := cellS83_1 HGz5
    have hcz5_2 := cellS83_2 HGz5
    have hfz5_1 := blk_frozen HGz5 1
    have hfz5_2 := blk_frozen HGz5 2
    clear HGz5 hgz5
    have p758 : 0 ≤ (s0_1 : Int) := of_decide_eq_true (by first | (with_reducible assumption) | assumption)
    have q758 : s0_1 < (s0_0.length : Int) := of_decide_eq_true (by first | (with_reducible assumption) | assumption)
    obtain ⟨ad758, e758, hx758_0⟩ := Kd.at_int HSz5_0 s0_1 p758 q758
    cases e758
    replace hx758_0 := pw_cell_below HB.out hx758_0
    replace p758 := eq_true p758
    replace q758 := eq_true q758
    go_enter Try.func100, Try.ntmps100
    go_wp2
    repeat (go_quiet (fail); try go_wp2)
    go_ret
    exact ⟨by first | rfl | (simp [errW_none, errW_some] <;> rfl) | (simp [*, errW_none, errW_some] <;> rfl), by repeat (first | (with_reducible first | exact HI0.out | apply IsS83.alloc | apply IsS83.drewN | apply IsS83.drew | apply IsS83.set_1 | apply IsS83.set_2) | exact HI0.out), by repeat (first | (with_reducible first | exact HB.out | apply below_alloc | apply pw_below_drewN | apply below_drew1 | refine below_set ?_ (IsS83.ge HI0.out)) | exact HB.out), by repeat (first | (with_reducible first | exact HK.out | apply KeepBut.set_ | apply keep_drewN | apply keep_drew | apply keep_alloc) | exact HK.out)⟩
   ·
    rw [if_neg c4] at H
    have c4b0 : decide ((wrap64 (s0_1 + 1)) ≤ (s0_0.length : Int)) = false := decide_eq_false c4
    clear c4
    simp only [Option.some.injEq, Prod.mk.injEq] at H
    obtain ⟨rfl, rfl, rfl⟩ := H
    obtain ⟨ASz6_0, cSz6_0, HGz6, hgz6, HSz6_0⟩ := HI0.out
    have hcz6_0 := cellS83_0 HGz6
    have hcz6_1 := cellS83_1 HGz6
    have hcz6_2 := cellS83_2 HGz6
    have hfz6_1 := blk_frozen HGz6 1
    have hfz6_2 := blk_frozen HGz6 2
    clear HGz6 hgz6
    have p758 : 0 ≤ (s0_1 : Int) := of_decide_eq_true (by first | (with_reducible assumption) | assumption)
    have q758 : s0_1 < (s0_0.length : Int) := of_decide_eq_true (by first | (with_reducible assumption) | assumption)
    obtain ⟨ad758, e758, hx758_0⟩ := Kd.at_int HSz6_0 s0_1 p758 q758
    cases e758
    replace hx758_0 := pw_cell_below HB.out hx758_0
    replace p758 := eq_true p758
    replace q758 := eq_true q758
    go_enter Try.func100, Try.ntmps100
    go_wp2
    repeat (go_quiet (fail); try go_wp2)
    go_ret
    exact ⟨by first | rfl | (simp [errW_none, errW_some] <;> rfl) | (simp [*, errW_none, errW_some] <;> rfl), by repeat (first | (with_reducible first | exact HI0.out | apply IsS83.alloc | apply IsS83.drewN | apply IsS83.drew | apply IsS83.set_1 | apply IsS83.set_2) | exact HI0.out), by repeat (first | (with_reducible first | exact HB.out | apply below_alloc | apply pw_below_drewN | apply below_drew1 | refine below_set ?_ (IsS83.ge HI0.out)) | exact HB.out), by repeat (first | (with_reducible first | exact HK.out | apply KeepBut.set_ | apply keep_drewN | apply keep_drew | apply keep_alloc) | exact HK.out)⟩
  ·
   rw [if_neg c3] at H
   exact absurd H (by simp)
 ·
  rw [if_neg c2] at H
  have c2b0 : decide (s0_1 < (s0_0.length : Int)) = false := decide_eq_false c2
  clear c2
  by_cases c7 : (wrap64 (s0_1 + 1)) ≤ (s0_0.length : Int)
  ·
   rw [if_pos c7] at H
   have c7b0 : decide ((wrap64 (s0_1 + 1)) ≤ (s0_0.length : Int)) = true := decide_eq_true c7
   clear c7
   simp only [Option.some.injEq, Prod.mk.injEq] at H
   obtain ⟨rfl, rfl, rfl⟩ := H
   obtain ⟨ASz8_0, cSz8_0, HGz8, hgz8, HSz8_0⟩ := HI0.out
   have hcz8_0 := cellS83_0 HGz8
   have hcz8_1 := cellS83_1 HGz8
   have hcz8_2 := cellS83_2 HGz8
   have hfz8_1 := blk_frozen HGz8 1
   have hfz8_2 := blk_frozen HGz8 2
   clear HGz8 hgz8
   go_enter Try.func100, Try.ntmps100
   go_wp2
   repeat (go_quiet (fail); try go_wp2)
   go_ret
   exact ⟨by first | rfl | (simp [errW_none, errW_some] <;> rfl) | (simp [*, errW_none, errW_some] <;> rfl), by repeat (first | (with_reducible first | exact HI0.out | apply IsS83.alloc | apply IsS83.drewN | apply IsS83.drew | apply IsS83.set_1 | apply IsS83.set_2) | exact HI0.out), by repeat (first | (with_reducible first | exact HB.out | apply below_alloc | apply pw_below_drewN | apply below_drew1 | refine below_set ?_ (IsS83.ge HI0.out)) | exact HB.out), by repeat (first | (with_reducible first | exact HK.out | apply KeepBut.set_ | apply keep_drewN | apply keep_drew | apply keep_alloc) | exact HK.out)⟩
  ·
   rw [if_neg c7] at H
   have c7b0 : decide ((wrap64 (s0_1 + 1)) ≤ (s0_0.length : Int)) = false := decide_eq_false c7
   clear c7
   simp only [Option.some.injEq, Prod.mk.injEq] at H
   obtain ⟨rfl, rfl, rfl⟩ := H
   obtain ⟨ASz9_0, cSz9_0, HGz9, hgz9, HSz9_0⟩ := HI0.out
   have hcz9_0 := cellS83_0 HGz9
   have hcz9_1 := cellS83_1 HGz9
   have hcz9_2 := cellS83_2 HGz9
   have hfz9_1 := blk_frozen HGz9 1
   have hfz9_2 := blk_frozen HGz9 2
   clear HGz9 hgz9
   go_enter Try.func100, Try.ntmps100
   go_wp2
   repeat (go_quiet (fail); try go_wp2)
   go_ret
   exact ⟨by first | rfl | (simp [errW_none, errW_some] <;> rfl) | (simp [*, errW_none, errW_some] <;> rfl), by repeat (first | (with_reducible first | exact HI0.out | apply IsS83.alloc | apply IsS83.drewN | apply IsS83.drew | apply IsS83.set_1 | apply IsS83.set_2) | exact HI0.out), by repeat (first | (with_reducible first | exact HB.out | apply below_alloc | apply pw_below_drewN | apply below_drew1 | refine below_set ?_ (IsS83.ge HI0.out)) | exact HB.out), by repeat (first | (with_reducible first | exact HK.out | apply KeepBut.set_ | apply keep_drewN | apply keep_drew | apply keep_alloc) | exact HK.out)⟩

/-! ### spec_l1Cur_pick: function 90 -/
def spec_l1Cur_pick.f (s0_0 : List Int) (s0_1 : Int) (s0_2 : Int) (a1 : Int) : Option (Int × Int × Int) := if a1 ≤ 1 then (some (0, s0_1, s0_2)) else ((spec_l1Cur_next.f s0_0 s0_1 s0_2).bind fun bt759 => (if a1 > 200 then ((spec_l1Cur_next.f s0_0 bt759.2.1 bt759.2.2).bind fun bt762 => (if a1 = 0 then (none) else (some (Int.tmod (wrap64 ((wrap64 (bt759.1 * 256)) + bt762.1)) a1, bt762.2.1, bt762.2.2)))) else (if a1 = 0 then (none) else (some (Int.tmod bt759.1 a1, bt759.2.1, bt759.2.2)))))
set_option maxHeartbeats 8000000 in
set_option maxRecDepth 100000 in
theorem spec_l1Cur_pick.calls (g : Nat) (s0_0 : List Int) (s0_1 : Int) (s0_2 : Int) (a1 : Int) (r1 : Int) (r2 : Int) (r3 : Int) (w0 w : World) (hI : IsS83 w0 w g s0_0 s0_1 s0_2) (hB : Below w0.heap.size w0 w) (h : spec_l1Cur_pick.f s0_0 s0_1 s0_2 a1 = some (r1, r2, r3)) :
 Calls Try.prog 90 #[.pointer (some ⟨g, 0, none⟩), .int .i64 a1] w fun e w' => e = .returned (.int .i64 r1) ∧ IsS83 w0 w' g s0_0 r2 r3 ∧ Below w0.heap.size w0 w' ∧ KeepBut w w' g none := by
 have HI0 := A_ hI
 have HK := A_ (KeepBut.refl w g none)
 have HL := A_ hB.size
 clear hI
 have HW0 := A_ hB.size
 have HB := A_ hB
 clear hB
 have H : (if a1 ≤ 1 then (some (0, s0_1, s0_2)) else ((spec_l1Cur_next.f s0_0 s0_1 s0_2).bind fun bt759 => (if a1 > 200 then ((spec_l1Cur_next.f s0_0 bt759.2.1 bt759.2.2).bind fun bt762 => (if a1 = 0 then (none) else (some (Int.tmod (wrap64 ((wrap64 (bt759.1 * 256)) + bt762.1)) a1, bt762.2.1, bt762.2.2)))) else (if a1 = 0 then (none) else (some (Int.tmod bt759.1 a1, bt759.2.1, bt759.2.2)))))) = some (r1, r2, r3) := h
 clear h
 by_cases c3 : a1 ≤ 1
 ·
  rw [if_pos c3] at H
  have c3b0 := decide_eq_true c3
  clear c3
  simp only [Option.some.injEq, Prod.mk.injEq] at H
  obtain ⟨rfl, rfl, rfl⟩ := H
  go_enter Try.func90, Try.ntmps90
  go_wp2
  go_ret
  exact ⟨ew_, kI_83 HI0.out, bs_ (IsS83.ge HI0.out), hk_⟩
 ·
  rw [if_neg c3] at H
  have c3b0 := decide_eq_false c3
  clear c3
  obtain ⟨⟨t759, t760, t761⟩, A40, H⟩ := Option.bind_eq_some_iff.mp H
  try dsimp only at H
  have A4 := A_ A40; clear A40
  by_cases c5 : a1 > 200
  ·
   rw [if_pos c5] at H
   have c5b0 := decide_eq_true c5
   clear c5
   obtain ⟨⟨t762, t763, t764⟩, A60, H⟩ := Option.bind_eq_some_iff.mp H
   try dsimp only at H
   have A6 := A_ A60; clear A60
   by_cases c7 : a1 = 0
   ·
    rw [if_pos c7] at H
    exact absurd H (by simp)
   ·
    rw [if_neg c7] at H
    have c7b0 : (a1 == 0) = false := beq_eq_false_iff_ne.mpr c7
    have c7b1 : (a1 != 0) = true := bne_iff_ne.mpr c7
    simp only [Option.some.injEq, Prod.mk.injEq] at H
    obtain ⟨rfl, rfl, rfl⟩ := H
    go_enter Try.func90, Try.ntmps90
    go_wp2_with (first | ((with_reducible refine gate_callee (f := 100) rfl ?_); refine goesL_ (some 9) rfl rfl Try.func100 kr_ rfl #[.pointer (some ⟨g, 0, none⟩)] rfl am_ ?_; (with_reducible refine (spec_l1Cur_next.calls g s0_0 s0_1 s0_2 t759 t760 t761 w0 _ ?side1 ?side2 A4.out).mono ?_); (case side1 => exact kI_83 HI0.out); (case side2 => exact bs_ (IsS83.ge HI0.out)); rintro e w8 ⟨rfl, hi, hb, hk⟩; refine ⟨_, rfl, ?_⟩; have n0_ := A_ (KeepBut.trans hk_ hk (.inl rfl)); have n1_ := A_ (hb); have n2_ := A_ (hi); clear HK; clear HB; clear HI0; have HK := n0_; have HB := n1_; have HI0 := n2_; clear n0_ n1_ n2_; (try clear hb); (try clear hb2); (try clear hk); (try clear hi)) | ((with_reducible refine gate_callee (f := 100) rfl ?_); refine goesL_ (some 15) rfl rfl Try.func100 kr_ rfl #[.pointer (some ⟨g, 0, none⟩)] rfl am_ ?_; (with_reducible refine (spec_l1Cur_next.calls g s0_0 t760 t761 t762 t763 t764 w0 _ ?side1 ?side2 A6.out).mono ?_); (case side1 => exact kI_83 HI0.out); (case side2 => exact bs_ (IsS83.ge HI0.out)); rintro e w9 ⟨rfl, hi, hb, hk⟩; refine ⟨_, rfl, ?_⟩; have n0_ := A_ (KeepBut.trans hk_ hk (.inl rfl)); have n1_ := A_ (hb); have n2_ := A_ (hi); clear HK; clear HB; clear HI0; have HK := n0_; have HB := n1_; have HI0 := n2_; clear n0_ n1_ n2_; (try clear hb); (try clear hb2); (try clear hk); (try clear hi)))
    go_ret
    exact ⟨ew_, kI_83 HI0.out, bs_ (IsS83.ge HI0.out), hk_⟩
  ·
   rw [if_neg c5] at H
   have c5b0 := decide_eq_false c5
   clear c5
   by_cases c10 : a1 = 0
   ·
    rw [if_pos c10] at H
    exact absurd H (by simp)
   ·
    rw [if_neg c10] at H
    have c10b0 : (a1 == 0) = false := beq_eq_false_iff_ne.mpr c10
    have c10b1 : (a1 != 0) = true := bne_iff_ne.mpr c10
    simp only [Option.some.injEq, Prod.mk.injEq] at H
    obtain ⟨rfl, rfl, rfl⟩ := H
    go_enter Try.func90, Try.ntmps90
    go_wp2_with (first | ((with_reducible refine gate_callee (f := 100) rfl ?_); refine goesL_ (some 9) rfl rfl Try.func100 kr_ rfl #[.pointer (some ⟨g, 0, none⟩)] rfl am_ ?_; (with_reducible refine (spec_l1Cur_next.calls g s0_0 s0_1 s0_2 t759 t760 t761 w0 _ ?side1 ?side2 A4.out).mono ?_); (case side1 => exact kI_83 HI0.out); (case side2 => exact bs_ (IsS83.ge HI0.out)); rintro e w11 ⟨rfl, hi, hb, hk⟩; refine ⟨_, rfl, ?_⟩; have n0_ := A_ (KeepBut.trans hk_ hk (.inl rfl)); have n1_ := A_ (hb); have n2_ := A_ (hi); clear HK; clear HB; clear HI0; have HK := n0_; have HB := n1_; have HI0 := n2_; clear n0_ n1_ n2_; (try clear hb); (try clear hb2); (try clear hk); (try clear hi)))
    go_ret
    exact ⟨ew_, kI_83 HI0.out, bs_ (IsS83.ge HI0.out), hk_⟩

/-! ### spec_l1Cur_among: function 76 -/
def spec_l1Cur_among.f (s0_0 : List Int) (s0_1 : Int) (s0_2 : Int) (l1 : List Int) : Option (Int × Int × Int) := (spec_l1Cur_pick.f s0_0 s0_1 s0_2 (l1.length : Int)).bind fun bt765 => (if 0 ≤ bt765.1 then (if bt765.1 < (l1.length : Int) then (some (rd l1 bt765.1, bt765.2.1, bt765.2.2)) else (none)) else (none))
set_option maxHeartbeats 8000000 in
set_option maxRecDepth 100000 in
theorem spec_l1Cur_among.calls (g : Nat) (s0_0 : List Int) (s0_1 : Int) (s0_2 : Int) (A1 : Option Addr) (c1 : Nat) (l1 : List Int) (r1 : Int) (r2 : Int) (r3 : Int) (w0 w : World) (hI : IsS83 w0 w g s0_0 s0_1 s0_2) (hB : Below w0.heap.size w0 w) (hr1 : Kd.C (Kd.int .i64) w A1 l1.length l1) (hc1 : l1.length ≤ c1) (hf1 : ∀ ad, A1 = some ad → 0 < l1.length → ad.block ≠ g) (h : spec_l1Cur_among.f s0_0 s0_1 s0_2 l1 = some (r1, r2, r3)) :
 Calls Try.prog 76 #[.pointer (some ⟨g, 0, none⟩), .slice A1 l1.length c1] w fun e w' => e = .returned (.int .i64 r1) ∧ IsS83 w0 w' g s0_0 r2 r3 ∧ Below w0.heap.size w0 w' ∧ KeepBut w w' g none := by
 have HR1 := A_ hr1
 have HC1 := A_ hc1
 clear hr1 hc1
 have HI0 := A_ hI
 have HK := A_ (KeepBut.refl w g none)
 have HL := A_ hB.size
 clear hI
 have HW0 := A_ hB.size
 have HB := A_ hB
 clear hB
 have H : ((spec_l1Cur_pick.f s0_0 s0_1 s0_2 (l1.length : Int)).bind fun bt765 => (if 0 ≤ bt765.1 then (if bt765.1 < (l1.length : Int) then (some (rd l1 bt765.1, bt765.2.1, bt765.2.2)) else (none)) else (none))) = some (r1, r2, r3) := h
 clear h
 obtain ⟨⟨t765, t766, t767⟩, A30, H⟩ := Option.bind_eq_some_iff.mp H
 try dsimp only at H
 have A3 := A_ A30; clear A30
 by_cases c4 : 0 ≤ t765
 ·
  rw [if_pos c4] at H
  have c4b0 := decide_eq_true c4
  clear c4
  by_cases c5 : t765 < (l1.length : Int)
  ·
   rw [if_pos c5] at H
   have c5b0 := decide_eq_true c5
   clear c5
   simp only [Option.some.injEq, Prod.mk.injEq] at H
   obtain ⟨rfl, rfl, rfl⟩ := H
   go_enter Try.func76, Try.ntmps76
   go_wp2_with (first | ((with_reducible refine gate_callee (f := 90) rfl ?_); refine goesL_ (some 9) rfl rfl Try.func90 kr_ rfl #[.pointer (some ⟨g, 0, none⟩), .int .i64 (l1.length : Int)] rfl am_ ?_; (with_reducible refine (spec_l1Cur_pick.calls g s0_0 s0_1 s0_2 (l1.length : Int) t765 t766 t767 w0 _ ?side1 ?side2 A3.out).mono ?_); (case side1 => exact kI_83 HI0.out); (case side2 => exact bs_ (IsS83.ge HI0.out)); rintro e w6 ⟨rfl, hi, hb, hk⟩; refine ⟨_, rfl, ?_⟩; have n0_ := A_ (KeepBut.trans hk_ hk (.inl rfl)); have n1_ := A_ (hb); have n2_ := A_ (hi); clear HK; clear HB; clear HI0; have HK := n0_; have HB := n1_; have HI0 := n2_; clear n0_ n1_ n2_; (try clear hb); (try clear hb2); (try clear hk); (try clear hi); have p768 : 0 ≤ (t765 : Int) := od_; have q768 : t765 < (l1.length : Int) := od_; obtain ⟨ad768, e768, hx768_0⟩ := Kd.at_int HR1.out t765 p768 q768; cases e768; replace hx768_0 := keep_cell HK.out hx768_0 (by first | (rw [add_block]; exact hf1 _ rfl (by omega)) | exact hf1 _ rfl (by omega) | exact hf1 ad768 rfl (by omega)); replace p768 := eq_true p768; replace q768 := eq_true q768))
   go_ret
   exact ⟨ew_, kI_83 HI0.out, bs_ (IsS83.ge HI0.out), hk_⟩
  ·
   rw [if_neg c5] at H; cases H
 ·
  rw [if_neg c4] at H; cases H

/-! ### spec_l1Cur_one: function 78 -/
def spec_l1Cur_one.f (s0_0 : List Int) (s0_1 : Int) (s0_2 : Int) (a1 : Int) : Option (Bool × Int × Int) := (spec_l1Cur_pick.f s0_0 s0_1 s0_2 a1).bind fun bt769 => (some ((bt769.1 == 0), bt769.2.1, bt769.2.2))
set_option maxHeartbeats 8000000 in
set_option maxRecDepth 100000 in
theorem spec_l1Cur_one.calls (g : Nat) (s0_0 : List Int) (s0_1 : Int) (s0_2 : Int) (a1 : Int) (r1 : Bool) (r2 : Int) (r3 : Int) (w0 w : World) (hI : IsS83 w0 w g s0_0 s0_1 s0_2) (hB : Below w0.heap.size w0 w) (h : spec_l1Cur_one.f s0_0 s0_1 s0_2 a1 = some (r1, r2, r3)) :
 Calls Try.prog 78 #[.pointer (some ⟨g, 0, none⟩), .int .i64 a1] w fun e w' => e = .returned (.bool r1) ∧ IsS83 w0 w' g s0_0 r2 r3 ∧ Below w0.heap.size w0 w' ∧ KeepBut w w' g none := by
 have HI0 := A_ hI
 have HK := A_ (KeepBut.refl w g none)
 have HL := A_ hB.size
 clear hI
 have HW0 := A_ hB.size
 have HB := A_ hB
 clear hB
 have H : ((spec_l1Cur_pick.f s0_0 s0_1 s0_2 a1).bind fun bt769 => (some ((bt769.1 == 0), bt769.2.1, bt769.2.2))) = some (r1, r2, r3) := h
 clear h
 obtain ⟨⟨t769, t770, t771⟩, A30, H⟩ := Option.bind_eq_some_iff.mp H
 try dsimp only at H
 have A3 := A_ A30; clear A30
 simp only [Option.some.injEq, Prod.mk.injEq] at H
 obtain ⟨rfl, rfl, rfl⟩ := H
 go_enter Try.func78, Try.ntmps78
 go_wp2_with (first | ((with_reducible refine gate_callee (f := 90) rfl ?_); refine goesL_ (some 7) rfl rfl Try.func90 kr_ rfl #[.pointer (some ⟨g, 0, none⟩), .int .i64 a1] rfl am_ ?_; (with_reducible refine (spec_l1Cur_pick.calls g s0_0 s0_1 s0_2 a1 t769 t770 t771 w0 _ ?side1 ?side2 A3.out).mono ?_); (case side1 => exact kI_83 HI0.out); (case side2 => exact bs_ (IsS83.ge HI0.out)); rintro e w4 ⟨rfl, hi, hb, hk⟩; refine ⟨_, rfl, ?_⟩; have n0_ := A_ (KeepBut.trans hk_ hk (.inl rfl)); have n1_ := A_ (hb); have n2_ := A_ (hi); clear HK; clear HB; clear HI0; have HK := n0_; have HB := n1_; have HI0 := n2_; clear n0_ n1_ n2_; (try clear hb); (try clear hb2); (try clear hk); (try clear hi)))
 go_ret
 exact ⟨ew_, kI_83 HI0.out, bs_ (IsS83.ge HI0.out), hk_⟩


end Go.Proofs.Ytebjiooojkhkpaa.X
