-- Shaken out of the printed texts.
import Derived.Test.YtebjiooojkhkpaaZFnBuffersWBX0
import Derived.Test.YtebjiooojkhkpaaZFnBuffersQ
import Derived.Test.YtebjiooojkhkpaaZFnBuffersX0
import Derived.Test.YtebjiooojkhkpaaZFnBuffersX1
import Derived.Test.YtebjiooojkhkpaaZFnBuffersX3
namespace Go.Proofs.Ytebjiooojkhkpaa.X
open Go.RowKit Go.Proofs.YtebjiooojkhkpaaW.PrintWords Go.Proofs.YtebjiooojkhkpaaW.PrintLast Go.Proofs.YtebjiooojkhkpaaW.PrintMore
attribute [local go_sem] max2_int min2_int max_two min_two max_three min_three max_four min_four   -- for this text's walks alone
set_option linter.unusedVariables false
set_option linter.unusedSimpArgs false

/-! ### impl_plan_areDelays: function 86 -/
/-- What the closure of areDelays answers. -/
def impl_plan_areDelays.g (n : Int) : Option Bool := (impl_within.f n 0 10000).bind fun t => some (!t)
def impl_plan_areDelays.f (l0_0 : List (List Int)) (l0_1 : List Int) (a0_2 : Int) (l1 : List Int) : Option Bool := if (l1.length : Int) = (l0_0.length : Int) then (Ext.anyO impl_plan_areDelays.g l1).bind fun b => some (!b) else some false
set_option maxHeartbeats 4000000 in
set_option maxRecDepth 100000 in
theorem impl_plan_areDelays.closure (a0 : Int) (b : Bool) (w : World) (h : impl_plan_areDelays.g a0 = some b) :
 Calls Try.prog 99 #[.int .i64 a0] w fun e w' => e = .returned (.bool b) ∧ Drawn0 w w' := by
 obtain ⟨t, ht, h⟩ := Option.bind_eq_some_iff.mp h
 have HT := A_ ht
 clear ht
 obtain rfl := Option.some.inj h
 clear h
 go_enter Try.func99, Try.ntmps99
 go_wp2_with fail
 refine (impl_within.calls a0 0 10000 t w HT.out).mono ?_
 rintro e w' ⟨rfl, ⟨nd, rfl⟩⟩
 go_wp2
 go_ret
 exact ⟨es_, by repeat (first | exact Drawn0.refl _ | apply Drawn0.step)⟩
set_option maxHeartbeats 4000000 in
set_option maxRecDepth 100000 in
theorem impl_plan_areDelays.calls (A0_0 : Option Addr) (c0_0 : Nat) (l0_0 : List (List Int)) (A0_1 : Option Addr) (c0_1 : Nat) (l0_1 : List Int) (a0_2 : Int) (A1 : Option Addr) (c1 : Nat) (l1 : List Int) (r : Bool) (w : World) (hr0_0 : Kd.C (Kd.slice 3 (Kd.int .i64)) w A0_0 l0_0.length l0_0) (hc0_0 : l0_0.length ≤ c0_0) (hr0_1 : Kd.C (Kd.int .i64) w A0_1 l0_1.length l0_1) (hc0_1 : l0_1.length ≤ c0_1) (hr1 : Kd.C (Kd.int .i64) w A1 l1.length l1) (hc1 : l1.length ≤ c1) (h : impl_plan_areDelays.f l0_0 l0_1 a0_2 l1 = some r) :
 Calls Try.prog 86 #[.agg #[.slice A0_0 l0_0.length c0_0, .slice A0_1 l0_1.length c0_1, .int .i64 a0_2], .slice A1 l1.length c1] w fun e w' => e = .returned (.bool r) ∧ Below w.heap.size w w' := by
 have hm : l1.length ≤ 9223372036854775807 := hr1.2.1
 unfold impl_plan_areDelays.f at h
 by_cases he : (l1.length : Int) = (l0_0.length : Int)
 ·
  rw [if_pos he] at h
  obtain ⟨b, hb, h⟩ := Option.bind_eq_some_iff.mp h
  obtain rfl := Option.some.inj h
  clear h
  obtain ⟨i0, hi0, hno, hyes, rfl⟩ := Ext.anyO_some (0 : Int) hb
  have hg : ∀ (W : World) (a : Int) bb, impl_plan_areDelays.g a = some bb → Ext.Gives 99 #[] W (.int .i64 a) bb := by
   intro W a bb hgj W2 hW2
   refine (impl_plan_areDelays.closure a bb W2 hgj).mono ?_
   rintro e w' ⟨rfl, hd⟩
   exact ⟨rfl, hd.below⟩
  have eg : ∀ args w, (callFunc 99 args).run Try.prog w = .ok (.enter 99 args) w := Ext.entersOf Try.func99 kr_ rfl
  have HC := A_ (fun (W : World) (hW : Below w.heap.size w W) => Ext.containsFunc_callsI 99 #[] eg A1 l1.length c1 (fun j => .int .i64 (l1.getD j 0)) W hm (fun j hj => Ext.ints_at (Kd.C_below hr1 hW) j hj) i0 hi0 (fun j hj => hg W _ false (hno j hj)) (fun hj => hg W _ true (hyes hj)))
  clear hno hyes hg eg hb hr1 hr0_0 hr0_1
  go_enter Try.func86, Try.ntmps86
  go_wp2_with fail
  refine (HC.out _ (below_alloc (Below.refl _ _) _)).mono ?_
  rintro e w1 ⟨rfl, hb1⟩
  go_wp2
  go_ret
  exact ⟨by first | rfl | (simp; done), below_step (below_alloc (Below.refl _ _) _) hb1⟩
 ·
  rw [if_neg he] at h
  obtain rfl := Option.some.inj h
  clear h hr1 hr0_0 hr0_1
  have hd : decide ((l1.length : Int) = (l0_0.length : Int)) = false := decide_eq_false he
  go_enter Try.func86, Try.ntmps86
  go_wp2
  go_ret
  exact ⟨by first | rfl | (simp; done), below_alloc (Below.refl _ _) _⟩
/-! ### impl_delayed: function 64 -/
def impl_delayed.f (k : Nat) (l0 : List (List Int)) (l1 : List Int) (a2 : Int) (l3 : List Int) : Option ((List (List Int)) × List Int × Int × Bool) := (impl_planOf.f k l0 l1 a2).bind fun bt382 => (if bt382.2.2.2 = true then ((impl_plan_areDelays.f bt382.1 bt382.2.1 bt382.2.2.1 l3).bind fun t391 => (some (bt382.1, bt382.2.1, bt382.2.2.1, t391))) else (some (bt382.1, bt382.2.1, bt382.2.2.1, false)))
theorem impl_delayed.mono : ∀ a0 a1 a2 a3 k, LeO (impl_delayed.f k a0 a1 a2 a3) (impl_delayed.f (k + 1) a0 a1 a2 a3) := by
 intro a0 a1 a2 a3 k
 unfold impl_delayed.f
 repeat' first | (with_reducible first | exact impl_planOf.mono _ _ _ _ | exact LeO.refl _ | exact LeO.none _ | refine LeO.ite ?_ ?_ | refine LeO.bind ?_ (fun _ => ?_)) | exact impl_planOf.mono _ _ _ _ | exact LeO.none _ | refine LeO.ite ?_ ?_ | refine LeO.bind ?_ (fun _ => ?_)
def impl_delayed.T2 : Bool × List (List Nat × List Nat) := (true, [([], []), ([], []), ([1], [1]), ([2], [2]), ([2], [2]), ([3, 4, 2, 2], [2, 3, 4]), ([2, 5], [2, 5]), ([0, 5, 0], [0]), ([6, 7, 0, 1, 2, 3, 4, 5, 6, 7], [6])])
def impl_delayed.B2 : List Nat := [0, 0, 2, 6, 6, 30, 62, 63, 255]
theorem impl_delayed.tab2 : rtab .any (opsOf Try.f64 2) = impl_delayed.T2 := by kernel_rfl
theorem impl_delayed.bits2 : waitsOk impl_delayed.T2.2 impl_delayed.B2 = true := by kernel_rfl
set_option maxHeartbeats 8000000 in
set_option maxRecDepth 100000 in
theorem impl_delayed.calls (k : Nat) (P0_ : Nat → Prop) (A0 : Option Addr) (c0 : Nat) (l0 : List (List Int)) (P1_ : Nat → Prop) (A1 : Option Addr) (c1 : Nat) (l1 : List Int) (a2 : Int) (A3 : Option Addr) (c3 : Nat) (l3 : List Int) (r1 : List (List Int)) (r2 : List Int) (r3 : Int) (r4 : Bool) (w : World) (hs0 : Kd.V (Kd.slice 3 (Kd.int .i64)) 23 w w.heap.size (fun k_ => P0_ k_) (.slice A0 l0.length c0) l0) (hs1 : Kd.V (Kd.int .i64) 3 w w.heap.size (fun k_ => P1_ k_) (.slice A1 l1.length c1) l1) (hr3 : Kd.C (Kd.int .i64) w A3 l3.length l3) (hc3 : l3.length ≤ c3) (h : impl_delayed.f k l0 l1 a2 l3 = some (r1, r2, r3, r4)) :
 Calls Try.prog 64 #[.slice A0 l0.length c0, .slice A1 l1.length c1, .int .i64 a2, .slice A3 l3.length c3] w fun e w' => ∃ v0_ v1_ : Value, e = .returned (.tuple #[.agg #[v0_, v1_, .int .i64 r3], .bool r4]) ∧ Kd.V (Kd.slice 3 (Kd.int .i64)) 23 w' w.heap.size (fun k_ => ((P0_ k_ ∨ P1_ k_) ∨ w.heap.size ≤ k_)) v0_ r1 ∧ Kd.V (Kd.int .i64) 3 w' w.heap.size (fun k_ => ((P0_ k_ ∨ P1_ k_) ∨ w.heap.size ≤ k_)) v1_ r2 ∧ Below w.heap.size w w' := by
 have hu63 := Try.underlying63
 have HO0 := A_ (show Kd.V (Kd.slice 3 (Kd.int .i64)) 23 w w.heap.size (fun k_ => ((P0_ k_ ∨ P1_ k_) ∨ w.heap.size ≤ k_)) (.slice A0 l0.length c0) l0 from Kd.V_mono hs0 (fun k_ hk => .inl (.inl hk)))
 have HO1 := A_ (show Kd.V (Kd.int .i64) 3 w w.heap.size (fun k_ => ((P0_ k_ ∨ P1_ k_) ∨ w.heap.size ≤ k_)) (.slice A1 l1.length c1) l1 from Kd.V_mono hs1 (fun k_ hk => .inl (.inr hk)))
 have HR3 := A_ hr3
 have HC3 := A_ hc3
 clear hr3 hc3
 have HB := A_ (Below.refl w.heap.size w)
 have H : ((impl_planOf.f k l0 l1 a2).bind fun bt382 => (if bt382.2.2.2 = true then ((impl_plan_areDelays.f bt382.1 bt382.2.1 bt382.2.2.1 l3).bind fun t391 => (some (bt382.1, bt382.2.1, bt382.2.2.1, t391))) else (some (bt382.1, bt382.2.1, bt382.2.2.1, false)))) = some (r1, r2, r3, r4) := h
 clear h
 obtain ⟨⟨t382, t385, t388, t389⟩, A50, H⟩ := Option.bind_eq_some_iff.mp H
 try dsimp only at H
 have A5 := A_ A50; clear A50
 by_cases c6 : t389 = true
 ·
  subst c6
  rw [if_pos rfl] at H
  obtain ⟨t391, A70, H⟩ := Option.bind_eq_some_iff.mp H
  try dsimp only at H
  have A7 := A_ A70; clear A70
  simp only [Option.some.injEq, Prod.mk.injEq] at H
  obtain ⟨rfl, rfl, rfl, rfl⟩ := H
  go_enter Try.func64, Try.ntmps64
  try go_wp2_with (first | ((with_reducible refine gate_dst (N := 8) rfl ?_); refine box_event ?hg (N := 8) ?hd (cs := #[.slice none 0 0, .slice none 0 0, .int .i64 0]) (t := 63) ?hr ?_; (case hd => rfl); (case hg => rfl); (case hr => first | (go_simp; done) | (go_simp; rfl)); intro gb381 hg w8 hbox hb; have n0_ := A_ (Kd.V_below (Kd.V_elderB (by (with_reducible repeat (first | apply Kd.V_alloc | apply Kd.V_drewN | apply Kd.V_drew)); exact HO0.out) gb381 (Nat.le_of_eq hg.symm)) hb); have n1_ := A_ (Kd.V_below (Kd.V_elderB (by (with_reducible repeat (first | apply Kd.V_alloc | apply Kd.V_drewN | apply Kd.V_drew)); exact HO1.out) gb381 (Nat.le_of_eq hg.symm)) hb); have n2_ := A_ (below_step bl_ hb); have n3_ := A_ (hbox); have n4_ := A_ ((by rw [hg]; exact (below_size bl_) : w.heap.size ≤ gb381)); have n5_ := A_ ((by rw [hg]; exact (below_size bl_) : w.heap.size ≤ gb381)); clear HO0; clear HO1; clear HB; have HO0 := n0_; have HO1 := n1_; have HB := n2_; have BK381 := n3_; have GW381 := n4_; have GE381 := n5_; clear n0_ n1_ n2_ n3_ n4_ n5_; clear hb hbox hg) | ((with_reducible refine gate_callee (f := 54) rfl ?_); refine goesL_ (some 16) rfl rfl Try.func54 kr_ rfl #[.slice A0 l0.length c0, .slice A1 l1.length c1, .int .i64 a2] rfl am_ ?_; (with_reducible refine (impl_planOf.calls k (fun k_ => (((P0_ k_ ∨ P1_ k_) ∨ w.heap.size ≤ k_) ∧ k_ ≠ gb381)) _ _ l0 (fun k_ => (((P0_ k_ ∨ P1_ k_) ∨ w.heap.size ≤ k_) ∧ k_ ≠ gb381)) _ _ l1 a2 t382 t385 t388 true _ ?side1 ?side2 A5.out).mono ?_); (case side1 => exact HO0.out); (case side2 => exact HO1.out); rintro e w9 ⟨v383, v386, rfl, ho0, ho1, hb⟩; refine ⟨_, rfl, ?_⟩; have n0_ := A_ (Kd.V_below (by (with_reducible repeat (first | apply Kd.V_alloc | apply Kd.V_drewN | apply Kd.V_drew)); exact HO0.out) hb); have n1_ := A_ (Kd.V_below (by (with_reducible repeat (first | apply Kd.V_alloc | apply Kd.V_drewN | apply Kd.V_drew)); exact HO1.out) hb); have n2_ := A_ (Kd.V_lower (Kd.V_mono (ok' := fun k_ => ((P0_ k_ ∨ P1_ k_) ∨ w.heap.size ≤ k_) ∧ k_ ≠ gb381) ho0 (fun k_ hk_ => ⟨Or.elim hk_ (fun hs_ => Or.elim hs_ (fun hs_ => hs_.1) (fun hs_ => hs_.1)) (fun hn_ => (.inr (Nat.le_trans (below_size (bs_ GE381.out)) hn_))), Or.elim hk_ (fun hs_ => Or.elim hs_ (fun hs_ => hs_.2) (fun hs_ => hs_.2)) (fun hn_ => (Kd.freshB (g := gb381) (o := .cells #[.slice none 0 0, .slice none 0 0, .int .i64 0] 63 (0, 0)) (by (with_reducible repeat (first | refine blk_drewN ?_ _ | refine blk_drew ?_ | refine blk_alloc ?_ _)); exact BK381.out) k_ hn_))⟩)) (below_size (bs_ GE381.out))); have n3_ := A_ (Kd.V_lower (Kd.V_mono (ok' := fun k_ => ((P0_ k_ ∨ P1_ k_) ∨ w.heap.size ≤ k_) ∧ k_ ≠ gb381) ho1 (fun k_ hk_ => ⟨Or.elim hk_ (fun hs_ => Or.elim hs_ (fun hs_ => hs_.1) (fun hs_ => hs_.1)) (fun hn_ => (.inr (Nat.le_trans (below_size (bs_ GE381.out)) hn_))), Or.elim hk_ (fun hs_ => Or.elim hs_ (fun hs_ => hs_.2) (fun hs_ => hs_.2)) (fun hn_ => (Kd.freshB (g := gb381) (o := .cells #[.slice none 0 0, .slice none 0 0, .int .i64 0] 63 (0, 0)) (by (with_reducible repeat (first | refine blk_drewN ?_ _ | refine blk_drew ?_ | refine blk_alloc ?_ _)); exact BK381.out) k_ hn_))⟩)) (below_size (bs_ GE381.out))); have n4_ := A_ (blk_below (g := gb381) (o := .cells #[.slice none 0 0, .slice none 0 0, .int .i64 0] 63 (0, 0)) (by (with_reducible repeat (first | refine blk_drewN ?_ _ | refine blk_drew ?_ | refine blk_alloc ?_ _)); exact BK381.out) hb); have n5_ := A_ (below_step (bs_ GE381.out) hb); clear HO0; clear HO1; clear BK381; clear HB; have HO0 := n0_; have HO1 := n1_; have HO384 := n2_; have HO387 := n3_; have BK381 := n4_; have HB := n5_; clear n0_ n1_ n2_ n3_ n4_ n5_; (try clear hb); (try clear hb2); (try clear hk); (try clear hi); (try clear ho0); (try clear ho1)) | ((with_reducible refine gate_dst (N := 10) rfl ?_); refine box_event ?hg (N := 10) ?hd (cs := #[.slice none 0 0, .slice none 0 0, .int .i64 0]) (t := 63) ?hr ?_; (case hd => rfl); (case hg => rfl); (case hr => first | (go_simp; done) | (go_simp; rfl)); intro gb390 hg w10 hbox hb; have n0_ := A_ (Kd.V_below (Kd.V_elderB (by (with_reducible repeat (first | apply Kd.V_alloc | apply Kd.V_drewN | apply Kd.V_drew)); exact HO0.out) gb390 (Nat.le_of_eq hg.symm)) hb); have n1_ := A_ (Kd.V_below (Kd.V_elderB (by (with_reducible repeat (first | apply Kd.V_alloc | apply Kd.V_drewN | apply Kd.V_drew)); exact HO1.out) gb390 (Nat.le_of_eq hg.symm)) hb); have n2_ := A_ (Kd.V_below (Kd.V_elderB (by (with_reducible repeat (first | apply Kd.V_alloc | apply Kd.V_drewN | apply Kd.V_drew)); exact HO384.out) gb390 (Nat.le_of_eq hg.symm)) hb); have n3_ := A_ (Kd.V_below (Kd.V_elderB (by (with_reducible repeat (first | apply Kd.V_alloc | apply Kd.V_drewN | apply Kd.V_drew)); exact HO387.out) gb390 (Nat.le_of_eq hg.symm)) hb); have n4_ := A_ (blk_below (g := gb381) (o := .cells #[.slice none 0 0, .slice none 0 0, .int .i64 0] 63 (0, 0)) (by (with_reducible repeat (first | refine blk_drewN ?_ _ | refine blk_drew ?_ | refine blk_alloc ?_ _)); exact BK381.out) hb); have n5_ := A_ (below_step (bs_ GE381.out) hb); have n6_ := A_ (hbox); have n7_ := A_ ((by rw [hg]; exact (below_size (bs_ GE381.out)) : w.heap.size ≤ gb390)); have n8_ := A_ ((by rw [hg]; exact (below_size (bs_ GE381.out)) : w.heap.size ≤ gb390)); have n9_ := A_ ((by rw [hg]; exact Nat.ne_of_lt (blk_lt (g := gb381) (o := .cells #[.slice none 0 0, .slice none 0 0, .int .i64 0] 63 (0, 0)) (by (with_reducible repeat (first | refine blk_drewN ?_ _ | refine blk_drew ?_ | refine blk_alloc ?_ _)); exact BK381.out)) : gb381 ≠ gb390)); have n10_ := A_ ((by rw [hg]; exact Nat.ne_of_gt (blk_lt (g := gb381) (o := .cells #[.slice none 0 0, .slice none 0 0, .int .i64 0] 63 (0, 0)) (by (with_reducible repeat (first | refine blk_drewN ?_ _ | refine blk_drew ?_ | refine blk_alloc ?_ _)); exact BK381.out)) : gb390 ≠ gb381)); clear HO0; clear HO1; clear HO384; clear HO387; clear BK381; clear HB; have HO0 := n0_; have HO1 := n1_; have HO384 := n2_; have HO387 := n3_; have BK381 := n4_; have HB := n5_; have BK390 := n6_; have GW390 := n7_; have GE390 := n8_; have NB381_390 := n9_; have NB390_381 := n10_; clear n0_ n1_ n2_ n3_ n4_ n5_ n6_ n7_ n8_ n9_ n10_; clear hb hbox hg; obtain ⟨Ao11, co11, eo11⟩ := Kd.V_slice HO384.out; subst eo11; have hnb12 := NB390_381.out; have hnc12 := NB381_390.out; have hcz13_0 : w10.cell? ⟨gb390, 0, none⟩ = some (.slice none 0 0) := (blk_cell BK390.out 0).trans rfl; have hcz13_1 : w10.cell? ⟨gb390, 1, none⟩ = some (.slice none 0 0) := (blk_cell BK390.out 1).trans rfl; have hcz13_2 : w10.cell? ⟨gb390, 2, none⟩ = some (.int .i64 0) := (blk_cell BK390.out 2).trans rfl; have hfz13_0 := blk_frozen BK390.out 0; have hfz13_1 := blk_frozen BK390.out 1; have hfz13_2 := blk_frozen BK390.out 2; obtain ⟨Ao14, co14, eo14⟩ := Kd.V_slice HO387.out; subst eo14))
  have n0_ : Aside0 (Kd.V (Kd.slice 3 (Kd.int .i64)) 23 (((w10.setCell ⟨gb390, 0, none⟩ (.slice Ao11 t382.length co11)).setCell ⟨gb390, 1, none⟩ (.slice Ao14 t385.length co14)).setCell ⟨gb390, 2, none⟩ (.int .i64 t388)) w.heap.size (fun k_ => ((P0_ k_ ∨ P1_ k_) ∨ w.heap.size ≤ k_) ∧ k_ ≠ gb381 ∧ k_ ≠ gb390) (.slice A0 l0.length c0) l0) := ⟨by (with_reducible repeat (first | apply Kd.V_alloc | apply Kd.V_drewN | apply Kd.V_drew)); exact Kd.V_mono (Kd.V_far (p := ⟨gb390, 2, none⟩) (Kd.V_far (p := ⟨gb390, 1, none⟩) (Kd.V_far (p := ⟨gb390, 0, none⟩) (Kd.V_mono HO0.out (fun k_ hk => (⟨hk, hk.2⟩ : _ ∧ k_ ≠ gb390))) (fun _ hk => hk.2) (.slice Ao11 t382.length co11)) (fun _ hk => hk.2) (.slice Ao14 t385.length co14)) (fun _ hk => hk.2) (.int .i64 t388)) (fun _ hk => ⟨hk.1.1.1, ⟨hk.1.1.2, hk.1.2⟩⟩)⟩
  have n1_ : Aside0 (Kd.V (Kd.int .i64) 3 (((w10.setCell ⟨gb390, 0, none⟩ (.slice Ao11 t382.length co11)).setCell ⟨gb390, 1, none⟩ (.slice Ao14 t385.length co14)).setCell ⟨gb390, 2, none⟩ (.int .i64 t388)) w.heap.size (fun k_ => ((P0_ k_ ∨ P1_ k_) ∨ w.heap.size ≤ k_) ∧ k_ ≠ gb381 ∧ k_ ≠ gb390) (.slice A1 l1.length c1) l1) := ⟨by (with_reducible repeat (first | apply Kd.V_alloc | apply Kd.V_drewN | apply Kd.V_drew)); exact Kd.V_mono (Kd.V_far (p := ⟨gb390, 2, none⟩) (Kd.V_far (p := ⟨gb390, 1, none⟩) (Kd.V_far (p := ⟨gb390, 0, none⟩) (Kd.V_mono HO1.out (fun k_ hk => (⟨hk, hk.2⟩ : _ ∧ k_ ≠ gb390))) (fun _ hk => hk.2) (.slice Ao11 t382.length co11)) (fun _ hk => hk.2) (.slice Ao14 t385.length co14)) (fun _ hk => hk.2) (.int .i64 t388)) (fun _ hk => ⟨hk.1.1.1, ⟨hk.1.1.2, hk.1.2⟩⟩)⟩
  have n2_ : Aside0 (Kd.V (Kd.slice 3 (Kd.int .i64)) 23 (((w10.setCell ⟨gb390, 0, none⟩ (.slice Ao11 t382.length co11)).setCell ⟨gb390, 1, none⟩ (.slice Ao14 t385.length co14)).setCell ⟨gb390, 2, none⟩ (.int .i64 t388)) w.heap.size (fun k_ => ((P0_ k_ ∨ P1_ k_) ∨ w.heap.size ≤ k_) ∧ k_ ≠ gb381 ∧ k_ ≠ gb390) (.slice Ao11 t382.length co11) t382) := ⟨by (with_reducible repeat (first | apply Kd.V_alloc | apply Kd.V_drewN | apply Kd.V_drew)); exact Kd.V_mono (Kd.V_far (p := ⟨gb390, 2, none⟩) (Kd.V_far (p := ⟨gb390, 1, none⟩) (Kd.V_far (p := ⟨gb390, 0, none⟩) (Kd.V_mono HO384.out (fun k_ hk => (⟨hk, hk.2⟩ : _ ∧ k_ ≠ gb390))) (fun _ hk => hk.2) (.slice Ao11 t382.length co11)) (fun _ hk => hk.2) (.slice Ao14 t385.length co14)) (fun _ hk => hk.2) (.int .i64 t388)) (fun _ hk => ⟨hk.1.1.1, ⟨hk.1.1.2, hk.1.2⟩⟩)⟩
  have n3_ : Aside0 (Kd.V (Kd.int .i64) 3 (((w10.setCell ⟨gb390, 0, none⟩ (.slice Ao11 t382.length co11)).setCell ⟨gb390, 1, none⟩ (.slice Ao14 t385.length co14)).setCell ⟨gb390, 2, none⟩ (.int .i64 t388)) w.heap.size (fun k_ => ((P0_ k_ ∨ P1_ k_) ∨ w.heap.size ≤ k_) ∧ k_ ≠ gb381 ∧ k_ ≠ gb390) (.slice Ao14 t385.length co14) t385) := ⟨by (with_reducible repeat (first | apply Kd.V_alloc | apply Kd.V_drewN | apply Kd.V_drew)); exact Kd.V_mono (Kd.V_far (p := ⟨gb390, 2, none⟩) (Kd.V_far (p := ⟨gb390, 1, none⟩) (Kd.V_far (p := ⟨gb390, 0, none⟩) (Kd.V_mono HO387.out (fun k_ hk => (⟨hk, hk.2⟩ : _ ∧ k_ ≠ gb390))) (fun _ hk => hk.2) (.slice Ao11 t382.length co11)) (fun _ hk => hk.2) (.slice Ao14 t385.length co14)) (fun _ hk => hk.2) (.int .i64 t388)) (fun _ hk => ⟨hk.1.1.1, ⟨hk.1.1.2, hk.1.2⟩⟩)⟩
  have n4_ : Aside0 ((((w10.setCell ⟨gb390, 0, none⟩ (.slice Ao11 t382.length co11)).setCell ⟨gb390, 1, none⟩ (.slice Ao14 t385.length co14)).setCell ⟨gb390, 2, none⟩ (.int .i64 t388)).heap[gb381]? = some (.cells #[.slice none 0 0, .slice none 0 0, .int .i64 0] 63 (0, 0))) := ⟨by (with_reducible repeat (first | refine blk_drewN ?_ _ | refine blk_drew ?_ | refine blk_alloc ?_ _)); refine blk_far ?_ NB381_390.out _; (with_reducible repeat (first | refine blk_drewN ?_ _ | refine blk_drew ?_ | refine blk_alloc ?_ _)); refine blk_far ?_ NB381_390.out _; (with_reducible repeat (first | refine blk_drewN ?_ _ | refine blk_drew ?_ | refine blk_alloc ?_ _)); refine blk_far ?_ NB381_390.out _; (with_reducible repeat (first | refine blk_drewN ?_ _ | refine blk_drew ?_ | refine blk_alloc ?_ _)); exact BK381.out⟩
  have n5_ : Aside0 ((((w10.setCell ⟨gb390, 0, none⟩ (.slice Ao11 t382.length co11)).setCell ⟨gb390, 1, none⟩ (.slice Ao14 t385.length co14)).setCell ⟨gb390, 2, none⟩ (.int .i64 t388)).heap[gb390]? = some (.cells #[.slice Ao11 t382.length co11, .slice Ao14 t385.length co14, .int .i64 t388] 63 (0, 0))) := ⟨by (with_reducible repeat (first | refine blk_drewN ?_ _ | refine blk_drew ?_ | refine blk_alloc ?_ _)); refine blk_put (cs := #[.slice Ao11 t382.length co11, .slice Ao14 t385.length co14, .int .i64 0]) ?_ 2 _ rfl; (with_reducible repeat (first | refine blk_drewN ?_ _ | refine blk_drew ?_ | refine blk_alloc ?_ _)); refine blk_put (cs := #[.slice Ao11 t382.length co11, .slice none 0 0, .int .i64 0]) ?_ 1 _ rfl; (with_reducible repeat (first | refine blk_drewN ?_ _ | refine blk_drew ?_ | refine blk_alloc ?_ _)); refine blk_put (cs := #[.slice none 0 0, .slice none 0 0, .int .i64 0]) ?_ 0 _ rfl; (with_reducible repeat (first | refine blk_drewN ?_ _ | refine blk_drew ?_ | refine blk_alloc ?_ _)); exact BK390.out⟩
  have n6_ : Aside0 (Below w.heap.size w (((w10.setCell ⟨gb390, 0, none⟩ (.slice Ao11 t382.length co11)).setCell ⟨gb390, 1, none⟩ (.slice Ao14 t385.length co14)).setCell ⟨gb390, 2, none⟩ (.int .i64 t388))) := ⟨by repeat (first | (with_reducible first | exact HB.out | apply below_alloc | apply pw_below_drewN | apply below_drew1 | refine below_set ?_ GE381.out | refine below_set ?_ GE390.out) | exact HB.out)⟩
  (try clear HO0)
  (try clear HO1)
  (try clear HO384)
  (try clear HO387)
  (try clear BK381)
  (try clear BK390)
  (try clear HB)
  generalize (((w10.setCell ⟨gb390, 0, none⟩ (.slice Ao11 t382.length co11)).setCell ⟨gb390, 1, none⟩ (.slice Ao14 t385.length co14)).setCell ⟨gb390, 2, none⟩ (.int .i64 t388)) = w15 at n0_ n1_ n2_ n3_ n4_ n5_ n6_ ⊢
  have HO0 := n0_
  have HO1 := n1_
  have HO384 := n2_
  have HO387 := n3_
  have BK381 := n4_
  have BK390 := n5_
  have HB := n6_
  clear n0_ n1_ n2_ n3_ n4_ n5_ n6_
  have n0_ := A_ (Kd.V_drew HO0.out)
  have n1_ := A_ (Kd.V_drew HO1.out)
  have n2_ := A_ (Kd.V_drew HO384.out)
  have n3_ := A_ (Kd.V_drew HO387.out)
  have n4_ := A_ (blk_drew BK381.out)
  have n5_ := A_ (blk_drew BK390.out)
  have n6_ := A_ (below_drew1 HB.out)
  clear HO0
  clear HO1
  clear HO384
  clear HO387
  clear BK381
  clear BK390
  clear HB
  have HO0 := n0_
  have HO1 := n1_
  have HO384 := n2_
  have HO387 := n3_
  have BK381 := n4_
  have BK390 := n5_
  have HB := n6_
  clear n0_ n1_ n2_ n3_ n4_ n5_ n6_
  refine start_ (n := 9) (S := fun w' => w'.cell? ⟨gb390, 0, none⟩ = some (.slice Ao11 t382.length co11) ∧ w'.cell? ⟨gb390, 1, none⟩ = some (.slice Ao14 t385.length co14) ∧ w'.cell? ⟨gb390, 2, none⟩ = some (.int .i64 t388)) (ds := []) #[false, false, false, false, false, false, false, false, false] kr_ rfl rfl ⟨(blk_cell BK390.out 0).trans rfl, (blk_cell BK390.out 1).trans rfl, (blk_cell BK390.out 2).trans rfl⟩ (fun hHeld => ?_); refine with_tabW impl_delayed.tab2 impl_delayed.bits2 (fun HT_ HW_ => ?_)
  generalize w15.drew = w16 at HO0 HO1 HO384 HO387 BK381 BK390 HB hHeld ⊢
  refine pure_ (i := 1) (N := some 20) (v := ?_) (a' := ?_) #[false, true, false, false, false, false, false, false, false] rfl rfl (any_of HT_.out kr_) (fun _ _ _ h => h) (Or.inl ⟨by rfl, ?_⟩) ?_ ?_
  rotate_left
  ·
   intro w'
   go_simp
   with_reducible rfl
  rotate_left
  ·
   simp only [Act.put, List.setIfInBounds_toArray, List.set_cons_zero, List.set_cons_succ, i64_w, i32_w]
   rfl
  refine pure_ (i := 2) (N := some 21) (v := ?_) (a' := ?_) #[false, true, true, false, false, false, false, false, false] rfl rfl (any_of HT_.out kr_) (fun _ _ _ h => h) (Or.inl ⟨by rfl, ?_⟩) ?_ ?_
  rotate_left
  ·
   intro w'
   go_simp
   with_reducible rfl
  rotate_left
  ·
   simp only [Act.put, List.setIfInBounds_toArray, List.set_cons_zero, List.set_cons_succ, i64_w, i32_w]
   rfl
  refine pure_ (i := 4) (N := some 23) (v := ?_) (a' := ?_) #[false, true, true, false, true, false, false, false, false] rfl rfl (any_of HT_.out kr_) (fun _ _ _ h => h) (Or.inl ⟨by rfl, ?_⟩) ?_ ?_
  rotate_left
  ·
   intro w'
   go_simp
   with_reducible rfl
  rotate_left
  ·
   simp only [Act.put, List.setIfInBounds_toArray, List.set_cons_zero, List.set_cons_succ, i64_w, i32_w]
   rfl
  refine take_ (i := 0) (N := some 19) (v := ?_) (a' := ?_) #[true, true, true, false, true, false, false, false, false] rfl rfl (take_ofW HT_.out HW_.out kr_) (fun _ _ _ h => h) (Or.inl ⟨by rfl, ?_⟩) hHeld ?_ ?_
  rotate_left
  ·
   rintro w' ⟨s0, s1, s2⟩
   go_simp
   with_reducible rfl
  rotate_left
  ·
   simp only [Act.put, List.setIfInBounds_toArray, List.set_cons_zero, List.set_cons_succ, i64_w, i32_w]
   rfl
  refine take_ (i := 3) (N := some 22) (v := ?_) (a' := ?_) #[true, true, true, true, true, false, false, false, false] rfl rfl (take_ofW HT_.out HW_.out kr_) (fun _ _ _ h => h) (Or.inl ⟨by rfl, ?_⟩) hHeld ?_ ?_
  rotate_left
  ·
   rintro w' ⟨s0, s1, s2⟩
   go_simp
   with_reducible rfl
  rotate_left
  ·
   simp only [Act.put, List.setIfInBounds_toArray, List.set_cons_zero, List.set_cons_succ, i64_w, i32_w]
   rfl
  refine one_ (i := 5) (N := some 24) #[true, true, true, true, true, true, false, false, false] rfl rfl (one_of HT_.out kr_) (by decide) (fun K hK => ?_)
  refine goes_ Try.func86 kr_ rfl #[.agg #[.slice Ao11 t382.length co11, .slice Ao14 t385.length co14, .int .i64 t388], .slice A3 l3.length c3] (by rfl) rfl rfl am_ ?_
  with_reducible refine (impl_plan_areDelays.calls _ _ t382 _ _ t385 t388 _ _ l3 t391 _ ?side1 ?side2 ?side3 ?side4 ?side5 ?side6 A7.out).mono ?_
  (case side1 => exact kC_ ((Kd.V_reads' HO384.out).2.2))
  (case side2 => exact (Kd.V_reads' HO384.out).2.1)
  (case side3 => exact kC_ ((Kd.V_reads' HO387.out).2.2))
  (case side4 => exact (Kd.V_reads' HO387.out).2.1)
  (case side5 => exact kC_ (Kd.C_below HR3.out HB.out))
  (case side6 => exact HC3.out)
  rintro e w17 ⟨rfl, hb⟩
  refine ⟨_, rfl, ?_⟩
  have n0_ := A_ (Kd.V_below (by (with_reducible repeat (first | apply Kd.V_alloc | apply Kd.V_drewN | apply Kd.V_drew)); exact HO0.out) hb)
  have n1_ := A_ (Kd.V_below (by (with_reducible repeat (first | apply Kd.V_alloc | apply Kd.V_drewN | apply Kd.V_drew)); exact HO1.out) hb)
  have n2_ := A_ (Kd.V_below (by (with_reducible repeat (first | apply Kd.V_alloc | apply Kd.V_drewN | apply Kd.V_drew)); exact HO384.out) hb)
  have n3_ := A_ (Kd.V_below (by (with_reducible repeat (first | apply Kd.V_alloc | apply Kd.V_drewN | apply Kd.V_drew)); exact HO387.out) hb)
  have n4_ := A_ (blk_below (g := gb381) (o := .cells #[.slice none 0 0, .slice none 0 0, .int .i64 0] 63 (0, 0)) (by (with_reducible repeat (first | refine blk_drewN ?_ _ | refine blk_drew ?_ | refine blk_alloc ?_ _)); exact BK381.out) hb)
  have n5_ := A_ (blk_below (g := gb390) (o := .cells #[.slice Ao11 t382.length co11, .slice Ao14 t385.length co14, .int .i64 t388] 63 (0, 0)) (by (with_reducible repeat (first | refine blk_drewN ?_ _ | refine blk_drew ?_ | refine blk_alloc ?_ _)); exact BK390.out) hb)
  have n6_ := A_ (below_step (by repeat (first | (with_reducible first | exact HB.out | apply below_alloc | apply pw_below_drewN | apply below_drew1 | refine below_set ?_ GE381.out | refine below_set ?_ GE390.out) | exact HB.out)) hb)
  clear HO0
  clear HO1
  clear HO384
  clear HO387
  clear BK381
  clear BK390
  clear HB
  have HO0 := n0_
  have HO1 := n1_
  have HO384 := n2_
  have HO387 := n3_
  have BK381 := n4_
  have BK390 := n5_
  have HB := n6_
  clear n0_ n1_ n2_ n3_ n4_ n5_ n6_
  (try clear hb)
  (try clear hb2)
  (try clear hk)
  (try clear hi)
  refine hK.out _ _ ⟨(blk_cell BK390.out 0).trans rfl, (blk_cell BK390.out 1).trans rfl, (blk_cell BK390.out 2).trans rfl⟩ (fun hHeld => ?_)
  clear hK K
  refine norm_ (a' := ?_) ?_ ?_
  rotate_left
  ·
   show Act.put _ (some 24) _ = _
   simp only [Act.put, List.setIfInBounds_toArray, List.set_cons_zero, List.set_cons_succ, i64_w, i32_w]
   rfl
  refine pure_ (i := 6) (N := some 25) (v := ?_) (a' := ?_) #[true, true, true, true, true, true, true, false, false] rfl rfl (any_of HT_.out kr_) (fun _ _ _ h => h) (Or.inl ⟨by rfl, ?_⟩) ?_ ?_
  rotate_left
  ·
   intro w'
   go_simp
   with_reducible rfl
  rotate_left
  ·
   simp only [Act.put, List.setIfInBounds_toArray, List.set_cons_zero, List.set_cons_succ, i64_w, i32_w]
   rfl
  refine one_ (i := 7) (N := none) #[true, true, true, true, true, true, true, true, false] rfl rfl (one_of HT_.out kr_) (by decide) (fun K hK => ?_)
  have hs18 : w17.cell? ⟨gb381, 0, none⟩ = some (.slice none 0 0) := (blk_cell BK381.out 0).trans rfl
  have hfs18 := blk_frozen BK381.out 0
  have hns18_1 := NB390_381.out
  have hms18_1 := NB381_390.out
  have hs19 : w17.cell? ⟨gb381, 1, none⟩ = some (.slice none 0 0) := (blk_cell BK381.out 1).trans rfl
  have hfs19 := blk_frozen BK381.out 1
  have hns19_1 := NB390_381.out
  have hms19_1 := NB381_390.out
  have hs20 : w17.cell? ⟨gb381, 2, none⟩ = some (.int .i64 0) := (blk_cell BK381.out 2).trans rfl
  have hfs20 := blk_frozen BK381.out 2
  have hns20_1 := NB390_381.out
  have hms20_1 := NB381_390.out
  refine skip_ (w1 := ?_) (by rfl) rfl ?_ ?_
  rotate_left
  ·
   go_simp
   rfl
  refine hK.out _ _ ⟨((cell_far (p := ⟨gb381, _, none⟩) NB390_381.out _).trans (((cell_far (p := ⟨gb381, _, none⟩) NB390_381.out _).trans (((cell_far (p := ⟨gb381, _, none⟩) NB390_381.out _).trans (hHeld.1)))))), ((cell_far (p := ⟨gb381, _, none⟩) NB390_381.out _).trans (((cell_far (p := ⟨gb381, _, none⟩) NB390_381.out _).trans (((cell_far (p := ⟨gb381, _, none⟩) NB390_381.out _).trans (hHeld.2.1)))))), ((cell_far (p := ⟨gb381, _, none⟩) NB390_381.out _).trans (((cell_far (p := ⟨gb381, _, none⟩) NB390_381.out _).trans (((cell_far (p := ⟨gb381, _, none⟩) NB390_381.out _).trans (hHeld.2.2))))))⟩ (fun hHeld => ?_)
  clear hK K
  refine pure_ (i := 8) (N := some 9) (v := ?_) (a' := ?_) #[true, true, true, true, true, true, true, true, true] rfl rfl (any_of HT_.out kr_) (fun _ _ _ h => h) (Or.inl ⟨by rfl, ?_⟩) ?_ ?_
  rotate_left
  ·
   intro w'
   go_simp
   with_reducible rfl
  rotate_left
  ·
   simp only [Act.put, List.setIfInBounds_toArray, List.set_cons_zero, List.set_cons_succ, i64_w, i32_w]
   rfl
  refine done_ (done_of HT_.out kr_) ?_
  try go_wp2
  refine bodyPost_ret (results_ct rfl _ _ gb381 63 #[.slice Ao11 t382.length co11, .slice Ao14 t385.length co14, .int .i64 t388] (0, 0) _ rfl (by (with_reducible repeat (first | refine blk_drewN ?_ _ | refine blk_drew ?_ | refine blk_alloc ?_ _)); refine blk_put (cs := #[.slice Ao11 t382.length co11, .slice Ao14 t385.length co14, .int .i64 0]) ?_ 2 _ rfl; (with_reducible repeat (first | refine blk_drewN ?_ _ | refine blk_drew ?_ | refine blk_alloc ?_ _)); refine blk_put (cs := #[.slice Ao11 t382.length co11, .slice none 0 0, .int .i64 0]) ?_ 1 _ rfl; (with_reducible repeat (first | refine blk_drewN ?_ _ | refine blk_drew ?_ | refine blk_alloc ?_ _)); refine blk_put (cs := #[.slice none 0 0, .slice none 0 0, .int .i64 0]) ?_ 0 _ rfl; (with_reducible repeat (first | refine blk_drewN ?_ _ | refine blk_drew ?_ | refine blk_alloc ?_ _)); exact BK381.out) Try.underlying63 rfl kr_) rfl ?_
  exact ⟨_, _, ew_, by (with_reducible repeat (first | apply Kd.V_alloc | apply Kd.V_drewN | apply Kd.V_drew)); exact Kd.V_mono (Kd.V_far (p := ⟨gb381, 2, none⟩) (Kd.V_far (p := ⟨gb381, 1, none⟩) (Kd.V_far (p := ⟨gb381, 0, none⟩) (Kd.V_mono HO384.out (fun k_ hk => (⟨hk, hk.2.1⟩ : _ ∧ k_ ≠ gb381))) (fun _ hk => hk.2) (.slice Ao11 t382.length co11)) (fun _ hk => hk.2) (.slice Ao14 t385.length co14)) (fun _ hk => hk.2) (.int .i64 t388)) (fun _ hk => hk.1.1), by (with_reducible repeat (first | apply Kd.V_alloc | apply Kd.V_drewN | apply Kd.V_drew)); exact Kd.V_mono (Kd.V_far (p := ⟨gb381, 2, none⟩) (Kd.V_far (p := ⟨gb381, 1, none⟩) (Kd.V_far (p := ⟨gb381, 0, none⟩) (Kd.V_mono HO387.out (fun k_ hk => (⟨hk, hk.2.1⟩ : _ ∧ k_ ≠ gb381))) (fun _ hk => hk.2) (.slice Ao11 t382.length co11)) (fun _ hk => hk.2) (.slice Ao14 t385.length co14)) (fun _ hk => hk.2) (.int .i64 t388)) (fun _ hk => hk.1.1), by repeat (first | (with_reducible first | exact HB.out | apply below_alloc | apply pw_below_drewN | apply below_drew1 | refine below_set ?_ GE381.out | refine below_set ?_ GE390.out) | exact HB.out)⟩
 ·
  replace c6 := Bool.eq_false_iff.mpr c6
  subst c6
  rw [if_neg (show ¬ (false = true) by decide)] at H
  simp only [Option.some.injEq, Prod.mk.injEq] at H
  obtain ⟨rfl, rfl, rfl, rfl⟩ := H
  go_enter Try.func64, Try.ntmps64
  try go_wp2_with (first | ((with_reducible refine gate_dst (N := 8) rfl ?_); refine box_event ?hg (N := 8) ?hd (cs := #[.slice none 0 0, .slice none 0 0, .int .i64 0]) (t := 63) ?hr ?_; (case hd => rfl); (case hg => rfl); (case hr => first | (go_simp; done) | (go_simp; rfl)); intro gb381 hg w21 hbox hb; have n0_ := A_ (Kd.V_below (Kd.V_elderB (by (with_reducible repeat (first | apply Kd.V_alloc | apply Kd.V_drewN | apply Kd.V_drew)); exact HO0.out) gb381 (Nat.le_of_eq hg.symm)) hb); have n1_ := A_ (Kd.V_below (Kd.V_elderB (by (with_reducible repeat (first | apply Kd.V_alloc | apply Kd.V_drewN | apply Kd.V_drew)); exact HO1.out) gb381 (Nat.le_of_eq hg.symm)) hb); have n2_ := A_ (below_step bl_ hb); have n3_ := A_ (hbox); have n4_ := A_ ((by rw [hg]; exact (below_size bl_) : w.heap.size ≤ gb381)); have n5_ := A_ ((by rw [hg]; exact (below_size bl_) : w.heap.size ≤ gb381)); clear HO0; clear HO1; clear HB; have HO0 := n0_; have HO1 := n1_; have HB := n2_; have BK381 := n3_; have GW381 := n4_; have GE381 := n5_; clear n0_ n1_ n2_ n3_ n4_ n5_; clear hb hbox hg) | ((with_reducible refine gate_callee (f := 54) rfl ?_); refine goesL_ (some 16) rfl rfl Try.func54 kr_ rfl #[.slice A0 l0.length c0, .slice A1 l1.length c1, .int .i64 a2] rfl am_ ?_; (with_reducible refine (impl_planOf.calls k (fun k_ => (((P0_ k_ ∨ P1_ k_) ∨ w.heap.size ≤ k_) ∧ k_ ≠ gb381)) _ _ l0 (fun k_ => (((P0_ k_ ∨ P1_ k_) ∨ w.heap.size ≤ k_) ∧ k_ ≠ gb381)) _ _ l1 a2 t382 t385 t388 false _ ?side1 ?side2 A5.out).mono ?_); (case side1 => exact HO0.out); (case side2 => exact HO1.out); rintro e w22 ⟨v383, v386, rfl, ho0, ho1, hb⟩; refine ⟨_, rfl, ?_⟩; have n0_ := A_ (Kd.V_below (by (with_reducible repeat (first | apply Kd.V_alloc | apply Kd.V_drewN | apply Kd.V_drew)); exact HO0.out) hb); have n1_ := A_ (Kd.V_below (by (with_reducible repeat (first | apply Kd.V_alloc | apply Kd.V_drewN | apply Kd.V_drew)); exact HO1.out) hb); have n2_ := A_ (Kd.V_lower (Kd.V_mono (ok' := fun k_ => ((P0_ k_ ∨ P1_ k_) ∨ w.heap.size ≤ k_) ∧ k_ ≠ gb381) ho0 (fun k_ hk_ => ⟨Or.elim hk_ (fun hs_ => Or.elim hs_ (fun hs_ => hs_.1) (fun hs_ => hs_.1)) (fun hn_ => (.inr (Nat.le_trans (below_size (bs_ GE381.out)) hn_))), Or.elim hk_ (fun hs_ => Or.elim hs_ (fun hs_ => hs_.2) (fun hs_ => hs_.2)) (fun hn_ => (Kd.freshB (g := gb381) (o := .cells #[.slice none 0 0, .slice none 0 0, .int .i64 0] 63 (0, 0)) (by (with_reducible repeat (first | refine blk_drewN ?_ _ | refine blk_drew ?_ | refine blk_alloc ?_ _)); exact BK381.out) k_ hn_))⟩)) (below_size (bs_ GE381.out))); have n3_ := A_ (Kd.V_lower (Kd.V_mono (ok' := fun k_ => ((P0_ k_ ∨ P1_ k_) ∨ w.heap.size ≤ k_) ∧ k_ ≠ gb381) ho1 (fun k_ hk_ => ⟨Or.elim hk_ (fun hs_ => Or.elim hs_ (fun hs_ => hs_.1) (fun hs_ => hs_.1)) (fun hn_ => (.inr (Nat.le_trans (below_size (bs_ GE381.out)) hn_))), Or.elim hk_ (fun hs_ => Or.elim hs_ (fun hs_ => hs_.2) (fun hs_ => hs_.2)) (fun hn_ => (Kd.freshB (g := gb381) (o := .cells #[.slice none 0 0, .slice none 0 0, .int .i64 0] 63 (0, 0)) (by (with_reducible repeat (first | refine blk_drewN ?_ _ | refine blk_drew ?_ | refine blk_alloc ?_ _)); exact BK381.out) k_ hn_))⟩)) (below_size (bs_ GE381.out))); have n4_ := A_ (blk_below (g := gb381) (o := .cells #[.slice none 0 0, .slice none 0 0, .int .i64 0] 63 (0, 0)) (by (with_reducible repeat (first | refine blk_drewN ?_ _ | refine blk_drew ?_ | refine blk_alloc ?_ _)); exact BK381.out) hb); have n5_ := A_ (below_step (bs_ GE381.out) hb); clear HO0; clear HO1; clear BK381; clear HB; have HO0 := n0_; have HO1 := n1_; have HO384 := n2_; have HO387 := n3_; have BK381 := n4_; have HB := n5_; clear n0_ n1_ n2_ n3_ n4_ n5_; (try clear hb); (try clear hb2); (try clear hk); (try clear hi); (try clear ho0); (try clear ho1)) | ((with_reducible refine gate_dst (N := 10) rfl ?_); refine box_event ?hg (N := 10) ?hd (cs := #[.slice none 0 0, .slice none 0 0, .int .i64 0]) (t := 63) ?hr ?_; (case hd => rfl); (case hg => rfl); (case hr => first | (go_simp; done) | (go_simp; rfl)); intro gb390 hg w23 hbox hb; have n0_ := A_ (Kd.V_below (Kd.V_elderB (by (with_reducible repeat (first | apply Kd.V_alloc | apply Kd.V_drewN | apply Kd.V_drew)); exact HO0.out) gb390 (Nat.le_of_eq hg.symm)) hb); have n1_ := A_ (Kd.V_below (Kd.V_elderB (by (with_reducible repeat (first | apply Kd.V_alloc | apply Kd.V_drewN | apply Kd.V_drew)); exact HO1.out) gb390 (Nat.le_of_eq hg.symm)) hb); have n2_ := A_ (Kd.V_below (Kd.V_elderB (by (with_reducible repeat (first | apply Kd.V_alloc | apply Kd.V_drewN | apply Kd.V_drew)); exact HO384.out) gb390 (Nat.le_of_eq hg.symm)) hb); have n3_ := A_ (Kd.V_below (Kd.V_elderB (by (with_reducible repeat (first | apply Kd.V_alloc | apply Kd.V_drewN | apply Kd.V_drew)); exact HO387.out) gb390 (Nat.le_of_eq hg.symm)) hb); have n4_ := A_ (blk_below (g := gb381) (o := .cells #[.slice none 0 0, .slice none 0 0, .int .i64 0] 63 (0, 0)) (by (with_reducible repeat (first | refine blk_drewN ?_ _ | refine blk_drew ?_ | refine blk_alloc ?_ _)); exact BK381.out) hb); have n5_ := A_ (below_step (bs_ GE381.out) hb); have n6_ := A_ (hbox); have n7_ := A_ ((by rw [hg]; exact (below_size (bs_ GE381.out)) : w.heap.size ≤ gb390)); have n8_ := A_ ((by rw [hg]; exact (below_size (bs_ GE381.out)) : w.heap.size ≤ gb390)); have n9_ := A_ ((by rw [hg]; exact Nat.ne_of_lt (blk_lt (g := gb381) (o := .cells #[.slice none 0 0, .slice none 0 0, .int .i64 0] 63 (0, 0)) (by (with_reducible repeat (first | refine blk_drewN ?_ _ | refine blk_drew ?_ | refine blk_alloc ?_ _)); exact BK381.out)) : gb381 ≠ gb390)); have n10_ := A_ ((by rw [hg]; exact Nat.ne_of_gt (blk_lt (g := gb381) (o := .cells #[.slice none 0 0, .slice none 0 0, .int .i64 0] 63 (0, 0)) (by (with_reducible repeat (first | refine blk_drewN ?_ _ | refine blk_drew ?_ | refine blk_alloc ?_ _)); exact BK381.out)) : gb390 ≠ gb381)); clear HO0; clear HO1; clear HO384; clear HO387; clear BK381; clear HB; have HO0 := n0_; have HO1 := n1_; have HO384 := n2_; have HO387 := n3_; have BK381 := n4_; have HB := n5_; have BK390 := n6_; have GW390 := n7_; have GE390 := n8_; have NB381_390 := n9_; have NB390_381 := n10_; clear n0_ n1_ n2_ n3_ n4_ n5_ n6_ n7_ n8_ n9_ n10_; clear hb hbox hg; obtain ⟨Ao24, co24, eo24⟩ := Kd.V_slice HO384.out; subst eo24; have hnb25 := NB390_381.out; have hnc25 := NB381_390.out; have hcz26_0 : w23.cell? ⟨gb390, 0, none⟩ = some (.slice none 0 0) := (blk_cell BK390.out 0).trans rfl; have hcz26_1 : w23.cell? ⟨gb390, 1, none⟩ = some (.slice none 0 0) := (blk_cell BK390.out 1).trans rfl; have hcz26_2 : w23.cell? ⟨gb390, 2, none⟩ = some (.int .i64 0) := (blk_cell BK390.out 2).trans rfl; have hfz26_0 := blk_frozen BK390.out 0; have hfz26_1 := blk_frozen BK390.out 1; have hfz26_2 := blk_frozen BK390.out 2; obtain ⟨Ao27, co27, eo27⟩ := Kd.V_slice HO387.out; subst eo27))
  have n0_ : Aside0 (Kd.V (Kd.slice 3 (Kd.int .i64)) 23 (((w23.setCell ⟨gb390, 0, none⟩ (.slice Ao24 t382.length co24)).setCell ⟨gb390, 1, none⟩ (.slice Ao27 t385.length co27)).setCell ⟨gb390, 2, none⟩ (.int .i64 t388)) w.heap.size (fun k_ => ((P0_ k_ ∨ P1_ k_) ∨ w.heap.size ≤ k_) ∧ k_ ≠ gb381 ∧ k_ ≠ gb390) (.slice A0 l0.length c0) l0) := ⟨by (with_reducible repeat (first | apply Kd.V_alloc | apply Kd.V_drewN | apply Kd.V_drew)); exact Kd.V_mono (Kd.V_far (p := ⟨gb390, 2, none⟩) (Kd.V_far (p := ⟨gb390, 1, none⟩) (Kd.V_far (p := ⟨gb390, 0, none⟩) (Kd.V_mono HO0.out (fun k_ hk => (⟨hk, hk.2⟩ : _ ∧ k_ ≠ gb390))) (fun _ hk => hk.2) (.slice Ao24 t382.length co24)) (fun _ hk => hk.2) (.slice Ao27 t385.length co27)) (fun _ hk => hk.2) (.int .i64 t388)) (fun _ hk => ⟨hk.1.1.1, ⟨hk.1.1.2, hk.1.2⟩⟩)⟩
  have n1_ : Aside0 (Kd.V (Kd.int .i64) 3 (((w23.setCell ⟨gb390, 0, none⟩ (.slice Ao24 t382.length co24)).setCell ⟨gb390, 1, none⟩ (.slice Ao27 t385.length co27)).setCell ⟨gb390, 2, none⟩ (.int .i64 t388)) w.heap.size (fun k_ => ((P0_ k_ ∨ P1_ k_) ∨ w.heap.size ≤ k_) ∧ k_ ≠ gb381 ∧ k_ ≠ gb390) (.slice A1 l1.length c1) l1) := ⟨by (with_reducible repeat (first | apply Kd.V_alloc | apply Kd.V_drewN | apply Kd.V_drew)); exact Kd.V_mono (Kd.V_far (p := ⟨gb390, 2, none⟩) (Kd.V_far (p := ⟨gb390, 1, none⟩) (Kd.V_far (p := ⟨gb390, 0, none⟩) (Kd.V_mono HO1.out (fun k_ hk => (⟨hk, hk.2⟩ : _ ∧ k_ ≠ gb390))) (fun _ hk => hk.2) (.slice Ao24 t382.length co24)) (fun _ hk => hk.2) (.slice Ao27 t385.length co27)) (fun _ hk => hk.2) (.int .i64 t388)) (fun _ hk => ⟨hk.1.1.1, ⟨hk.1.1.2, hk.1.2⟩⟩)⟩
  have n2_ : Aside0 (Kd.V (Kd.slice 3 (Kd.int .i64)) 23 (((w23.setCell ⟨gb390, 0, none⟩ (.slice Ao24 t382.length co24)).setCell ⟨gb390, 1, none⟩ (.slice Ao27 t385.length co27)).setCell ⟨gb390, 2, none⟩ (.int .i64 t388)) w.heap.size (fun k_ => ((P0_ k_ ∨ P1_ k_) ∨ w.heap.size ≤ k_) ∧ k_ ≠ gb381 ∧ k_ ≠ gb390) (.slice Ao24 t382.length co24) t382) := ⟨by (with_reducible repeat (first | apply Kd.V_alloc | apply Kd.V_drewN | apply Kd.V_drew)); exact Kd.V_mono (Kd.V_far (p := ⟨gb390, 2, none⟩) (Kd.V_far (p := ⟨gb390, 1, none⟩) (Kd.V_far (p := ⟨gb390, 0, none⟩) (Kd.V_mono HO384.out (fun k_ hk => (⟨hk, hk.2⟩ : _ ∧ k_ ≠ gb390))) (fun _ hk => hk.2) (.slice Ao24 t382.length co24)) (fun _ hk => hk.2) (.slice Ao27 t385.length co27)) (fun _ hk => hk.2) (.int .i64 t388)) (fun _ hk => ⟨hk.1.1.1, ⟨hk.1.1.2, hk.1.2⟩⟩)⟩
  have n3_ : Aside0 (Kd.V (Kd.int .i64) 3 (((w23.setCell ⟨gb390, 0, none⟩ (.slice Ao24 t382.length co24)).setCell ⟨gb390, 1, none⟩ (.slice Ao27 t385.length co27)).setCell ⟨gb390, 2, none⟩ (.int .i64 t388)) w.heap.size (fun k_ => ((P0_ k_ ∨ P1_ k_) ∨ w.heap.size ≤ k_) ∧ k_ ≠ gb381 ∧ k_ ≠ gb390) (.slice Ao27 t385.length co27) t385) := ⟨by (with_reducible repeat (first | apply Kd.V_alloc | apply Kd.V_drewN | apply Kd.V_drew)); exact Kd.V_mono (Kd.V_far (p := ⟨gb390, 2, none⟩) (Kd.V_far (p := ⟨gb390, 1, none⟩) (Kd.V_far (p := ⟨gb390, 0, none⟩) (Kd.V_mono HO387.out (fun k_ hk => (⟨hk, hk.2⟩ : _ ∧ k_ ≠ gb390))) (fun _ hk => hk.2) (.slice Ao24 t382.length co24)) (fun _ hk => hk.2) (.slice Ao27 t385.length co27)) (fun _ hk => hk.2) (.int .i64 t388)) (fun _ hk => ⟨hk.1.1.1, ⟨hk.1.1.2, hk.1.2⟩⟩)⟩
  have n4_ : Aside0 ((((w23.setCell ⟨gb390, 0, none⟩ (.slice Ao24 t382.length co24)).setCell ⟨gb390, 1, none⟩ (.slice Ao27 t385.length co27)).setCell ⟨gb390, 2, none⟩ (.int .i64 t388)).heap[gb381]? = some (.cells #[.slice none 0 0, .slice none 0 0, .int .i64 0] 63 (0, 0))) := ⟨by (with_reducible repeat (first | refine blk_drewN ?_ _ | refine blk_drew ?_ | refine blk_alloc ?_ _)); refine blk_far ?_ NB381_390.out _; (with_reducible repeat (first | refine blk_drewN ?_ _ | refine blk_drew ?_ | refine blk_alloc ?_ _)); refine blk_far ?_ NB381_390.out _; (with_reducible repeat (first | refine blk_drewN ?_ _ | refine blk_drew ?_ | refine blk_alloc ?_ _)); refine blk_far ?_ NB381_390.out _; (with_reducible repeat (first | refine blk_drewN ?_ _ | refine blk_drew ?_ | refine blk_alloc ?_ _)); exact BK381.out⟩
  have n5_ : Aside0 ((((w23.setCell ⟨gb390, 0, none⟩ (.slice Ao24 t382.length co24)).setCell ⟨gb390, 1, none⟩ (.slice Ao27 t385.length co27)).setCell ⟨gb390, 2, none⟩ (.int .i64 t388)).heap[gb390]? = some (.cells #[.slice Ao24 t382.length co24, .slice Ao27 t385.length co27, .int .i64 t388] 63 (0, 0))) := ⟨by (with_reducible repeat (first | refine blk_drewN ?_ _ | refine blk_drew ?_ | refine blk_alloc ?_ _)); refine blk_put (cs := #[.slice Ao24 t382.length co24, .slice Ao27 t385.length co27, .int .i64 0]) ?_ 2 _ rfl; (with_reducible repeat (first | refine blk_drewN ?_ _ | refine blk_drew ?_ | refine blk_alloc ?_ _)); refine blk_put (cs := #[.slice Ao24 t382.length co24, .slice none 0 0, .int .i64 0]) ?_ 1 _ rfl; (with_reducible repeat (first | refine blk_drewN ?_ _ | refine blk_drew ?_ | refine blk_alloc ?_ _)); refine blk_put (cs := #[.slice none 0 0, .slice none 0 0, .int .i64 0]) ?_ 0 _ rfl; (with_reducible repeat (first | refine blk_drewN ?_ _ | refine blk_drew ?_ | refine blk_alloc ?_ _)); exact BK390.out⟩
  have n6_ : Aside0 (Below w.heap.size w (((w23.setCell ⟨gb390, 0, none⟩ (.slice Ao24 t382.length co24)).setCell ⟨gb390, 1, none⟩ (.slice Ao27 t385.length co27)).setCell ⟨gb390, 2, none⟩ (.int .i64 t388))) := ⟨by repeat (first | (with_reducible first | exact HB.out | apply below_alloc | apply pw_below_drewN | apply below_drew1 | refine below_set ?_ GE381.out | refine below_set ?_ GE390.out) | exact HB.out)⟩
  (try clear HO0)
  (try clear HO1)
  (try clear HO384)
  (try clear HO387)
  (try clear BK381)
  (try clear BK390)
  (try clear HB)
  generalize (((w23.setCell ⟨gb390, 0, none⟩ (.slice Ao24 t382.length co24)).setCell ⟨gb390, 1, none⟩ (.slice Ao27 t385.length co27)).setCell ⟨gb390, 2, none⟩ (.int .i64 t388)) = w28 at n0_ n1_ n2_ n3_ n4_ n5_ n6_ ⊢
  have HO0 := n0_
  have HO1 := n1_
  have HO384 := n2_
  have HO387 := n3_
  have BK381 := n4_
  have BK390 := n5_
  have HB := n6_
  clear n0_ n1_ n2_ n3_ n4_ n5_ n6_
  have n0_ := A_ (Kd.V_drew HO0.out)
  have n1_ := A_ (Kd.V_drew HO1.out)
  have n2_ := A_ (Kd.V_drew HO384.out)
  have n3_ := A_ (Kd.V_drew HO387.out)
  have n4_ := A_ (blk_drew BK381.out)
  have n5_ := A_ (blk_drew BK390.out)
  have n6_ := A_ (below_drew1 HB.out)
  clear HO0
  clear HO1
  clear HO384
  clear HO387
  clear BK381
  clear BK390
  clear HB
  have HO0 := n0_
  have HO1 := n1_
  have HO384 := n2_
  have HO387 := n3_
  have BK381 := n4_
  have BK390 := n5_
  have HB := n6_
  clear n0_ n1_ n2_ n3_ n4_ n5_ n6_
  refine start_ (n := 9) (S := fun w' => w'.cell? ⟨gb390, 0, none⟩ = some (.slice Ao24 t382.length co24) ∧ w'.cell? ⟨gb390, 1, none⟩ = some (.slice Ao27 t385.length co27) ∧ w'.cell? ⟨gb390, 2, none⟩ = some (.int .i64 t388)) (ds := []) #[false, false, false, false, false, false, false, false, false] kr_ rfl rfl ⟨(blk_cell BK390.out 0).trans rfl, (blk_cell BK390.out 1).trans rfl, (blk_cell BK390.out 2).trans rfl⟩ (fun hHeld => ?_); refine with_tabW impl_delayed.tab2 impl_delayed.bits2 (fun HT_ HW_ => ?_)
  generalize w28.drew = w29 at HO0 HO1 HO384 HO387 BK381 BK390 HB hHeld ⊢
  refine pure_ (i := 1) (N := some 20) (v := ?_) (a' := ?_) #[false, true, false, false, false, false, false, false, false] rfl rfl (any_of HT_.out kr_) (fun _ _ _ h => h) (Or.inl ⟨by rfl, ?_⟩) ?_ ?_
  rotate_left
  ·
   intro w'
   go_simp
   with_reducible rfl
  rotate_left
  ·
   simp only [Act.put, List.setIfInBounds_toArray, List.set_cons_zero, List.set_cons_succ, i64_w, i32_w]
   rfl
  refine pure_ (i := 2) (N := some 21) (v := ?_) (a' := ?_) #[false, true, true, false, false, false, false, false, false] rfl rfl (any_of HT_.out kr_) (fun _ _ _ h => h) (Or.inl ⟨by rfl, ?_⟩) ?_ ?_
  rotate_left
  ·
   intro w'
   go_simp
   with_reducible rfl
  rotate_left
  ·
   simp only [Act.put, List.setIfInBounds_toArray, List.set_cons_zero, List.set_cons_succ, i64_w, i32_w]
   rfl
  refine pure_ (i := 3) (N := some 22) (v := undef) (a' := ?_) #[false, true, true, true, false, false, false, false, false] rfl rfl (any_of HT_.out kr_) (fun _ _ _ h => h) (Or.inr ⟨by rfl, rfl⟩) ?_ ?_
  rotate_left
  ·
   simp only [Act.put, List.setIfInBounds_toArray, List.set_cons_zero, List.set_cons_succ, i64_w, i32_w]
   rfl
  refine pure_ (i := 4) (N := some 23) (v := undef) (a' := ?_) #[false, true, true, true, true, false, false, false, false] rfl rfl (any_of HT_.out kr_) (fun _ _ _ h => h) (Or.inr ⟨by rfl, rfl⟩) ?_ ?_
  rotate_left
  ·
   simp only [Act.put, List.setIfInBounds_toArray, List.set_cons_zero, List.set_cons_succ, i64_w, i32_w]
   rfl
  refine pure_ (i := 5) (N := some 24) (v := undef) (a' := ?_) #[false, true, true, true, true, true, false, false, false] rfl rfl (any_of HT_.out kr_) (fun _ _ _ h => h) (Or.inr ⟨by rfl, rfl⟩) ?_ ?_
  rotate_left
  ·
   simp only [Act.put, List.setIfInBounds_toArray, List.set_cons_zero, List.set_cons_succ, i64_w, i32_w]
   rfl
  refine pure_ (i := 6) (N := some 25) (v := ?_) (a' := ?_) #[false, true, true, true, true, true, true, false, false] rfl rfl (any_of HT_.out kr_) (fun _ _ _ h => h) (Or.inl ⟨by rfl, ?_⟩) ?_ ?_
  rotate_left
  ·
   intro w'
   go_simp
   with_reducible rfl
  rotate_left
  ·
   simp only [Act.put, List.setIfInBounds_toArray, List.set_cons_zero, List.set_cons_succ, i64_w, i32_w]
   rfl
  refine take_ (i := 0) (N := some 19) (v := ?_) (a' := ?_) #[true, true, true, true, true, true, true, false, false] rfl rfl (take_ofW HT_.out HW_.out kr_) (fun _ _ _ h => h) (Or.inl ⟨by rfl, ?_⟩) hHeld ?_ ?_
  rotate_left
  ·
   rintro w' ⟨s0, s1, s2⟩
   go_simp
   with_reducible rfl
  rotate_left
  ·
   simp only [Act.put, List.setIfInBounds_toArray, List.set_cons_zero, List.set_cons_succ, i64_w, i32_w]
   rfl
  refine one_ (i := 7) (N := none) #[true, true, true, true, true, true, true, true, false] rfl rfl (one_of HT_.out kr_) (by decide) (fun K hK => ?_)
  have hs30 : w29.cell? ⟨gb381, 0, none⟩ = some (.slice none 0 0) := (blk_cell BK381.out 0).trans rfl
  have hfs30 := blk_frozen BK381.out 0
  have hns30_1 := NB390_381.out
  have hms30_1 := NB381_390.out
  have hs31 : w29.cell? ⟨gb381, 1, none⟩ = some (.slice none 0 0) := (blk_cell BK381.out 1).trans rfl
  have hfs31 := blk_frozen BK381.out 1
  have hns31_1 := NB390_381.out
  have hms31_1 := NB381_390.out
  have hs32 : w29.cell? ⟨gb381, 2, none⟩ = some (.int .i64 0) := (blk_cell BK381.out 2).trans rfl
  have hfs32 := blk_frozen BK381.out 2
  have hns32_1 := NB390_381.out
  have hms32_1 := NB381_390.out
  refine skip_ (w1 := ?_) (by rfl) rfl ?_ ?_
  rotate_left
  ·
   go_simp
   rfl
  refine hK.out _ _ ⟨((cell_far (p := ⟨gb381, _, none⟩) NB390_381.out _).trans (((cell_far (p := ⟨gb381, _, none⟩) NB390_381.out _).trans (((cell_far (p := ⟨gb381, _, none⟩) NB390_381.out _).trans (hHeld.1)))))), ((cell_far (p := ⟨gb381, _, none⟩) NB390_381.out _).trans (((cell_far (p := ⟨gb381, _, none⟩) NB390_381.out _).trans (((cell_far (p := ⟨gb381, _, none⟩) NB390_381.out _).trans (hHeld.2.1)))))), ((cell_far (p := ⟨gb381, _, none⟩) NB390_381.out _).trans (((cell_far (p := ⟨gb381, _, none⟩) NB390_381.out _).trans (((cell_far (p := ⟨gb381, _, none⟩) NB390_381.out _).trans (hHeld.2.2))))))⟩ (fun hHeld => ?_)
  clear hK K
  refine pure_ (i := 8) (N := some 9) (v := ?_) (a' := ?_) #[true, true, true, true, true, true, true, true, true] rfl rfl (any_of HT_.out kr_) (fun _ _ _ h => h) (Or.inl ⟨by rfl, ?_⟩) ?_ ?_
  rotate_left
  ·
   intro w'
   go_simp
   with_reducible rfl
  rotate_left
  ·
   simp only [Act.put, List.setIfInBounds_toArray, List.set_cons_zero, List.set_cons_succ, i64_w, i32_w]
   rfl
  refine done_ (done_of HT_.out kr_) ?_
  try go_wp2
  refine bodyPost_ret (results_ct rfl _ _ gb381 63 #[.slice Ao24 t382.length co24, .slice Ao27 t385.length co27, .int .i64 t388] (0, 0) _ rfl (by (with_reducible repeat (first | refine blk_drewN ?_ _ | refine blk_drew ?_ | refine blk_alloc ?_ _)); refine blk_put (cs := #[.slice Ao24 t382.length co24, .slice Ao27 t385.length co27, .int .i64 0]) ?_ 2 _ rfl; (with_reducible repeat (first | refine blk_drewN ?_ _ | refine blk_drew ?_ | refine blk_alloc ?_ _)); refine blk_put (cs := #[.slice Ao24 t382.length co24, .slice none 0 0, .int .i64 0]) ?_ 1 _ rfl; (with_reducible repeat (first | refine blk_drewN ?_ _ | refine blk_drew ?_ | refine blk_alloc ?_ _)); refine blk_put (cs := #[.slice none 0 0, .slice none 0 0, .int .i64 0]) ?_ 0 _ rfl; (with_reducible repeat (first | refine blk_drewN ?_ _ | refine blk_drew ?_ | refine blk_alloc ?_ _)); exact BK381.out) Try.underlying63 rfl kr_) rfl ?_
  exact ⟨_, _, ew_, by (with_reducible repeat (first | apply Kd.V_alloc | apply Kd.V_drewN | apply Kd.V_drew)); exact Kd.V_mono (Kd.V_far (p := ⟨gb381, 2, none⟩) (Kd.V_far (p := ⟨gb381, 1, none⟩) (Kd.V_far (p := ⟨gb381, 0, none⟩) (Kd.V_mono HO384.out (fun k_ hk => (⟨hk, hk.2.1⟩ : _ ∧ k_ ≠ gb381))) (fun _ hk => hk.2) (.slice Ao24 t382.length co24)) (fun _ hk => hk.2) (.slice Ao27 t385.length co27)) (fun _ hk => hk.2) (.int .i64 t388)) (fun _ hk => hk.1.1), by (with_reducible repeat (first | apply Kd.V_alloc | apply Kd.V_drewN | apply Kd.V_drew)); exact Kd.V_mono (Kd.V_far (p := ⟨gb381, 2, none⟩) (Kd.V_far (p := ⟨gb381, 1, none⟩) (Kd.V_far (p := ⟨gb381, 0, none⟩) (Kd.V_mono HO387.out (fun k_ hk => (⟨hk, hk.2.1⟩ : _ ∧ k_ ≠ gb381))) (fun _ hk => hk.2) (.slice Ao24 t382.length co24)) (fun _ hk => hk.2) (.slice Ao27 t385.length co27)) (fun _ hk => hk.2) (.int .i64 t388)) (fun _ hk => hk.1.1), by repeat (first | (with_reducible first | exact HB.out | apply below_alloc | apply pw_below_drewN | apply below_drew1 | refine below_set ?_ GE381.out | refine below_set ?_ GE390.out) | exact HB.out)⟩

/-! ### impl_NextDelays: function 31 -/
def impl_NextDelays.f (k : Nat) (l0 : List (List Int)) (l1 : List Int) (a2 : Int) (l3 : List Int) : Option (List Int × Bool) := (impl_delayed.f k l0 l1 a2 l3).bind fun bt392 => (if bt392.2.2.2 = true then ((impl_plan_next.f bt392.1 bt392.2.1 bt392.2.2.1 l3).bind fun t401 => (some (t401, true))) else (some (([] : List Int), false)))
theorem impl_NextDelays.mono : ∀ a0 a1 a2 a3 k, LeO (impl_NextDelays.f k a0 a1 a2 a3) (impl_NextDelays.f (k + 1) a0 a1 a2 a3) := by
 intro a0 a1 a2 a3 k
 unfold impl_NextDelays.f
 repeat' first | (with_reducible first | exact impl_delayed.mono _ _ _ _ _ | exact LeO.refl _ | exact LeO.none _ | refine LeO.ite ?_ ?_ | refine LeO.bind ?_ (fun _ => ?_)) | exact impl_delayed.mono _ _ _ _ _ | exact LeO.none _ | refine LeO.ite ?_ ?_ | refine LeO.bind ?_ (fun _ => ?_)
set_option maxHeartbeats 8000000 in
set_option maxRecDepth 100000 in
theorem impl_NextDelays.calls (k : Nat) (A0 : Option Addr) (c0 : Nat) (l0 : List (List Int)) (A1 : Option Addr) (c1 : Nat) (l1 : List Int) (a2 : Int) (A3 : Option Addr) (c3 : Nat) (l3 : List Int) (r1 : List Int) (r2 : Bool) (w : World) (hr0 : Kd.C (Kd.slice 3 (Kd.int .i64)) w A0 l0.length l0) (hc0 : l0.length ≤ c0) (hr1 : Kd.C (Kd.int .i64) w A1 l1.length l1) (hc1 : l1.length ≤ c1) (hr3 : Kd.C (Kd.int .i64) w A3 l3.length l3) (hc3 : l3.length ≤ c3) (h : impl_NextDelays.f k l0 l1 a2 l3 = some (r1, r2)) :
 Calls Try.prog 31 #[.slice A0 l0.length c0, .slice A1 l1.length c1, .int .i64 a2, .slice A3 l3.length c3] w fun e w' => ∃ v0_ : Value, e = .returned (.tuple #[v0_, .bool r2]) ∧ Kd.R (Kd.int .i64) 3 w' w.heap.size (fun _ => True) v0_ r1 ∧ Below w.heap.size w w' := by
 have hu63 := Try.underlying63
 have HR0 := A_ hr0
 have HC0 := A_ hc0
 clear hr0 hc0
 have HR1 := A_ hr1
 have HC1 := A_ hc1
 clear hr1 hc1
 have HR3 := A_ hr3
 have HC3 := A_ hc3
 clear hr3 hc3
 have HB := A_ (Below.refl w.heap.size w)
 have H : ((impl_delayed.f k l0 l1 a2 l3).bind fun bt392 => (if bt392.2.2.2 = true then ((impl_plan_next.f bt392.1 bt392.2.1 bt392.2.2.1 l3).bind fun t401 => (some (t401, true))) else (some (([] : List Int), false)))) = some (r1, r2) := h
 clear h
 obtain ⟨⟨t392, t395, t398, t399⟩, A50, H⟩ := Option.bind_eq_some_iff.mp H
 try dsimp only at H
 have A5 := A_ A50; clear A50
 by_cases c6 : t399 = true
 ·
  subst c6
  rw [if_pos rfl] at H
  obtain ⟨t401, A70, H⟩ := Option.bind_eq_some_iff.mp H
  try dsimp only at H
  have A7 := A_ A70; clear A70
  simp only [Option.some.injEq, Prod.mk.injEq] at H
  obtain ⟨rfl, rfl⟩ := H
  go_enter Try.func31, Try.ntmps31
  go_wp2_with (first | ((with_reducible refine gate_callee (f := 64) rfl ?_); refine goesL_ (some 17) rfl rfl Try.func64 kr_ rfl #[.slice A0 l0.length c0, .slice A1 l1.length c1, .int .i64 a2, .slice A3 l3.length c3] rfl am_ ?_; (with_reducible refine (impl_delayed.calls k (fun k_ => k_ < w.heap.size) _ _ l0 (fun k_ => k_ < w.heap.size) _ _ l1 a2 _ _ l3 t392 t395 t398 true _ ?side1 ?side2 ?side3 ?side4 A5.out).mono ?_); (case side1 => exact Kd.V_mk HC0.out (Kd.F_below (Kd.C_F (Kd.heap_slice 3 (Kd.heap_int .i64)) HR0.out) bl_)); (case side2 => exact Kd.V_mk HC1.out (Kd.F_below (Kd.C_F (Kd.heap_int .i64) HR1.out) bl_)); (case side3 => exact kC_ HR3.out); (case side4 => exact HC3.out); rintro e w8 ⟨v393, v396, rfl, ho0, ho1, hb⟩; refine ⟨_, rfl, ?_⟩; have n0_ := A_ (Kd.V_lower (Kd.V_mono (ok' := fun k_ => True) ho0 (fun k_ hk_ => trivial)) (below_size bl_)); have n1_ := A_ (Kd.V_lower (Kd.V_mono (ok' := fun k_ => True) ho1 (fun k_ hk_ => trivial)) (below_size bl_)); have n2_ := A_ (below_step bl_ hb); clear HB; have HO394 := n0_; have HO397 := n1_; have HB := n2_; clear n0_ n1_ n2_; (try clear hb); (try clear hb2); (try clear hk); (try clear hi); (try clear ho0); (try clear ho1)) | ((with_reducible refine gate_dst (N := 10) rfl ?_); refine box_event ?hg (N := 10) ?hd (cs := #[.slice none 0 0, .slice none 0 0, .int .i64 0]) (t := 63) ?hr ?_; (case hd => rfl); (case hg => rfl); (case hr => first | (go_simp; done) | (go_simp; rfl)); intro gb400 hg w9 hbox hb; have n0_ := A_ (Kd.V_below (Kd.V_elderB (by (with_reducible repeat (first | apply Kd.V_alloc | apply Kd.V_drewN | apply Kd.V_drew)); exact HO394.out) gb400 (Nat.le_of_eq hg.symm)) hb); have n1_ := A_ (Kd.V_below (Kd.V_elderB (by (with_reducible repeat (first | apply Kd.V_alloc | apply Kd.V_drewN | apply Kd.V_drew)); exact HO397.out) gb400 (Nat.le_of_eq hg.symm)) hb); have n2_ := A_ (below_step bl_ hb); have n3_ := A_ (hbox); have n4_ := A_ ((by rw [hg]; exact (below_size bl_) : w.heap.size ≤ gb400)); have n5_ := A_ ((by rw [hg]; exact (below_size bl_) : w.heap.size ≤ gb400)); clear HO394; clear HO397; clear HB; have HO394 := n0_; have HO397 := n1_; have HB := n2_; have BK400 := n3_; have GW400 := n4_; have GE400 := n5_; clear n0_ n1_ n2_ n3_ n4_ n5_; clear hb hbox hg; obtain ⟨Ao10, co10, eo10⟩ := Kd.V_slice HO394.out; subst eo10; have hcz11_0 : w9.cell? ⟨gb400, 0, none⟩ = some (.slice none 0 0) := (blk_cell BK400.out 0).trans rfl; have hcz11_1 : w9.cell? ⟨gb400, 1, none⟩ = some (.slice none 0 0) := (blk_cell BK400.out 1).trans rfl; have hcz11_2 : w9.cell? ⟨gb400, 2, none⟩ = some (.int .i64 0) := (blk_cell BK400.out 2).trans rfl; have hfz11_0 := blk_frozen BK400.out 0; have hfz11_1 := blk_frozen BK400.out 1; have hfz11_2 := blk_frozen BK400.out 2; obtain ⟨Ao12, co12, eo12⟩ := Kd.V_slice HO397.out; subst eo12) | ((with_reducible refine gate_callee (f := 65) rfl ?_); refine goesL_ (some 24) rfl rfl Try.func65 kr_ rfl #[.agg #[.slice Ao10 t392.length co10, .slice Ao12 t395.length co12, .int .i64 t398], .slice A3 l3.length c3] rfl am_ ?_; (with_reducible refine (impl_plan_next.calls _ _ t392 _ _ t395 t398 _ _ l3 t401 _ ?side1 ?side2 ?side3 ?side4 ?side5 ?side6 A7.out).mono ?_); (case side1 => refine (Kd.V_reads' (e := 23) (base := w.heap.size) (ok := fun k_ => (True ∧ k_ ≠ gb400)) (n := t392.length) (c := co10) ?_).2.2; exact (by (with_reducible repeat (first | apply Kd.V_alloc | apply Kd.V_drewN | apply Kd.V_drew)); exact (Kd.V_mono (Kd.V_far (p := ⟨gb400, 2, none⟩) (Kd.V_far (p := ⟨gb400, 1, none⟩) (Kd.V_far (p := ⟨gb400, 0, none⟩) (Kd.V_mono HO394.out (fun k_ hk => (⟨hk, hk.2⟩ : _ ∧ k_ ≠ gb400))) (fun _ hk => hk.2) (.slice Ao10 t392.length co10)) (fun _ hk => hk.2) (.slice Ao12 t395.length co12)) (fun _ hk => hk.2) (.int .i64 t398)) (fun _ h_ => h_.1)))); (case side2 => exact (Kd.V_reads' HO394.out).2.1); (case side3 => refine (Kd.V_reads' (e := 3) (base := w.heap.size) (ok := fun k_ => (True ∧ k_ ≠ gb400)) (n := t395.length) (c := co12) ?_).2.2; exact (by (with_reducible repeat (first | apply Kd.V_alloc | apply Kd.V_drewN | apply Kd.V_drew)); exact (Kd.V_mono (Kd.V_far (p := ⟨gb400, 2, none⟩) (Kd.V_far (p := ⟨gb400, 1, none⟩) (Kd.V_far (p := ⟨gb400, 0, none⟩) (Kd.V_mono HO397.out (fun k_ hk => (⟨hk, hk.2⟩ : _ ∧ k_ ≠ gb400))) (fun _ hk => hk.2) (.slice Ao10 t392.length co10)) (fun _ hk => hk.2) (.slice Ao12 t395.length co12)) (fun _ hk => hk.2) (.int .i64 t398)) (fun _ h_ => h_.1)))); (case side4 => exact (Kd.V_reads' HO397.out).2.1); (case side5 => exact Kd.C_below HR3.out (bs_ GE400.out)); (case side6 => exact HC3.out); rintro e w13 ⟨v402, rfl, ho0, hb⟩; refine ⟨_, rfl, ?_⟩; have n0_ := A_ (Kd.V_elder' (by (with_reducible repeat (first | apply Kd.V_alloc | apply Kd.V_drewN | apply Kd.V_drew)); exact (Kd.V_mono (Kd.V_far (p := ⟨gb400, 2, none⟩) (Kd.V_far (p := ⟨gb400, 1, none⟩) (Kd.V_far (p := ⟨gb400, 0, none⟩) (Kd.V_mono HO394.out (fun k_ hk => (⟨hk, hk.2⟩ : _ ∧ k_ ≠ gb400))) (fun _ hk => hk.2) (.slice Ao10 t392.length co10)) (fun _ hk => hk.2) (.slice Ao12 t395.length co12)) (fun _ hk => hk.2) (.int .i64 t398)) (fun _ h_ => h_.1))) (Kd.R_base ho0) hb); have n1_ := A_ (Kd.V_elder' (by (with_reducible repeat (first | apply Kd.V_alloc | apply Kd.V_drewN | apply Kd.V_drew)); exact (Kd.V_mono (Kd.V_far (p := ⟨gb400, 2, none⟩) (Kd.V_far (p := ⟨gb400, 1, none⟩) (Kd.V_far (p := ⟨gb400, 0, none⟩) (Kd.V_mono HO397.out (fun k_ hk => (⟨hk, hk.2⟩ : _ ∧ k_ ≠ gb400))) (fun _ hk => hk.2) (.slice Ao10 t392.length co10)) (fun _ hk => hk.2) (.slice Ao12 t395.length co12)) (fun _ hk => hk.2) (.int .i64 t398)) (fun _ h_ => h_.1))) (Kd.R_base ho0) hb); have n2_ := A_ (Kd.R_lower ho0 (below_size (bs_ GE400.out))); have n3_ := A_ (blk_below (g := gb400) (o := .cells #[.slice Ao10 t392.length co10, .slice Ao12 t395.length co12, .int .i64 t398] 63 (0, 0)) (by (with_reducible repeat (first | refine blk_drewN ?_ _ | refine blk_drew ?_ | refine blk_alloc ?_ _)); refine blk_put (cs := #[.slice Ao10 t392.length co10, .slice Ao12 t395.length co12, .int .i64 0]) ?_ 2 _ rfl; (with_reducible repeat (first | refine blk_drewN ?_ _ | refine blk_drew ?_ | refine blk_alloc ?_ _)); refine blk_put (cs := #[.slice Ao10 t392.length co10, .slice none 0 0, .int .i64 0]) ?_ 1 _ rfl; (with_reducible repeat (first | refine blk_drewN ?_ _ | refine blk_drew ?_ | refine blk_alloc ?_ _)); refine blk_put (cs := #[.slice none 0 0, .slice none 0 0, .int .i64 0]) ?_ 0 _ rfl; (with_reducible repeat (first | refine blk_drewN ?_ _ | refine blk_drew ?_ | refine blk_alloc ?_ _)); exact BK400.out) hb); have n4_ := A_ (below_step (bs_ GE400.out) hb); clear HO394; clear HO397; clear BK400; clear HB; have HO394 := n0_; have HO397 := n1_; have HO403 := n2_; have BK400 := n3_; have HB := n4_; clear n0_ n1_ n2_ n3_ n4_; (try clear hb); (try clear hb2); (try clear hk); (try clear hi); (try clear ho0)))
  go_ret2
  exact ⟨_, ew_, kR_ HO403.out, bs_ GE400.out⟩
 ·
  replace c6 := Bool.eq_false_iff.mpr c6
  subst c6
  rw [if_neg (show ¬ (false = true) by decide)] at H
  simp only [Option.some.injEq, Prod.mk.injEq] at H
  obtain ⟨rfl, rfl⟩ := H
  go_enter Try.func31, Try.ntmps31
  go_wp2_with (first | ((with_reducible refine gate_callee (f := 64) rfl ?_); refine goesL_ (some 17) rfl rfl Try.func64 kr_ rfl #[.slice A0 l0.length c0, .slice A1 l1.length c1, .int .i64 a2, .slice A3 l3.length c3] rfl am_ ?_; (with_reducible refine (impl_delayed.calls k (fun k_ => k_ < w.heap.size) _ _ l0 (fun k_ => k_ < w.heap.size) _ _ l1 a2 _ _ l3 t392 t395 t398 false _ ?side1 ?side2 ?side3 ?side4 A5.out).mono ?_); (case side1 => exact Kd.V_mk HC0.out (Kd.F_below (Kd.C_F (Kd.heap_slice 3 (Kd.heap_int .i64)) HR0.out) bl_)); (case side2 => exact Kd.V_mk HC1.out (Kd.F_below (Kd.C_F (Kd.heap_int .i64) HR1.out) bl_)); (case side3 => exact kC_ HR3.out); (case side4 => exact HC3.out); rintro e w14 ⟨v393, v396, rfl, ho0, ho1, hb⟩; refine ⟨_, rfl, ?_⟩; have n0_ := A_ (Kd.V_lower (Kd.V_mono (ok' := fun k_ => True) ho0 (fun k_ hk_ => trivial)) (below_size bl_)); have n1_ := A_ (Kd.V_lower (Kd.V_mono (ok' := fun k_ => True) ho1 (fun k_ hk_ => trivial)) (below_size bl_)); have n2_ := A_ (below_step bl_ hb); clear HB; have HO394 := n0_; have HO397 := n1_; have HB := n2_; clear n0_ n1_ n2_; (try clear hb); (try clear hb2); (try clear hk); (try clear hi); (try clear ho0); (try clear ho1)) | ((with_reducible refine gate_dst (N := 10) rfl ?_); refine box_event ?hg (N := 10) ?hd (cs := #[.slice none 0 0, .slice none 0 0, .int .i64 0]) (t := 63) ?hr ?_; (case hd => rfl); (case hg => rfl); (case hr => first | (go_simp; done) | (go_simp; rfl)); intro gb400 hg w15 hbox hb; have n0_ := A_ (Kd.V_below (Kd.V_elderB (by (with_reducible repeat (first | apply Kd.V_alloc | apply Kd.V_drewN | apply Kd.V_drew)); exact HO394.out) gb400 (Nat.le_of_eq hg.symm)) hb); have n1_ := A_ (Kd.V_below (Kd.V_elderB (by (with_reducible repeat (first | apply Kd.V_alloc | apply Kd.V_drewN | apply Kd.V_drew)); exact HO397.out) gb400 (Nat.le_of_eq hg.symm)) hb); have n2_ := A_ (below_step bl_ hb); have n3_ := A_ (hbox); have n4_ := A_ ((by rw [hg]; exact (below_size bl_) : w.heap.size ≤ gb400)); have n5_ := A_ ((by rw [hg]; exact (below_size bl_) : w.heap.size ≤ gb400)); clear HO394; clear HO397; clear HB; have HO394 := n0_; have HO397 := n1_; have HB := n2_; have BK400 := n3_; have GW400 := n4_; have GE400 := n5_; clear n0_ n1_ n2_ n3_ n4_ n5_; clear hb hbox hg; obtain ⟨Ao16, co16, eo16⟩ := Kd.V_slice HO394.out; subst eo16; have hcz17_0 : w15.cell? ⟨gb400, 0, none⟩ = some (.slice none 0 0) := (blk_cell BK400.out 0).trans rfl; have hcz17_1 : w15.cell? ⟨gb400, 1, none⟩ = some (.slice none 0 0) := (blk_cell BK400.out 1).trans rfl; have hcz17_2 : w15.cell? ⟨gb400, 2, none⟩ = some (.int .i64 0) := (blk_cell BK400.out 2).trans rfl; have hfz17_0 := blk_frozen BK400.out 0; have hfz17_1 := blk_frozen BK400.out 1; have hfz17_2 := blk_frozen BK400.out 2; obtain ⟨Ao18, co18, eo18⟩ := Kd.V_slice HO397.out; subst eo18))
  go_ret2
  exact ⟨_, ew_, by first | exact Kd.R_nil _ _ _ _ _ | exact Kd.N_nil _ _ _ _ _ | exact Kd.V_nil _ _ _ _ _ | exact Kd.Q_nil _ _ _ _ _ | exact Kd.S_nil _ _ _ _ _, bs_ GE400.out⟩

-- NOT PRINTED: function 7 (laws_FnExactNextDelays)

/-! ### spec_l1Put: function 72 -/
def spec_l1Put.l0 : Nat → List Int → Int → Int → Option (List Int)
  | 0, _, _, _ => none
  | k + 1, x0, x1, x5 => if x5 < (x0.length : Int) then (if 0 ≤ x5 then (if (rd x0 x5) < x1 then (spec_l1Put.l0 k x0 x1 (wrap64 (x5 + 1))) else (if (rd x0 x5) = x1 then (some x0) else ((some (([] : List Int) : List Int)).bind fun y632 => (if x5 ≤ (x0.length : Int) then ((some (x0.take (x5 : Int).toNat : List Int)).bind fun y635 => (if y632.length + y635.length < 17592186044416 then ((some (y632 ++ y635 : List Int)).bind fun y640 => (if y640.length < 17592186044416 then ((some (y640 ++ [x1] : List Int)).bind fun y643 => ((some (x0.drop (x5 : Int).toNat : List Int)).bind fun y646 => (if y643.length + y646.length < 17592186044416 then (some (y643 ++ y646)) else (none)))) else (none))) else (none))) else (none))))) else (none)) else ((some (([] : List Int) : List Int)).bind fun y654 => (if 0 ≤ x5 then (if x5 ≤ (x0.length : Int) then ((some (x0.take (x5 : Int).toNat : List Int)).bind fun y657 => (if y654.length + y657.length < 17592186044416 then ((some (y654 ++ y657 : List Int)).bind fun y662 => (if y662.length < 17592186044416 then ((some (y662 ++ [x1] : List Int)).bind fun y665 => ((some (x0.drop (x5 : Int).toNat : List Int)).bind fun y668 => (if y665.length + y668.length < 17592186044416 then (some (y665 ++ y668)) else (none)))) else (none))) else (none))) else (none)) else (none)))
def spec_l1Put.f (k : Nat) (l0 : List Int) (a1 : Int) : Option (List Int) := spec_l1Put.l0 k l0 a1 0
theorem spec_l1Put.mono_l : ∀ k, (∀ y0 y1 y2, LeO (spec_l1Put.l0 k y0 y1 y2) (spec_l1Put.l0 (k + 1) y0 y1 y2))
  | 0 => fun _ _ _ r h => by simp [spec_l1Put.l0] at h
  | k + 1 => by
    have ih0 := spec_l1Put.mono_l k
    · intro y0 y1 y2
      unfold spec_l1Put.l0
      repeat' first | (with_reducible first | exact ih0 _ _ _ | exact LeO.refl _ | exact LeO.none _ | refine LeO.ite ?_ ?_ | refine LeO.bind ?_ (fun _ => ?_)) | exact ih0 _ _ _ | exact LeO.none _ | refine LeO.ite ?_ ?_ | refine LeO.bind ?_ (fun _ => ?_)
theorem spec_l1Put.mono : ∀ a0 a1 k, LeO (spec_l1Put.f k a0 a1) (spec_l1Put.f (k + 1) a0 a1) := by
 intro a0 a1 k
 have ih0 := spec_l1Put.mono_l k
 unfold spec_l1Put.f
 repeat' first | (with_reducible first | exact ih0 _ _ _ | exact LeO.refl _ | exact LeO.none _ | refine LeO.ite ?_ ?_ | refine LeO.bind ?_ (fun _ => ?_)) | exact ih0 _ _ _ | exact LeO.none _ | refine LeO.ite ?_ ?_ | refine LeO.bind ?_ (fun _ => ?_)
set_option maxHeartbeats 8000000 in
set_option maxRecDepth 100000 in
theorem spec_l1Put.calls (k : Nat) (P0_ : Nat → Prop) (A0 : Option Addr) (c0 : Nat) (l0 : List Int) (a1 : Int) (r : List Int) (w : World) (hs0 : Kd.V (Kd.int .i64) 3 w w.heap.size (fun k_ => P0_ k_) (.slice A0 l0.length c0) l0) (h : spec_l1Put.f k l0 a1 = some r) :
 Calls Try.prog 72 #[.slice A0 l0.length c0, .int .i64 a1] w fun e w' => ∃ v0_ : Value, e = .returned (v0_) ∧ Kd.V (Kd.int .i64) 3 w' w.heap.size (fun k_ => (P0_ k_ ∨ w.heap.size ≤ k_)) v0_ r ∧ Below w.heap.size w w' := by
 have HO0 := A_ (show Kd.V (Kd.int .i64) 3 w w.heap.size (fun k_ => (P0_ k_ ∨ w.heap.size ≤ k_)) (.slice A0 l0.length c0) l0 from Kd.V_mono hs0 (fun k_ hk => .inl hk))
 have HB := A_ (Below.refl w.heap.size w)
 have H : (spec_l1Put.l0 k l0 a1 0) = some r := h
 clear h
 have H' := A_ H; clear H
 go_enter Try.func72, Try.ntmps72
 go_wp2
 go_loopg [5] k (fun kq v5 w' => ∃ (x5_1 : Int), v5 = .int .i64 x5_1 ∧ Aside0 (spec_l1Put.l0 kq l0 a1 x5_1 = some r) ∧ Aside0 (kq ≤ k) ∧ Aside0 (Kd.V (Kd.int .i64) 3 w' w.heap.size (fun k_ => (P0_ k_ ∨ w.heap.size ≤ k_)) (.slice A0 l0.length c0) l0) ∧ Aside0 (Below w.heap.size w w'))
 case atStart => exact ⟨(0), es_, H', ⟨Nat.le_refl _⟩, ⟨by (with_reducible repeat (first | apply Kd.V_alloc | apply Kd.V_drewN | apply Kd.V_drew)); exact HO0.out⟩, ⟨bl_⟩⟩
 case round =>
  clear H'
  try clear p2
  obtain ⟨x5_1, rfl, HA, HK1, HO_0, HB⟩ := hrel
  cases gk with
  | zero => exact absurd HA.out (by simp [spec_l1Put.l0])
  | succ k1 =>
   have H := HA.out
   clear HA
   simp only [spec_l1Put.l0] at H
   by_cases c3 : x5_1 < (l0.length : Int)
   ·
    rw [if_pos c3] at H
    have c3b0 := decide_eq_true c3
    clear c3
    by_cases c4 : 0 ≤ x5_1
    ·
     rw [if_pos c4] at H
     have c4b0 := decide_eq_true c4
     clear c4
     by_cases c5 : (rd l0 x5_1) < a1
     ·
      rw [if_pos c5] at H
      have c5b0 := decide_eq_true c5
      clear c5
      have H' := A_ H; clear H
      have p630 : 0 ≤ (x5_1 : Int) := od_
      have q630 : x5_1 < (l0.length : Int) := od_
      obtain ⟨ad630, e630, hx630_0⟩ := Kd.at_int (Kd.V_reads' HO_0.out).2.2 x5_1 p630 q630
      cases e630
      replace p630 := eq_true p630
      replace q630 := eq_true q630
      go_wp2
      go_roundg k1
      case measure => have := HK1.out; omega
      case rel => exact ⟨(wrap64 (x5_1 + 1)), es_, H', ⟨by have := HK1.out; omega⟩, ⟨by (with_reducible repeat (first | apply Kd.V_alloc | apply Kd.V_drewN | apply Kd.V_drew)); exact HO_0.out⟩, ⟨bl_⟩⟩
     ·
      rw [if_neg c5] at H
      have c5b0 := decide_eq_false c5
      clear c5
      by_cases c6 : (rd l0 x5_1) = a1
      ·
       rw [if_pos c6] at H
       have c6b0 : ((rd l0 x5_1) == a1) = true := beq_iff_eq.mpr c6
       have c6b1 : ((rd l0 x5_1) != a1) = false := bne_eq_false_iff_eq.mpr c6
       clear c6
       obtain rfl := Option.some.inj H
       have p630 : 0 ≤ (x5_1 : Int) := od_
       have q630 : x5_1 < (l0.length : Int) := od_
       obtain ⟨ad630, e630, hx630_0⟩ := Kd.at_int (Kd.V_reads' HO_0.out).2.2 x5_1 p630 q630
       cases e630
       replace p630 := eq_true p630
       replace q630 := eq_true q630
       have p631 : 0 ≤ (x5_1 : Int) := od_
       have q631 : x5_1 < (l0.length : Int) := od_
       obtain ⟨ad631, e631, hx631_0⟩ := Kd.at_int (Kd.V_reads' HO_0.out).2.2 x5_1 p631 q631
       obtain rfl : ad630 = ad631 := (by injection e631)
       replace p631 := eq_true p631
       replace q631 := eq_true q631
       go_wp2
       go_ret
       exact ⟨_, ew_, by (with_reducible repeat (first | apply Kd.V_alloc | apply Kd.V_drewN | apply Kd.V_drew)); exact HO_0.out, bl_⟩
      ·
       rw [if_neg c6] at H
       have c6b0 : ((rd l0 x5_1) == a1) = false := beq_eq_false_iff_ne.mpr c6
       have c6b1 : ((rd l0 x5_1) != a1) = true := bne_iff_ne.mpr c6
       obtain ⟨y632, hy632⟩ : ∃ y_ : List Int, y_ = (([] : List Int)) := ⟨_, rfl⟩
       replace H : (if x5_1 ≤ (l0.length : Int) then ((some (l0.take (x5_1 : Int).toNat : List Int)).bind fun y635 => (if y632.length + y635.length < 17592186044416 then ((some (y632 ++ y635 : List Int)).bind fun y640 => (if y640.length < 17592186044416 then ((some (y640 ++ [a1] : List Int)).bind fun y643 => ((some (l0.drop (x5_1 : Int).toNat : List Int)).bind fun y646 => (if y643.length + y646.length < 17592186044416 then (some (y643 ++ y646)) else (none)))) else (none))) else (none))) else (none)) = some r := by first | (rw [hy632]; with_reducible exact H) | (have H2_ := (Option.bind_some _ _).symm.trans H; rw [hy632]; with_reducible exact H2_) | (have H2_ := (Option.bind_some _ _).symm.trans H; with_reducible exact H2_) | with_reducible exact H | (rw [hy632]; exact H) | exact H
       have Ny632 := A_ hy632
       clear hy632
       have c7b0 := eq_true (od_ : 0 ≤ x5_1)
       by_cases c8 : x5_1 ≤ (l0.length : Int)
       ·
        rw [if_pos c8] at H
        have c8b0 := eq_true c8
        have c8b1 : decide (x5_1 ≤ (l0.length : Int)) = true := decide_eq_true c8
        clear c8
        obtain ⟨y635, hy635⟩ : ∃ y_ : List Int, y_ = (l0.take (x5_1 : Int).toNat) := ⟨_, rfl⟩
        replace H : (if y632.length + y635.length < 17592186044416 then ((some (y632 ++ y635 : List Int)).bind fun y640 => (if y640.length < 17592186044416 then ((some (y640 ++ [a1] : List Int)).bind fun y643 => ((some (l0.drop (x5_1 : Int).toNat : List Int)).bind fun y646 => (if y643.length + y646.length < 17592186044416 then (some (y643 ++ y646)) else (none)))) else (none))) else (none)) = some r := by first | (rw [hy635]; with_reducible exact H) | (have H2_ := (Option.bind_some _ _).symm.trans H; rw [hy635]; with_reducible exact H2_) | (have H2_ := (Option.bind_some _ _).symm.trans H; with_reducible exact H2_) | with_reducible exact H | (rw [hy635]; exact H) | exact H
        have Ny635 := A_ hy635
        clear hy635
        by_cases c9 : y632.length + y635.length < 17592186044416
        ·
         rw [if_pos c9] at H
         have LMc9 := A_ c9
         clear c9
         obtain ⟨y640, hy640⟩ : ∃ y_ : List Int, y_ = (y632 ++ y635) := ⟨_, rfl⟩
         replace H : (if y640.length < 17592186044416 then ((some (y640 ++ [a1] : List Int)).bind fun y643 => ((some (l0.drop (x5_1 : Int).toNat : List Int)).bind fun y646 => (if y643.length + y646.length < 17592186044416 then (some (y643 ++ y646)) else (none)))) else (none)) = some r := by first | (rw [hy640]; with_reducible exact H) | (have H2_ := (Option.bind_some _ _).symm.trans H; rw [hy640]; with_reducible exact H2_) | (have H2_ := (Option.bind_some _ _).symm.trans H; with_reducible exact H2_) | with_reducible exact H | (rw [hy640]; exact H) | exact H
         have Ny640 := A_ hy640
         clear hy640
         by_cases c10 : y640.length < 17592186044416
         ·
          rw [if_pos c10] at H
          have LMc10 := A_ c10
          clear c10
          obtain ⟨y643, hy643⟩ : ∃ y_ : List Int, y_ = (y640 ++ [a1]) := ⟨_, rfl⟩
          replace H : ((some (l0.drop (x5_1 : Int).toNat : List Int)).bind fun y646 => (if y643.length + y646.length < 17592186044416 then (some (y643 ++ y646)) else (none))) = some r := by first | (rw [hy643]; with_reducible exact H) | (have H2_ := (Option.bind_some _ _).symm.trans H; rw [hy643]; with_reducible exact H2_) | (have H2_ := (Option.bind_some _ _).symm.trans H; with_reducible exact H2_) | with_reducible exact H | (rw [hy643]; exact H) | exact H
          have Ny643 := A_ hy643
          clear hy643
          have c11b0 := eq_true (od_ : 0 ≤ x5_1)
          have c12b0 := eq_true (od_ : x5_1 ≤ (l0.length : Int))
          obtain ⟨y646, hy646⟩ : ∃ y_ : List Int, y_ = (l0.drop (x5_1 : Int).toNat) := ⟨_, rfl⟩
          replace H : (if y643.length + y646.length < 17592186044416 then (some (y643 ++ y646)) else (none)) = some r := by first | (rw [hy646]; with_reducible exact H) | (have H2_ := (Option.bind_some _ _).symm.trans H; rw [hy646]; with_reducible exact H2_) | (have H2_ := (Option.bind_some _ _).symm.trans H; with_reducible exact H2_) | with_reducible exact H | (rw [hy646]; exact H) | exact H
          have Ny646 := A_ hy646
          clear hy646
          by_cases c13 : y643.length + y646.length < 17592186044416
          ·
           rw [if_pos c13] at H
           have LMc13 := A_ c13
           clear c13
           obtain ⟨y651, hy651⟩ : ∃ y_ : List Int, y_ = (y643 ++ y646) := ⟨_, rfl⟩
           replace H : (some y651) = some r := by first | (rw [hy651]; with_reducible exact H) | (have H2_ := (Option.bind_some _ _).symm.trans H; rw [hy651]; with_reducible exact H2_) | (have H2_ := (Option.bind_some _ _).symm.trans H; with_reducible exact H2_) | with_reducible exact H | (rw [hy651]; exact H) | exact H
           have Ny651 := A_ hy651
           clear hy651
           obtain rfl := Option.some.inj H
           have p630 : 0 ≤ (x5_1 : Int) := od_
           have q630 : x5_1 < (l0.length : Int) := od_
           obtain ⟨ad630, e630, hx630_0⟩ := Kd.at_int (Kd.V_reads' HO_0.out).2.2 x5_1 p630 q630
           cases e630
           replace p630 := eq_true p630
           replace q630 := eq_true q630
           have p631 : 0 ≤ (x5_1 : Int) := od_
           have q631 : x5_1 < (l0.length : Int) := od_
           obtain ⟨ad631, e631, hx631_0⟩ := Kd.at_int (Kd.V_reads' HO_0.out).2.2 x5_1 p631 q631
           obtain rfl : ad630 = ad631 := (by injection e631)
           replace p631 := eq_true p631
           replace q631 := eq_true q631
           go_wp2_with (first | ((with_reducible refine gate_dst (N := 34) rfl ?_); refine Kd.R_lit (Kd.int .i64) _ 3 ?hg (N := 34) ?hd (xs := ([] : List Int)) (inner := []) (ok := fun _ => True) (okp := fun _ => True) ?hr ?hp (fun _ hk => hk) trivial (Below.refl _ _) (Nat.le_refl _) (by simp) ?_; (case hd => rfl); (case hg => rfl); (case hr => first | (go_simp; done) | (go_simp; rfl)); (case hp => exact (Reps.none _ _)); intro v633 w14 ho15 hb hg_ hnew_; clear hg_ hnew_; (first | rw [← Ny632.out] at ho15 | (simp only [Int.reduceToNat] at ho15; rw [← Ny632.out] at ho15)); have n0_ := A_ (Kd.V_elder' (by (with_reducible repeat (first | apply Kd.V_alloc | apply Kd.V_drewN | apply Kd.V_drew)); exact HO_0.out) (Kd.R_base ho15) hb); have n1_ := A_ (Kd.R_lower (Kd.R_newM (M := fun k_ => (w.heap.size ≤ k_)) ho15 (below_size bl_) (fun k_ h_ => h_)) (below_size bl_)); have n2_ := A_ (below_step bl_ hb); clear HO_0; clear HB; have HO_0 := n0_; have HO634 := n1_; have HB := n2_; clear n0_ n1_ n2_; clear hb ho15; have q16 : (x5_1 : Int) ≤ ((l0.length : Int) : Int) := od_; obtain ⟨i016, hi016, _, hsz16, _⟩ := info_parts info3; have hroom16 : l0.length ≤ c0 := (Kd.V_reads' HO_0.out).2.1; have hC16 : Kd.F (Kd.int .i64) _ _ (some ad630) l0.length l0 := (Kd.V_at (base := w.heap.size) HO_0.out).2.2; have hcut16 := cut_to (P := Try.prog) 23 3 .i64 Try.underlying23 hi016 (some ad630) l0.length c0 x5_1 (od_) q16 hroom16; have hr16 := Kd.F_take (m := (x5_1 : Int).toNat) hC16 (by omega); have hy16 : y635.length = (x5_1 : Int).toNat := (by rw [Ny635.out, List.length_take]; omega); rw [← Ny635.out] at hr16; rw [← hy16] at hcut16; have HO639 := A_ (show Kd.V (Kd.int .i64) 3 _ w.heap.size _ (.slice (some ad630) y635.length c0) y635 from Kd.V_mk (by omega) hr16); have HC639 := A_ (show y635.length ≤ c0 from by omega); clear hr16 hC16 hroom16 hi016 hsz16; have KY16 := A_ hy16; clear hy16; replace q16 := eq_true q16) | ((with_reducible refine gate_builtin (b := .append) (xs := #[.tmp 34, .tmp 37]) rfl ?_); at_builtin; refine Kd.R_append_rows (Kd.int .i64) (w0 := w) w.heap.size rfl (.tmp 34) (.tmp 37) 23 3 (.int .i64 0) 8 rfl Try.underlying23 info3 rfl (by decide) (by omega) v633 y632 y635 _ _ _ (fun k_ => (w.heap.size ≤ k_)) (fun _ => False) rfl rfl ?aO ?aR (fun _ _ h => h) (fun _ h => h.elim) ?aF ?aB ?aS ?aL ?_; (case aR => repeat (first | exact (Kd.V_reads' HO639.out).2.2 | (with_reducible refine Kd.C_alloc ?_ _) | (with_reducible refine Kd.C_drewN ?_ _) | (with_reducible refine Kd.C_drew ?_))); (case aB => exact bl_); (case aF => exact (fun k_ hk => (Nat.le_trans (below_size bl_) hk))); (case aO => exact (by (with_reducible repeat (first | apply Kd.R_alloc | apply Kd.R_drewN | apply Kd.R_drew)); exact Kd.R_mono HO634.out (fun _ hk => hk.1))); (case aS => exact (below_size bl_)); (case aL => have := LMc9.out; omega); intro v641 w17 ho hb hg hat; rw [← Ny640.out] at ho; have n0_ := A_ (Kd.V_afterv (ok := (fun k_ => (P0_ k_ ∨ w.heap.size ≤ k_))) (by (with_reducible repeat (first | apply Kd.V_alloc | apply Kd.V_drewN | apply Kd.V_drew)); exact HO_0.out) hg hat); have n1_ := A_ (Kd.V_afterv (ok := (fun k_ => (P0_ k_ ∨ w.heap.size ≤ k_))) (by (with_reducible repeat (first | apply Kd.V_alloc | apply Kd.V_drewN | apply Kd.V_drew)); exact HO639.out) hg hat); have n2_ := A_ (hb); have n3_ := A_ (ho); clear HO_0; clear HO639; clear HB; clear HO634; have HO_0 := n0_; have HO639 := n1_; have HB := n2_; have HO642 := n3_; clear n0_ n1_ n2_ n3_; clear ho hb hg hat) | ((with_reducible refine gate_builtin (b := .append) (xs := #[.tmp 39, .tmp 41]) rfl ?_); at_builtin; refine Kd.R_append (Kd.int .i64) (w0 := w) w.heap.size rfl (.tmp 39) (.tmp 41) 23 3 (.int .i64 0) 8 rfl Try.underlying23 info3 rfl (by decide) (by omega) v641 y640 a1 [.int .i64 a1] (fun k_ => (w.heap.size ≤ k_)) (fun _ => False) rfl rfl ?aP (fun _ hk => hk.elim) ?aF ?aO ?aB ?aS ?aL ?_; (case aP => exact rfl); (case aB => exact bl_); (case aF => exact (fun k_ hk => (Nat.le_trans (below_size bl_) hk))); (case aO => exact (kR_ HO642.out)); (case aS => exact (below_size bl_)); (case aL => have := LMc10.out; omega); intro v644 w18 ho hb hg hat; rw [← Ny643.out] at ho; have n0_ := A_ (Kd.V_afterv (ok := (fun k_ => (P0_ k_ ∨ w.heap.size ≤ k_))) (by (with_reducible repeat (first | apply Kd.V_alloc | apply Kd.V_drewN | apply Kd.V_drew)); exact HO_0.out) hg hat); have n1_ := A_ (Kd.V_afterv (ok := (fun k_ => (P0_ k_ ∨ w.heap.size ≤ k_))) (by (with_reducible repeat (first | apply Kd.V_alloc | apply Kd.V_drewN | apply Kd.V_drew)); exact HO639.out) hg hat); have n2_ := A_ (hb); have n3_ := A_ (ho); clear HO_0; clear HO639; clear HB; clear HO642; have HO_0 := n0_; have HO639 := n1_; have HB := n2_; have HO645 := n3_; clear n0_ n1_ n2_ n3_; clear ho hb hg hat; have q19 : (x5_1 : Int) ≤ ((l0.length : Int) : Int) := od_; obtain ⟨i019, hi019, _, hsz19, _⟩ := info_parts info3; have hroom19 : l0.length ≤ c0 := (Kd.V_reads' HO_0.out).2.1; have hC19 : Kd.F (Kd.int .i64) _ _ (some ad630) l0.length l0 := (Kd.V_at (base := w.heap.size) HO_0.out).2.2; have q019 : (0 : Int) ≤ (x5_1 : Int) := od_; have hcut19 := cut_from (P := Try.prog) 23 3 .i64 Try.underlying23 hi019 1 hsz19 (some ad630) l0.length c0 x5_1 q019 q19; have hr19 := Kd.F_cut (m := (x5_1 : Int).toNat) (c := c0) hC19 (by omega) hroom19; obtain ⟨A19, hA19⟩ : ∃ A1, A1 = (if c0 = (x5_1 : Int).toNat then (some ad630) else ((some ad630) : Option Addr).map (·.add ((x5_1 : Int).toNat * 1))) := ⟨_, rfl⟩; obtain ⟨c19, hc19⟩ : ∃ c1, c1 = c0 - (x5_1 : Int).toNat := ⟨_, rfl⟩; have hy19 : y646.length = l0.length - (x5_1 : Int).toNat := (by rw [Ny646.out, List.length_drop] <;> omega); rw [show (l0).drop (x5_1 : Int).toNat = y646 from Ny646.out.symm] at hr19; replace hr19 : Kd.F (Kd.int .i64) _ _ A19 y646.length y646 := (by rw [hA19]; exact hr19); rw [← hy19, ← hA19, ← hc19] at hcut19; have HO650 := A_ (show Kd.V (Kd.int .i64) 3 _ w.heap.size _ (.slice A19 y646.length c19) y646 from Kd.V_mk (by rw [hy19, hc19]; exact Nat.sub_le_sub_right hroom19 _) hr19); have HC650 := A_ (show y646.length ≤ c19 from by rw [hy19, hc19]; exact Nat.sub_le_sub_right hroom19 _); clear hr19 hC19 hroom19 hi019 hsz19 hc19; have KY19 := A_ hy19; have KA19 := A_ hA19; clear hy19 hA19; replace q19 := eq_true q19) | ((with_reducible refine gate_builtin (b := .append) (xs := #[.tmp 43, .tmp 46]) rfl ?_); at_builtin; refine Kd.R_append_rows (Kd.int .i64) (w0 := w) w.heap.size rfl (.tmp 43) (.tmp 46) 23 3 (.int .i64 0) 8 rfl Try.underlying23 info3 rfl (by decide) (by omega) v644 y643 y646 _ _ _ (fun k_ => (w.heap.size ≤ k_)) (fun _ => False) rfl rfl ?aO ?aR (fun _ _ h => h) (fun _ h => h.elim) ?aF ?aB ?aS ?aL ?_; (case aR => repeat (first | exact (Kd.V_reads' HO650.out).2.2 | (with_reducible refine Kd.C_alloc ?_ _) | (with_reducible refine Kd.C_drewN ?_ _) | (with_reducible refine Kd.C_drew ?_))); (case aB => exact bl_); (case aF => exact (fun k_ hk => (Nat.le_trans (below_size bl_) hk))); (case aO => exact (kR_ HO645.out)); (case aS => exact (below_size bl_)); (case aL => have := LMc13.out; omega); intro v652 w20 ho hb hg hat; rw [← Ny651.out] at ho; have n0_ := A_ (Kd.V_afterv (ok := (fun k_ => (P0_ k_ ∨ w.heap.size ≤ k_))) (by (with_reducible repeat (first | apply Kd.V_alloc | apply Kd.V_drewN | apply Kd.V_drew)); exact HO_0.out) hg hat); have n1_ := A_ (Kd.V_afterv (ok := (fun k_ => (P0_ k_ ∨ w.heap.size ≤ k_))) (by (with_reducible repeat (first | apply Kd.V_alloc | apply Kd.V_drewN | apply Kd.V_drew)); exact HO639.out) hg hat); have n2_ := A_ (Kd.V_afterv (ok := (fun k_ => (P0_ k_ ∨ w.heap.size ≤ k_))) (by (with_reducible repeat (first | apply Kd.V_alloc | apply Kd.V_drewN | apply Kd.V_drew)); exact HO650.out) hg hat); have n3_ := A_ (hb); have n4_ := A_ (ho); clear HO_0; clear HO639; clear HO650; clear HB; clear HO645; have HO_0 := n0_; have HO639 := n1_; have HO650 := n2_; have HB := n3_; have HO653 := n4_; clear n0_ n1_ n2_ n3_ n4_; clear ho hb hg hat))
           go_ret
           exact ⟨_, ew_, Kd.V_mono (Kd.R_V (kR_ HO653.out)) (fun k_ hk => by first | exact ⟨(.inr (hk.1)), hk.2⟩ | exact (.inr (hk))), bl_⟩
          ·
           rw [if_neg c13] at H; cases H
         ·
          rw [if_neg c10] at H; cases H
        ·
         rw [if_neg c9] at H; cases H
       ·
        rw [if_neg c8] at H; cases H
    ·
     rw [if_neg c4] at H; cases H
   ·
    rw [if_neg c3] at H
    have c3b0 := decide_eq_false c3
    clear c3
    obtain ⟨y654, hy654⟩ : ∃ y_ : List Int, y_ = (([] : List Int)) := ⟨_, rfl⟩
    replace H : (if 0 ≤ x5_1 then (if x5_1 ≤ (l0.length : Int) then ((some (l0.take (x5_1 : Int).toNat : List Int)).bind fun y657 => (if y654.length + y657.length < 17592186044416 then ((some (y654 ++ y657 : List Int)).bind fun y662 => (if y662.length < 17592186044416 then ((some (y662 ++ [a1] : List Int)).bind fun y665 => ((some (l0.drop (x5_1 : Int).toNat : List Int)).bind fun y668 => (if y665.length + y668.length < 17592186044416 then (some (y665 ++ y668)) else (none)))) else (none))) else (none))) else (none)) else (none)) = some r := by first | (rw [hy654]; with_reducible exact H) | (have H2_ := (Option.bind_some _ _).symm.trans H; rw [hy654]; with_reducible exact H2_) | (have H2_ := (Option.bind_some _ _).symm.trans H; with_reducible exact H2_) | with_reducible exact H | (rw [hy654]; exact H) | exact H
    have Ny654 := A_ hy654
    clear hy654
    by_cases c21 : 0 ≤ x5_1
    ·
     rw [if_pos c21] at H
     have c21b0 := eq_true c21
     have c21b1 : decide (0 ≤ x5_1) = true := decide_eq_true c21
     clear c21
     by_cases c22 : x5_1 ≤ (l0.length : Int)
     ·
      rw [if_pos c22] at H
      have c22b0 := eq_true c22
      have c22b1 : decide (x5_1 ≤ (l0.length : Int)) = true := decide_eq_true c22
      clear c22
      obtain ⟨y657, hy657⟩ : ∃ y_ : List Int, y_ = (l0.take (x5_1 : Int).toNat) := ⟨_, rfl⟩
      replace H : (if y654.length + y657.length < 17592186044416 then ((some (y654 ++ y657 : List Int)).bind fun y662 => (if y662.length < 17592186044416 then ((some (y662 ++ [a1] : List Int)).bind fun y665 => ((some (l0.drop (x5_1 : Int).toNat : List Int)).bind fun y668 => (if y665.length + y668.length < 17592186044416 then (some (y665 ++ y668)) else (none)))) else (none))) else (none)) = some r := by first | (rw [hy657]; with_reducible exact H) | (have H2_ := (Option.bind_some _ _).symm.trans H; rw [hy657]; with_reducible exact H2_) | (have H2_ := (Option.bind_some _ _).symm.trans H; with_reducible exact H2_) | with_reducible exact H | (rw [hy657]; exact H) | exact H
      have Ny657 := A_ hy657
      clear hy657
      by_cases c23 : y654.length + y657.length < 17592186044416
      ·
       rw [if_pos c23] at H
       have LMc23 := A_ c23
       clear c23
       obtain ⟨y662, hy662⟩ : ∃ y_ : List Int, y_ = (y654 ++ y657) := ⟨_, rfl⟩
       replace H : (if y662.length < 17592186044416 then ((some (y662 ++ [a1] : List Int)).bind fun y665 => ((some (l0.drop (x5_1 : Int).toNat : List Int)).bind fun y668 => (if y665.length + y668.length < 17592186044416 then (some (y665 ++ y668)) else (none)))) else (none)) = some r := by first | (rw [hy662]; with_reducible exact H) | (have H2_ := (Option.bind_some _ _).symm.trans H; rw [hy662]; with_reducible exact H2_) | (have H2_ := (Option.bind_some _ _).symm.trans H; with_reducible exact H2_) | with_reducible exact H | (rw [hy662]; exact H) | exact H
       have Ny662 := A_ hy662
       clear hy662
       by_cases c24 : y662.length < 17592186044416
       ·
        rw [if_pos c24] at H
        have LMc24 := A_ c24
        clear c24
        obtain ⟨y665, hy665⟩ : ∃ y_ : List Int, y_ = (y662 ++ [a1]) := ⟨_, rfl⟩
        replace H : ((some (l0.drop (x5_1 : Int).toNat : List Int)).bind fun y668 => (if y665.length + y668.length < 17592186044416 then (some (y665 ++ y668)) else (none))) = some r := by first | (rw [hy665]; with_reducible exact H) | (have H2_ := (Option.bind_some _ _).symm.trans H; rw [hy665]; with_reducible exact H2_) | (have H2_ := (Option.bind_some _ _).symm.trans H; with_reducible exact H2_) | with_reducible exact H | (rw [hy665]; exact H) | exact H
        have Ny665 := A_ hy665
        clear hy665
        have c25b0 := eq_true (od_ : 0 ≤ x5_1)
        have c26b0 := eq_true (od_ : x5_1 ≤ (l0.length : Int))
        obtain ⟨y668, hy668⟩ : ∃ y_ : List Int, y_ = (l0.drop (x5_1 : Int).toNat) := ⟨_, rfl⟩
        replace H : (if y665.length + y668.length < 17592186044416 then (some (y665 ++ y668)) else (none)) = some r := by first | (rw [hy668]; with_reducible exact H) | (have H2_ := (Option.bind_some _ _).symm.trans H; rw [hy668]; with_reducible exact H2_) | (have H2_ := (Option.bind_some _ _).symm.trans H; with_reducible exact H2_) | with_reducible exact H | (rw [hy668]; exact H) | exact H
        have Ny668 := A_ hy668
        clear hy668
        by_cases c27 : y665.length + y668.length < 17592186044416
        ·
         rw [if_pos c27] at H
         have LMc27 := A_ c27
         clear c27
         obtain ⟨y673, hy673⟩ : ∃ y_ : List Int, y_ = (y665 ++ y668) := ⟨_, rfl⟩
         replace H : (some y673) = some r := by first | (rw [hy673]; with_reducible exact H) | (have H2_ := (Option.bind_some _ _).symm.trans H; rw [hy673]; with_reducible exact H2_) | (have H2_ := (Option.bind_some _ _).symm.trans H; with_reducible exact H2_) | with_reducible exact H | (rw [hy673]; exact H) | exact H
         have Ny673 := A_ hy673
         clear hy673
         obtain rfl := Option.some.inj H
         go_wp2_with (first | ((with_reducible refine gate_dst (N := 34) rfl ?_); refine Kd.R_lit (Kd.int .i64) _ 3 ?hg (N := 34) ?hd (xs := ([] : List Int)) (inner := []) (ok := fun _ => True) (okp := fun _ => True) ?hr ?hp (fun _ hk => hk) trivial (Below.refl _ _) (Nat.le_refl _) (by simp) ?_; (case hd => rfl); (case hg => rfl); (case hr => first | (go_simp; done) | (go_simp; rfl)); (case hp => exact (Reps.none _ _)); intro v655 w28 ho29 hb hg_ hnew_; clear hg_ hnew_; (first | rw [← Ny654.out] at ho29 | (simp only [Int.reduceToNat] at ho29; rw [← Ny654.out] at ho29)); have n0_ := A_ (Kd.V_elder' (by (with_reducible repeat (first | apply Kd.V_alloc | apply Kd.V_drewN | apply Kd.V_drew)); exact HO_0.out) (Kd.R_base ho29) hb); have n1_ := A_ (Kd.R_lower (Kd.R_newM (M := fun k_ => (w.heap.size ≤ k_)) ho29 (below_size bl_) (fun k_ h_ => h_)) (below_size bl_)); have n2_ := A_ (below_step bl_ hb); clear HO_0; clear HB; have HO_0 := n0_; have HO656 := n1_; have HB := n2_; clear n0_ n1_ n2_; clear hb ho29; have q30 : (x5_1 : Int) ≤ ((l0.length : Int) : Int) := od_; obtain ⟨i030, hi030, _, hsz30, _⟩ := info_parts info3; have hroom30 : l0.length ≤ c0 := (Kd.V_reads' HO_0.out).2.1; have hC30 : Kd.F (Kd.int .i64) _ _ A0 l0.length l0 := (Kd.V_at (base := w.heap.size) HO_0.out).2.2; have hcut30 := cut_to (P := Try.prog) 23 3 .i64 Try.underlying23 hi030 A0 l0.length c0 x5_1 (od_) q30 hroom30; have hr30 := Kd.F_take (m := (x5_1 : Int).toNat) hC30 (by omega); have hy30 : y657.length = (x5_1 : Int).toNat := (by rw [Ny657.out, List.length_take]; omega); rw [← Ny657.out] at hr30; rw [← hy30] at hcut30; have HO661 := A_ (show Kd.V (Kd.int .i64) 3 _ w.heap.size _ (.slice A0 y657.length c0) y657 from Kd.V_mk (by omega) hr30); have HC661 := A_ (show y657.length ≤ c0 from by omega); clear hr30 hC30 hroom30 hi030 hsz30; have KY30 := A_ hy30; clear hy30; replace q30 := eq_true q30) | ((with_reducible refine gate_builtin (b := .append) (xs := #[.tmp 34, .tmp 37]) rfl ?_); at_builtin; refine Kd.R_append_rows (Kd.int .i64) (w0 := w) w.heap.size rfl (.tmp 34) (.tmp 37) 23 3 (.int .i64 0) 8 rfl Try.underlying23 info3 rfl (by decide) (by omega) v655 y654 y657 _ _ _ (fun k_ => (w.heap.size ≤ k_)) (fun _ => False) rfl rfl ?aO ?aR (fun _ _ h => h) (fun _ h => h.elim) ?aF ?aB ?aS ?aL ?_; (case aR => repeat (first | exact (Kd.V_reads' HO661.out).2.2 | (with_reducible refine Kd.C_alloc ?_ _) | (with_reducible refine Kd.C_drewN ?_ _) | (with_reducible refine Kd.C_drew ?_))); (case aB => exact bl_); (case aF => exact (fun k_ hk => (Nat.le_trans (below_size bl_) hk))); (case aO => exact (by (with_reducible repeat (first | apply Kd.R_alloc | apply Kd.R_drewN | apply Kd.R_drew)); exact Kd.R_mono HO656.out (fun _ hk => hk.1))); (case aS => exact (below_size bl_)); (case aL => have := LMc23.out; omega); intro v663 w31 ho hb hg hat; rw [← Ny662.out] at ho; have n0_ := A_ (Kd.V_afterv (ok := (fun k_ => (P0_ k_ ∨ w.heap.size ≤ k_))) (by (with_reducible repeat (first | apply Kd.V_alloc | apply Kd.V_drewN | apply Kd.V_drew)); exact HO_0.out) hg hat); have n1_ := A_ (Kd.V_afterv (ok := (fun k_ => (P0_ k_ ∨ w.heap.size ≤ k_))) (by (with_reducible repeat (first | apply Kd.V_alloc | apply Kd.V_drewN | apply Kd.V_drew)); exact HO661.out) hg hat); have n2_ := A_ (hb); have n3_ := A_ (ho); clear HO_0; clear HO661; clear HB; clear HO656; have HO_0 := n0_; have HO661 := n1_; have HB := n2_; have HO664 := n3_; clear n0_ n1_ n2_ n3_; clear ho hb hg hat) | ((with_reducible refine gate_builtin (b := .append) (xs := #[.tmp 39, .tmp 41]) rfl ?_); at_builtin; refine Kd.R_append (Kd.int .i64) (w0 := w) w.heap.size rfl (.tmp 39) (.tmp 41) 23 3 (.int .i64 0) 8 rfl Try.underlying23 info3 rfl (by decide) (by omega) v663 y662 a1 [.int .i64 a1] (fun k_ => (w.heap.size ≤ k_)) (fun _ => False) rfl rfl ?aP (fun _ hk => hk.elim) ?aF ?aO ?aB ?aS ?aL ?_; (case aP => exact rfl); (case aB => exact bl_); (case aF => exact (fun k_ hk => (Nat.le_trans (below_size bl_) hk))); (case aO => exact (kR_ HO664.out)); (case aS => exact (below_size bl_)); (case aL => have := LMc24.out; omega); intro v666 w32 ho hb hg hat; rw [← Ny665.out] at ho; have n0_ := A_ (Kd.V_afterv (ok := (fun k_ => (P0_ k_ ∨ w.heap.size ≤ k_))) (by (with_reducible repeat (first | apply Kd.V_alloc | apply Kd.V_drewN | apply Kd.V_drew)); exact HO_0.out) hg hat); have n1_ := A_ (Kd.V_afterv (ok := (fun k_ => (P0_ k_ ∨ w.heap.size ≤ k_))) (by (with_reducible repeat (first | apply Kd.V_alloc | apply Kd.V_drewN | apply Kd.V_drew)); exact HO661.out) hg hat); have n2_ := A_ (hb); have n3_ := A_ (ho); clear HO_0; clear HO661; clear HB; clear HO664; have HO_0 := n0_; have HO661 := n1_; have HB := n2_; have HO667 := n3_; clear n0_ n1_ n2_ n3_; clear ho hb hg hat; have q33 : (x5_1 : Int) ≤ ((l0.length : Int) : Int) := od_; obtain ⟨i033, hi033, _, hsz33, _⟩ := info_parts info3; have hroom33 : l0.length ≤ c0 := (Kd.V_reads' HO_0.out).2.1; have hC33 : Kd.F (Kd.int .i64) _ _ A0 l0.length l0 := (Kd.V_at (base := w.heap.size) HO_0.out).2.2; have q033 : (0 : Int) ≤ (x5_1 : Int) := od_; have hcut33 := cut_from (P := Try.prog) 23 3 .i64 Try.underlying23 hi033 1 hsz33 A0 l0.length c0 x5_1 q033 q33; have hr33 := Kd.F_cut (m := (x5_1 : Int).toNat) (c := c0) hC33 (by omega) hroom33; obtain ⟨A33, hA33⟩ : ∃ A1, A1 = (if c0 = (x5_1 : Int).toNat then A0 else (A0 : Option Addr).map (·.add ((x5_1 : Int).toNat * 1))) := ⟨_, rfl⟩; obtain ⟨c33, hc33⟩ : ∃ c1, c1 = c0 - (x5_1 : Int).toNat := ⟨_, rfl⟩; have hy33 : y668.length = l0.length - (x5_1 : Int).toNat := (by rw [Ny668.out, List.length_drop] <;> omega); rw [show (l0).drop (x5_1 : Int).toNat = y668 from Ny668.out.symm] at hr33; replace hr33 : Kd.F (Kd.int .i64) _ _ A33 y668.length y668 := (by rw [hA33]; exact hr33); rw [← hy33, ← hA33, ← hc33] at hcut33; have HO672 := A_ (show Kd.V (Kd.int .i64) 3 _ w.heap.size _ (.slice A33 y668.length c33) y668 from Kd.V_mk (by rw [hy33, hc33]; exact Nat.sub_le_sub_right hroom33 _) hr33); have HC672 := A_ (show y668.length ≤ c33 from by rw [hy33, hc33]; exact Nat.sub_le_sub_right hroom33 _); clear hr33 hC33 hroom33 hi033 hsz33 hc33; have KY33 := A_ hy33; have KA33 := A_ hA33; clear hy33 hA33; replace q33 := eq_true q33) | ((with_reducible refine gate_builtin (b := .append) (xs := #[.tmp 43, .tmp 46]) rfl ?_); at_builtin; refine Kd.R_append_rows (Kd.int .i64) (w0 := w) w.heap.size rfl (.tmp 43) (.tmp 46) 23 3 (.int .i64 0) 8 rfl Try.underlying23 info3 rfl (by decide) (by omega) v666 y665 y668 _ _ _ (fun k_ => (w.heap.size ≤ k_)) (fun _ => False) rfl rfl ?aO ?aR (fun _ _ h => h) (fun _ h => h.elim) ?aF ?aB ?aS ?aL ?_; (case aR => repeat (first | exact (Kd.V_reads' HO672.out).2.2 | (with_reducible refine Kd.C_alloc ?_ _) | (with_reducible refine Kd.C_drewN ?_ _) | (with_reducible refine Kd.C_drew ?_))); (case aB => exact bl_); (case aF => exact (fun k_ hk => (Nat.le_trans (below_size bl_) hk))); (case aO => exact (kR_ HO667.out)); (case aS => exact (below_size bl_)); (case aL => have := LMc27.out; omega); intro v674 w34 ho hb hg hat; rw [← Ny673.out] at ho; have n0_ := A_ (Kd.V_afterv (ok := (fun k_ => (P0_ k_ ∨ w.heap.size ≤ k_))) (by (with_reducible repeat (first | apply Kd.V_alloc | apply Kd.V_drewN | apply Kd.V_drew)); exact HO_0.out) hg hat); have n1_ := A_ (Kd.V_afterv (ok := (fun k_ => (P0_ k_ ∨ w.heap.size ≤ k_))) (by (with_reducible repeat (first | apply Kd.V_alloc | apply Kd.V_drewN | apply Kd.V_drew)); exact HO661.out) hg hat); have n2_ := A_ (Kd.V_afterv (ok := (fun k_ => (P0_ k_ ∨ w.heap.size ≤ k_))) (by (with_reducible repeat (first | apply Kd.V_alloc | apply Kd.V_drewN | apply Kd.V_drew)); exact HO672.out) hg hat); have n3_ := A_ (hb); have n4_ := A_ (ho); clear HO_0; clear HO661; clear HO672; clear HB; clear HO667; have HO_0 := n0_; have HO661 := n1_; have HO672 := n2_; have HB := n3_; have HO675 := n4_; clear n0_ n1_ n2_ n3_ n4_; clear ho hb hg hat))
         go_ret
         exact ⟨_, ew_, Kd.V_mono (Kd.R_V (kR_ HO675.out)) (fun k_ hk => by first | exact ⟨(.inr (hk.1)), hk.2⟩ | exact (.inr (hk))), bl_⟩
        ·
         rw [if_neg c27] at H; cases H
       ·
        rw [if_neg c24] at H; cases H
      ·
       rw [if_neg c23] at H; cases H
     ·
      rw [if_neg c22] at H; cases H
    ·
     rw [if_neg c21] at H; cases H

end Go.Proofs.Ytebjiooojkhkpaa.X
