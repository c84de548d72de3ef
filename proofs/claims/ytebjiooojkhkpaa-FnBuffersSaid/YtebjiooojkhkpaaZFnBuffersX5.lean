-- Shaken out of the printed texts.
import Derived.Test.YtebjiooojkhkpaaZFnBuffersWBX0
import Derived.Test.YtebjiooojkhkpaaZFnBuffersQ
import Derived.Test.YtebjiooojkhkpaaZFnBuffersX0
import Derived.Test.YtebjiooojkhkpaaZFnBuffersX3
import Derived.Test.YtebjiooojkhkpaaZFnBuffersX4
namespace Go.Proofs.Ytebjiooojkhkpaa.X
open Go.RowKit Go.Proofs.YtebjiooojkhkpaaW.PrintWords Go.Proofs.YtebjiooojkhkpaaW.PrintLast Go.Proofs.YtebjiooojkhkpaaW.PrintMore
attribute [local go_sem] max2_int min2_int max_two min_two max_three min_three max_four min_four   -- for this text's walks alone
set_option linter.unusedVariables false
set_option linter.unusedSimpArgs false

/-! ### spec_TrainsReached: function 39 -/
mutual
def spec_TrainsReached.j0 : Nat → List (List Int) → List Int → Int → Int → Int → Bool → Option (List Int × Bool)
  | 0, _, _, _, _, _, _ => none
  | k + 1, x0, x1, x2, x3, x4, x32 => if x32 = true then (some (([] : List Int), false)) else (if 0 ≤ (x0.length : Int) then (if ((x0.length : Int) : Int).toNat ≤ 35184372088832 then ((some (List.replicate ((x0.length : Int) : Int).toNat 0 : List Int)).bind fun y679 => (if 0 ≤ x3 then (if x3 < (y679.length : Int) then (spec_TrainsReached.l0 k x0 x1 x2 (y679.set (x3 : Int).toNat x4) ([] : List Int) 0) else (none)) else (none))) else (none)) else (none))
def spec_TrainsReached.l0 : Nat → List (List Int) → List Int → Int → List Int → List Int → Int → Option (List Int × Bool)
  | 0, _, _, _, _, _, _ => none
  | k + 1, x0, x1, x2, x12, x13, x14 => if x14 < 50 then ((spec_dlNext.f k x0 x1 x2 x12).bind fun t683 => (spec_TrainsReached.l1 k x0 x1 x2 t683 x13 x14 t683 (t683.length : Int) 0)) else (some (x13, true))
def spec_TrainsReached.l1 : Nat → List (List Int) → List Int → Int → List Int → List Int → Int → List Int → Int → Int → Option (List Int × Bool)
  | 0, _, _, _, _, _, _, _, _, _ => none
  | k + 1, x0, x1, x2, x12, x13, x14, x49, x50, x51 => if x51 < x50 then (if 0 ≤ x51 then (if x51 < (x49.length : Int) then (if (rd x49 x51) > 0 then ((spec_l1Put.f k x13 x51).bind fun t687 => (spec_TrainsReached.l1 k x0 x1 x2 x12 t687 x14 x49 x50 (wrap64 (x51 + 1)))) else (spec_TrainsReached.l1 k x0 x1 x2 x12 x13 x14 x49 x50 (wrap64 (x51 + 1)))) else (none)) else (none)) else (spec_TrainsReached.l0 k x0 x1 x2 x12 x13 (wrap64 (x14 + 1)))
end
def spec_TrainsReached.f (k : Nat) (l0 : List (List Int)) (l1 : List Int) (a2 : Int) (a3 : Int) (a4 : Int) : Option (List Int × Bool) := (spec_dlGood.f k l0 l1 a2).bind fun t676 => (if t676 = true then ((spec_dlTrain.f l0 a3).bind fun t677 => (if t677 = true then ((spec_l1In.f a4 1 10000).bind fun t678 => (spec_TrainsReached.j0 k l0 l1 a2 a3 a4 (!t678))) else (spec_TrainsReached.j0 k l0 l1 a2 a3 a4 true))) else (spec_TrainsReached.j0 k l0 l1 a2 a3 a4 true))
theorem spec_TrainsReached.mono_l : ∀ k, (∀ y0 y1 y2 y3 y4 y5, LeO (spec_TrainsReached.j0 k y0 y1 y2 y3 y4 y5) (spec_TrainsReached.j0 (k + 1) y0 y1 y2 y3 y4 y5)) ∧ (∀ y0 y1 y2 y3 y4 y5, LeO (spec_TrainsReached.l0 k y0 y1 y2 y3 y4 y5) (spec_TrainsReached.l0 (k + 1) y0 y1 y2 y3 y4 y5)) ∧ (∀ y0 y1 y2 y3 y4 y5 y6 y7 y8, LeO (spec_TrainsReached.l1 k y0 y1 y2 y3 y4 y5 y6 y7 y8) (spec_TrainsReached.l1 (k + 1) y0 y1 y2 y3 y4 y5 y6 y7 y8))
  | 0 => ⟨fun _ _ _ _ _ _ r h => by simp [spec_TrainsReached.j0] at h, fun _ _ _ _ _ _ r h => by simp [spec_TrainsReached.l0] at h, fun _ _ _ _ _ _ _ _ _ r h => by simp [spec_TrainsReached.l1] at h⟩
  | k + 1 => by
    obtain ⟨ih0, ih1, ih2⟩ := spec_TrainsReached.mono_l k
    refine ⟨?_, ?_, ?_⟩
    all_goals (intros; first | unfold spec_TrainsReached.j0 | unfold spec_TrainsReached.l0 | unfold spec_TrainsReached.l1)
    all_goals (repeat' first | (with_reducible first | exact ih0 _ _ _ _ _ _ | exact ih1 _ _ _ _ _ _ | exact ih2 _ _ _ _ _ _ _ _ _ | exact spec_dlGood.mono _ _ _ _ | exact spec_dlNext.mono _ _ _ _ _ | exact spec_l1Put.mono _ _ _ | exact LeO.refl _ | exact LeO.none _ | refine LeO.ite ?_ ?_ | refine LeO.bind ?_ (fun _ => ?_)) | exact ih0 _ _ _ _ _ _ | exact ih1 _ _ _ _ _ _ | exact ih2 _ _ _ _ _ _ _ _ _ | exact spec_dlGood.mono _ _ _ _ | exact spec_dlNext.mono _ _ _ _ _ | exact spec_l1Put.mono _ _ _ | exact LeO.none _ | refine LeO.ite ?_ ?_ | refine LeO.bind ?_ (fun _ => ?_))
theorem spec_TrainsReached.mono : ∀ a0 a1 a2 a3 a4 k, LeO (spec_TrainsReached.f k a0 a1 a2 a3 a4) (spec_TrainsReached.f (k + 1) a0 a1 a2 a3 a4) := by
 intro a0 a1 a2 a3 a4 k
 obtain ⟨ih0, ih1, ih2⟩ := spec_TrainsReached.mono_l k
 unfold spec_TrainsReached.f
 repeat' first | (with_reducible first | exact ih0 _ _ _ _ _ _ | exact ih1 _ _ _ _ _ _ | exact ih2 _ _ _ _ _ _ _ _ _ | exact spec_dlGood.mono _ _ _ _ | exact spec_dlNext.mono _ _ _ _ _ | exact spec_l1Put.mono _ _ _ | exact LeO.refl _ | exact LeO.none _ | refine LeO.ite ?_ ?_ | refine LeO.bind ?_ (fun _ => ?_)) | exact ih0 _ _ _ _ _ _ | exact ih1 _ _ _ _ _ _ | exact ih2 _ _ _ _ _ _ _ _ _ | exact spec_dlGood.mono _ _ _ _ | exact spec_dlNext.mono _ _ _ _ _ | exact spec_l1Put.mono _ _ _ | exact LeO.none _ | refine LeO.ite ?_ ?_ | refine LeO.bind ?_ (fun _ => ?_)
set_option maxHeartbeats 8000000 in
set_option maxRecDepth 100000 in
theorem spec_TrainsReached.calls (k : Nat) (A0 : Option Addr) (c0 : Nat) (l0 : List (List Int)) (A1 : Option Addr) (c1 : Nat) (l1 : List Int) (a2 : Int) (a3 : Int) (a4 : Int) (r1 : List Int) (r2 : Bool) (w : World) (hr0 : Kd.C (Kd.slice 3 (Kd.int .i64)) w A0 l0.length l0) (hc0 : l0.length ≤ c0) (hr1 : Kd.C (Kd.int .i64) w A1 l1.length l1) (hc1 : l1.length ≤ c1) (h : spec_TrainsReached.f k l0 l1 a2 a3 a4 = some (r1, r2)) :
 Calls Try.prog 39 #[.slice A0 l0.length c0, .slice A1 l1.length c1, .int .i64 a2, .int .i64 a3, .int .i64 a4] w fun e w' => ∃ v0_ : Value, e = .returned (.tuple #[v0_, .bool r2]) ∧ Kd.V (Kd.int .i64) 3 w' w.heap.size (fun k_ => (w.heap.size ≤ k_)) v0_ r1 ∧ Below w.heap.size w w' := by
 have HR0 := A_ hr0
 have HC0 := A_ hc0
 clear hr0 hc0
 have HR1 := A_ hr1
 have HC1 := A_ hc1
 clear hr1 hc1
 have HB := A_ (Below.refl w.heap.size w)
 have H : ((spec_dlGood.f k l0 l1 a2).bind fun t676 => (if t676 = true then ((spec_dlTrain.f l0 a3).bind fun t677 => (if t677 = true then ((spec_l1In.f a4 1 10000).bind fun t678 => (spec_TrainsReached.j0 k l0 l1 a2 a3 a4 (!t678))) else (spec_TrainsReached.j0 k l0 l1 a2 a3 a4 true))) else (spec_TrainsReached.j0 k l0 l1 a2 a3 a4 true))) = some (r1, r2) := h
 clear h
 have HC6 := A_ H
 clear H
 go_enter Try.func39, Try.ntmps39
 go_upto_region 1 with (fail)
 go_cut [32] (fun v32 wc => ∃ (kq : Nat) (x32_5 : Bool), v32 = .bool x32_5 ∧ Aside0 (spec_TrainsReached.j0 kq l0 l1 a2 a3 a4 x32_5 = some (r1, r2)) ∧ Aside0 (kq ≤ k) ∧ Aside0 (Below w.heap.size w wc))
 case first =>
  have H := HC6.out
  clear HC6
  obtain ⟨t676, A70, H⟩ := Option.bind_eq_some_iff.mp H
  try dsimp only at H
  have A7 := A_ A70; clear A70
  by_cases c8 : t676 = true
  ·
   subst c8
   rw [if_pos rfl] at H
   obtain ⟨t677, A90, H⟩ := Option.bind_eq_some_iff.mp H
   try dsimp only at H
   have A9 := A_ A90; clear A90
   by_cases c10 : t677 = true
   ·
    subst c10
    rw [if_pos rfl] at H
    obtain ⟨t678, A110, H⟩ := Option.bind_eq_some_iff.mp H
    try dsimp only at H
    have A11 := A_ A110; clear A110
    have H' := A_ H; clear H
    go_wp2_with (first | ((with_reducible refine gate_callee (f := 51) rfl ?_); refine goesL_ (some 20) rfl rfl Try.func51 kr_ rfl #[.slice A0 l0.length c0, .slice A1 l1.length c1, .int .i64 a2] rfl am_ ?_; (with_reducible refine (spec_dlGood.calls k _ _ l0 _ _ l1 a2 true _ ?side1 ?side2 ?side3 ?side4 A7.out).mono ?_); (case side1 => exact kC_ (Kd.C_below HR0.out HB.out)); (case side2 => exact HC0.out); (case side3 => exact kC_ (Kd.C_below HR1.out HB.out)); (case side4 => exact HC1.out); rintro e w' ⟨rfl, ⟨nd, rfl⟩⟩; refine ⟨_, rfl, ?_⟩) | (go_at_call 52; (with_reducible refine (spec_dlTrain.calls _ _ l0 a3 true _ ?side1 ?side2 A9.out).mono ?_); (case side1 => repeat (first | exact (Kd.C_below HR0.out bl_) | (with_reducible refine Kd.C_alloc ?_ _) | (with_reducible refine Kd.C_drewN ?_ _) | (with_reducible refine Kd.C_drew ?_))); (case side2 => exact HC0.out); rintro e w' ⟨rfl, ⟨nd, rfl⟩⟩) | (go_at_call 66; (with_reducible refine (spec_l1In.calls a4 1 10000 t678 _ A11.out).mono ?_); rintro e w' ⟨rfl, ⟨nd, rfl⟩⟩))
    go_meet
    case rel => exact ⟨_, (!t678), es_, H', ⟨by first | omega | exact Nat.le_refl _⟩, ⟨bl_⟩⟩
   ·
    replace c10 := Bool.eq_false_iff.mpr c10
    subst c10
    rw [if_neg (show ¬ (false = true) by decide)] at H
    have H' := A_ H; clear H
    go_wp2_with (first | ((with_reducible refine gate_callee (f := 51) rfl ?_); refine goesL_ (some 20) rfl rfl Try.func51 kr_ rfl #[.slice A0 l0.length c0, .slice A1 l1.length c1, .int .i64 a2] rfl am_ ?_; (with_reducible refine (spec_dlGood.calls k _ _ l0 _ _ l1 a2 true _ ?side1 ?side2 ?side3 ?side4 A7.out).mono ?_); (case side1 => exact kC_ (Kd.C_below HR0.out HB.out)); (case side2 => exact HC0.out); (case side3 => exact kC_ (Kd.C_below HR1.out HB.out)); (case side4 => exact HC1.out); rintro e w' ⟨rfl, ⟨nd, rfl⟩⟩; refine ⟨_, rfl, ?_⟩) | (go_at_call 52; (with_reducible refine (spec_dlTrain.calls _ _ l0 a3 false _ ?side1 ?side2 A9.out).mono ?_); (case side1 => repeat (first | exact (Kd.C_below HR0.out bl_) | (with_reducible refine Kd.C_alloc ?_ _) | (with_reducible refine Kd.C_drewN ?_ _) | (with_reducible refine Kd.C_drew ?_))); (case side2 => exact HC0.out); rintro e w' ⟨rfl, ⟨nd, rfl⟩⟩))
    go_meet
    case rel => exact ⟨_, (true), es_, H', ⟨by first | omega | exact Nat.le_refl _⟩, ⟨bl_⟩⟩
  ·
   replace c8 := Bool.eq_false_iff.mpr c8
   subst c8
   rw [if_neg (show ¬ (false = true) by decide)] at H
   have H' := A_ H; clear H
   go_wp2_with (first | ((with_reducible refine gate_callee (f := 51) rfl ?_); refine goesL_ (some 20) rfl rfl Try.func51 kr_ rfl #[.slice A0 l0.length c0, .slice A1 l1.length c1, .int .i64 a2] rfl am_ ?_; (with_reducible refine (spec_dlGood.calls k _ _ l0 _ _ l1 a2 false _ ?side1 ?side2 ?side3 ?side4 A7.out).mono ?_); (case side1 => exact kC_ (Kd.C_below HR0.out HB.out)); (case side2 => exact HC0.out); (case side3 => exact kC_ (Kd.C_below HR1.out HB.out)); (case side4 => exact HC1.out); rintro e w' ⟨rfl, ⟨nd, rfl⟩⟩; refine ⟨_, rfl, ?_⟩))
   go_meet
   case rel => exact ⟨_, (true), es_, H', ⟨by first | omega | exact Nat.le_refl _⟩, ⟨bl_⟩⟩
 case rest =>
  clear HC6
  (try clear c1); (try clear p2); (try clear c3); (try clear c5); (try clear c8); (try clear c10)
  obtain ⟨kq, x32_5, rfl, HA, HJ5, HB⟩ := hcut
  cases kq with
  | zero => exact absurd HA.out (by simp [spec_TrainsReached.j0])
  | succ kj5 =>
   have H := HA.out
   clear HA
   simp only [spec_TrainsReached.j0] at H
   by_cases c12 : x32_5 = true
   ·
    subst c12
    rw [if_pos rfl] at H
    simp only [Option.some.injEq, Prod.mk.injEq] at H
    obtain ⟨rfl, rfl⟩ := H
    go_wp2
    go_ret2
    exact ⟨_, ew_, Kd.R_V (base := 0) (by first | exact Kd.R_nil _ _ _ _ _ | exact Kd.N_nil _ _ _ _ _ | exact Kd.V_nil _ _ _ _ _ | exact Kd.Q_nil _ _ _ _ _ | exact Kd.S_nil _ _ _ _ _), bl_⟩
   ·
    replace c12 := Bool.eq_false_iff.mpr c12
    subst c12
    rw [if_neg (show ¬ (false = true) by decide)] at H
    by_cases c13 : 0 ≤ (l0.length : Int)
    ·
     rw [if_pos c13] at H
     have c13b0 := eq_true c13
     have c13b1 : decide (0 ≤ (l0.length : Int)) = true := decide_eq_true c13
     clear c13
     by_cases c14 : ((l0.length : Int) : Int).toNat ≤ 35184372088832
     ·
      rw [if_pos c14] at H
      have c14b0 := eq_true c14
      have c14b1 : decide (((l0.length : Int) : Int).toNat ≤ 35184372088832) = true := decide_eq_true c14
      clear c14
      obtain ⟨y679, hy679⟩ : ∃ y_ : List Int, y_ = (List.replicate ((l0.length : Int) : Int).toNat 0) := ⟨_, rfl⟩
      replace H : (if 0 ≤ a3 then (if a3 < (y679.length : Int) then (spec_TrainsReached.l0 kj5 l0 l1 a2 (y679.set (a3 : Int).toNat a4) ([] : List Int) 0) else (none)) else (none)) = some (r1, r2) := by first | (rw [hy679]; with_reducible exact H) | (have H2_ := (Option.bind_some _ _).symm.trans H; rw [hy679]; with_reducible exact H2_) | (have H2_ := (Option.bind_some _ _).symm.trans H; with_reducible exact H2_) | with_reducible exact H | (rw [hy679]; exact H) | exact H
      have Ny679 := A_ hy679
      clear hy679
      by_cases c15 : 0 ≤ a3
      ·
       rw [if_pos c15] at H
       have c15b0 := decide_eq_true c15
       clear c15
       by_cases c16 : a3 < (y679.length : Int)
       ·
        rw [if_pos c16] at H
        have c16b0 := decide_eq_true c16
        clear c16
        obtain ⟨y682, hy682⟩ : ∃ y_ : List Int, y_ = (y679.set (a3 : Int).toNat a4) := ⟨_, rfl⟩
        replace H : (spec_TrainsReached.l0 kj5 l0 l1 a2 y682 ([] : List Int) 0) = some (r1, r2) := by first | (rw [hy682]; with_reducible exact H) | (have H2_ := (Option.bind_some _ _).symm.trans H; rw [hy682]; with_reducible exact H2_) | (have H2_ := (Option.bind_some _ _).symm.trans H; with_reducible exact H2_) | with_reducible exact H | (rw [hy682]; exact H) | exact H
        have Ny682 := A_ hy682
        clear hy682
        have H' := A_ H; clear H
        go_wp2_with (first | ((with_reducible refine gate_dst (N := 35) rfl ?_); refine Kd.R_make (Kd.int .i64) _ 3 rfl (N := 35) rfl 23 _ _ rfl (l0.length : Int) rfl rfl Try.underlying23 (.int .i64 0) 8 info3 rfl (by decide) (by omega) 0 (ok := fun _ => True) (okp := fun _ => True) rfl (fun _ hk => hk) trivial (od_) (Nat.le_trans (Nat.mul_le_mul_right _ (od_ : (l0.length : Int).toNat ≤ 35184372088832)) (by omega)) (Below.refl _ _) (Nat.le_refl _) ?_; intro v680 w18 ho19 hb hg_ hnew_; clear hg_ hnew_; (first | rw [← Ny679.out] at ho19 | (simp only [Int.reduceToNat] at ho19; rw [← Ny679.out] at ho19)); have n0_ := A_ (Kd.R_lower (Kd.R_newM (M := fun k_ => (w.heap.size ≤ k_)) ho19 (below_size bl_) (fun k_ h_ => h_)) (below_size bl_)); have n1_ := A_ (below_step bl_ hb); clear HB; have HO681 := n0_; have HB := n1_; clear n0_ n1_; clear hb ho19; have p17 : 0 ≤ (a3 : Int) := od_; have q17 : (a3 : Int) < ((y679.length : Int) : Int) := od_; obtain ⟨go17, co17, eo17, gb17, gl17, cl17, HG17⟩ := Kd.R_form HO681.out (by omega); (first | cases eo17 | (injection eo17 with ea_ en_ ec_; (first | subst ea_ | (injection ea_ with ea_; subst ea_)); subst ec_; clear en_)); have GB17 := A_ gb17; have GG17 := A_ HG17; clear gb17 gl17 HG17; obtain ⟨hx17_0, hf17_0⟩ := Kd.R_celln 0 HO681.out (a3 : Int) p17 q17; replace p17 := eq_true p17; replace q17 := eq_true q17; have n_ := A_ (Kd.R_mono (ok' := (fun k_ => (w.heap.size ≤ k_))) HO681.out (fun k_ hk => hk.1)); clear HO681; have HO681 := n_; clear n_; obtain ⟨hy20_, hz20_⟩ := Kd.R_celln 0 HO681.out (a3 : Int) (od_) (od_); have HP20 := Kd.R_putg HO681.out (a3 : Int) a4) | ((with_reducible refine gate_store (t := 3) (p := 39) rfl ?_); refine store_event (t := 3) (p := 39) (v := ?vo_w21) (w1 := (w18.setCell ⟨go17, (a3 : Int).toNat, none⟩ (.int .i64 a4))) ?hg ?ho ?hn ?hr ?_; (case ho => rfl); (case hg => rfl); (case hn => rfl); (case hr => first | (go_simp; done) | (go_simp; rfl)); intro w21 hw; have hg : w18.grownBy w21 (some go17) := (by rw [hw]; exact HP20.2); have hp_ : Kd.R (Kd.int .i64) 3 w21 w.heap.size (fun k_ => (w.heap.size ≤ k_)) (.slice (some ⟨go17, 0, none⟩) y679.length co17) y682 := (by rw [hw, Ny682.out]; exact HP20.1); clear HP20; have n0_ := A_ (hp_); have n1_ := A_ ((by rw [hw]; exact below_set (HB.out) GB17.out : Below w.heap.size w w21)); clear HO681; clear HB; have HO681 := n0_; have HB := n1_; clear n0_ n1_; clear hg hw hp_))
        go_loopg [12, 13, 14] kj5 (fun kq v12 v13 v14 w' => ∃ (x12_2 : List Int) (x13_2 : List Int) (x14_2 : Int), v14 = .int .i64 x14_2 ∧ Aside0 (spec_TrainsReached.l0 kq l0 l1 a2 x12_2 x13_2 x14_2 = some (r1, r2)) ∧ Aside0 (kq ≤ kj5) ∧ Aside0 (Kd.R (Kd.int .i64) 3 w' w.heap.size (fun k_ => (w.heap.size ≤ k_)) v12 x12_2) ∧ Aside0 (Kd.V (Kd.int .i64) 3 w' w.heap.size (fun k_ => (w.heap.size ≤ k_) ∧ some k_ ≠ (v12 : Value).ownBlock) v13 x13_2) ∧ Aside0 (Below w.heap.size w w'))
        case atStart => exact ⟨(y682), (([] : List Int)), (0), es_, H', ⟨Nat.le_refl _⟩, ⟨kR_ HO681.out⟩, ⟨Kd.R_V (base := 0) (by first | exact Kd.R_nil _ _ _ _ _ | exact Kd.N_nil _ _ _ _ _ | exact Kd.V_nil _ _ _ _ _ | exact Kd.Q_nil _ _ _ _ _ | exact Kd.S_nil _ _ _ _ _)⟩, ⟨bl_⟩⟩
        case round =>
         clear H'
         (try clear c1); (try clear p1); (try clear q1); (try clear hx1); (try clear p2); (try clear c3); (try clear c5); (try clear c8); (try clear c10); (try clear c12); (try clear c13); (try clear c13b0); (try clear c13b1); (try clear c14); (try clear c14b0); (try clear c14b1); (try clear c15); (try clear c15b0); (try clear c16); (try clear c16b0); (try clear p17); (try clear q17); (try clear hx17); (try clear hf17); (try clear hx17_0); (try clear p17); (try clear p2); (try clear q17)
         obtain ⟨x12_2, x13_2, x14_2, rfl, HA, HK2, HO_12, HO_13, HB⟩ := hrel
         cases gk with
         | zero => exact absurd HA.out (by simp [spec_TrainsReached.l0])
         | succ k2 =>
          have H := HA.out
          clear HA
          simp only [spec_TrainsReached.l0] at H
          by_cases c22 : x14_2 < 50
          ·
           rw [if_pos c22] at H
           have c22b0 := decide_eq_true c22
           clear c22
           obtain ⟨t683, A230, H⟩ := Option.bind_eq_some_iff.mp H
           try dsimp only at H
           have A23 := A_ A230; clear A230
           have H' := A_ H; clear H
           obtain ⟨Ao24, co24, eo24⟩ := Kd.R_slice HO_12.out
           subst eo24
           go_wp2_with (first | ((with_reducible refine gate_callee (f := 63) rfl ?_); refine goesL_ (some 48) rfl rfl Try.func63 kr_ rfl #[.slice A0 l0.length c0, .slice A1 l1.length c1, .int .i64 a2, .slice Ao24 x12_2.length co24] rfl am_ ?_; (with_reducible refine (spec_dlNext.calls k2 _ _ l0 _ _ l1 a2 _ _ x12_2 t683 _ ?side1 ?side2 ?side3 ?side4 ?side5 ?side6 A23.out).mono ?_); (case side1 => exact kC_ (Kd.C_below HR0.out HB.out)); (case side2 => exact HC0.out); (case side3 => exact kC_ (Kd.C_below HR1.out HB.out)); (case side4 => exact HC1.out); (case side5 => exact kC_ ((Kd.R_reads' HO_12.out).2.2)); (case side6 => exact (Kd.R_reads' HO_12.out).2.1); rintro e w25 ⟨v684, rfl, ho0, hb⟩; refine ⟨_, rfl, ?_⟩; have n0_ := A_ (Kd.R_elder' (kR_ HO_12.out) (Kd.R_base ho0) hb); have n1_ := A_ (Kd.V_elder' (by (with_reducible repeat (first | apply Kd.V_alloc | apply Kd.V_drewN | apply Kd.V_drew)); exact HO_13.out) (Kd.R_base ho0) hb); have n2_ := A_ (Kd.R_lower (Kd.R_new' (Kd.R_newM (M := fun k_ => (w.heap.size ≤ k_)) ho0 (below_size bl_) (fun k_ h_ => h_)) (Kd.R_lt (kR_ HO_12.out))) (below_size bl_)); have n3_ := A_ (below_step bl_ hb); clear HO_12; clear HO_13; clear HB; have HO_12 := n0_; have HO_13 := n1_; have HO685 := n2_; have HB := n3_; clear n0_ n1_ n2_ n3_; (try clear hb); (try clear hb2); (try clear hk); (try clear hi); (try clear ho0); obtain ⟨Ao26, co26, eo26⟩ := Kd.R_slice HO685.out; subst eo26))
           go_loopg [13, 51] k2 (fun kq v13 v51 w' => ∃ (x13_3 : List Int) (x51_3 : Int), v51 = .int .i64 x51_3 ∧ Aside0 (spec_TrainsReached.l1 kq l0 l1 a2 t683 x13_3 x14_2 t683 (t683.length : Int) x51_3 = some (r1, r2)) ∧ Aside0 (kq ≤ k2) ∧ Aside0 (Kd.R (Kd.int .i64) 3 w' w.heap.size (fun k_ => (w.heap.size ≤ k_)) (.slice Ao26 t683.length co26) t683) ∧ Aside0 (Kd.V (Kd.int .i64) 3 w' w.heap.size (fun k_ => (w.heap.size ≤ k_) ∧ some k_ ≠ ((.slice Ao26 t683.length co26) : Value).ownBlock ∧ some k_ ≠ ((.slice Ao26 t683.length co26) : Value).ownBlock) v13 x13_3) ∧ Aside0 (Kd.R (Kd.int .i64) 3 w' w.heap.size (fun k_ => (w.heap.size ≤ k_)) (.slice Ao26 t683.length co26) t683) ∧ Aside0 (Below w.heap.size w w'))
           case atStart => exact ⟨(x13_2), (0), es_, H', ⟨Nat.le_refl _⟩, ⟨by (with_reducible repeat (first | apply Kd.R_alloc | apply Kd.R_drewN | apply Kd.R_drew)); exact Kd.R_mono HO685.out (fun _ hk => hk.1.1)⟩, ⟨by (with_reducible repeat (first | apply Kd.V_alloc | apply Kd.V_drewN | apply Kd.V_drew)); exact Kd.V_mono HO_13.out (fun _ hk => ⟨hk.1.1, ⟨hk.2, hk.2⟩⟩)⟩, ⟨by (with_reducible repeat (first | apply Kd.R_alloc | apply Kd.R_drewN | apply Kd.R_drew)); exact Kd.R_mono HO685.out (fun _ hk => hk.1.1)⟩, ⟨bl_⟩⟩
           case round =>
            clear H'
            (try clear c1); (try clear p1); (try clear q1); (try clear hx1); (try clear c2); (try clear p2); (try clear c3); (try clear c5); (try clear c6); (try clear c8); (try clear c10); (try clear c12); (try clear c13); (try clear c13b0); (try clear c13b1); (try clear c14); (try clear c14b0); (try clear c14b1); (try clear c15); (try clear c15b0); (try clear c16); (try clear c16b0); (try clear p17); (try clear q17); (try clear hx17); (try clear hf17); (try clear c22); (try clear c22b0); (try clear hx17_0); (try clear p1); (try clear p17); (try clear p2); (try clear q1); (try clear q17)
            obtain ⟨x13_3, x51_3, rfl, HA, HK3, HO_12, HO_13, HO_49, HB⟩ := hrel
            cases gk with
            | zero => exact absurd HA.out (by simp [spec_TrainsReached.l1])
            | succ k3 =>
             have H := HA.out
             clear HA
             simp only [spec_TrainsReached.l1] at H
             by_cases c27 : x51_3 < (t683.length : Int)
             ·
              rw [if_pos c27] at H
              have c27b0 := decide_eq_true c27
              clear c27
              by_cases c28 : 0 ≤ x51_3
              ·
               rw [if_pos c28] at H
               have c28b0 := decide_eq_true c28
               clear c28
               by_cases c29 : x51_3 < (t683.length : Int)
               ·
                rw [if_pos c29] at H
                have c29b0 := decide_eq_true c29
                clear c29
                by_cases c30 : (rd t683 x51_3) > 0
                ·
                 rw [if_pos c30] at H
                 have c30b0 := decide_eq_true c30
                 clear c30
                 obtain ⟨t687, A310, H⟩ := Option.bind_eq_some_iff.mp H
                 try dsimp only at H
                 have A31 := A_ A310; clear A310
                 have H' := A_ H; clear H
                 have p686 : 0 ≤ (x51_3 : Int) := od_
                 have q686 : x51_3 < (t683.length : Int) := od_
                 obtain ⟨ad686, e686, hx686_0⟩ := Kd.at_int (Kd.R_reads' HO_49.out).2.2 x51_3 p686 q686
                 cases e686
                 replace p686 := eq_true p686
                 replace q686 := eq_true q686
                 obtain ⟨Ao32, co32, eo32⟩ := Kd.V_slice HO_13.out
                 subst eo32
                 go_wp2_with (first | ((with_reducible refine gate_callee (f := 72) rfl ?_); refine goesL_ (some 60) rfl rfl Try.func72 kr_ rfl #[.slice Ao32 x13_3.length co32, .int .i64 x51_3] rfl am_ ?_; (with_reducible refine (spec_l1Put.calls k3 (fun k_ => ((w.heap.size ≤ k_) ∧ (some k_ ≠ (.slice (some ad686) t683.length co26 : Value).ownBlock ∧ some k_ ≠ (.slice (some ad686) t683.length co26 : Value).ownBlock))) _ _ x13_3 x51_3 t687 _ ?side1 A31.out).mono ?_); (case side1 => exact HO_13.out); rintro e w33 ⟨v688, rfl, ho0, hb⟩; refine ⟨_, rfl, ?_⟩; have n0_ := A_ (Kd.R_below (kR_ HO_12.out) hb); have n1_ := A_ (Kd.V_below (by (with_reducible repeat (first | apply Kd.V_alloc | apply Kd.V_drewN | apply Kd.V_drew)); exact HO_13.out) hb); have n2_ := A_ (Kd.R_below (kR_ HO_49.out) hb); have n3_ := A_ (Kd.V_lower (Kd.V_mono (ok' := fun k_ => (w.heap.size ≤ k_) ∧ some k_ ≠ (.slice (some ad686) t683.length co26 : Value).ownBlock ∧ some k_ ≠ (.slice (some ad686) t683.length co26 : Value).ownBlock) ho0 (fun k_ hk_ => ⟨Or.elim hk_ (fun hs_ => hs_.1) (fun hn_ => (Nat.le_trans (below_size bl_) hn_)), Or.elim hk_ (fun hs_ => hs_.2.1) (fun hn_ => (Kd.fresh' (Kd.R_lt (kR_ HO_12.out)) k_ hn_)), Or.elim hk_ (fun hs_ => hs_.2.2) (fun hn_ => (Kd.fresh' (Kd.R_lt (kR_ HO_49.out)) k_ hn_))⟩)) (below_size bl_)); have n4_ := A_ (below_step bl_ hb); clear HO_12; clear HO_13; clear HO_49; clear HB; have HO_12 := n0_; have HO_13 := n1_; have HO_49 := n2_; have HO689 := n3_; have HB := n4_; clear n0_ n1_ n2_ n3_ n4_; (try clear hb); (try clear hb2); (try clear hk); (try clear hi); (try clear ho0)))
                 go_roundg k3
                 case measure => have := HJ5.out; have := HK2.out; have := HK3.out; omega
                 case rel => exact ⟨(t687), (wrap64 (x51_3 + 1)), es_, H', ⟨by have := HJ5.out; have := HK2.out; have := HK3.out; omega⟩, ⟨kR_ HO_12.out⟩, ⟨by (with_reducible repeat (first | apply Kd.V_alloc | apply Kd.V_drewN | apply Kd.V_drew)); exact HO689.out⟩, ⟨kR_ HO_49.out⟩, ⟨bl_⟩⟩
                ·
                 rw [if_neg c30] at H
                 have c30b0 := decide_eq_false c30
                 clear c30
                 have H' := A_ H; clear H
                 have p686 : 0 ≤ (x51_3 : Int) := od_
                 have q686 : x51_3 < (t683.length : Int) := od_
                 obtain ⟨ad686, e686, hx686_0⟩ := Kd.at_int (Kd.R_reads' HO_49.out).2.2 x51_3 p686 q686
                 cases e686
                 replace p686 := eq_true p686
                 replace q686 := eq_true q686
                 go_wp2
                 go_roundg k3
                 case measure => have := HJ5.out; have := HK2.out; have := HK3.out; omega
                 case rel => exact ⟨(x13_3), (wrap64 (x51_3 + 1)), es_, H', ⟨by have := HJ5.out; have := HK2.out; have := HK3.out; omega⟩, ⟨kR_ HO_12.out⟩, ⟨by (with_reducible repeat (first | apply Kd.V_alloc | apply Kd.V_drewN | apply Kd.V_drew)); exact HO_13.out⟩, ⟨kR_ HO_49.out⟩, ⟨bl_⟩⟩
               ·
                rw [if_neg c29] at H; cases H
              ·
               rw [if_neg c28] at H; cases H
             ·
              rw [if_neg c27] at H
              have c27b0 := decide_eq_false c27
              clear c27
              have H' := A_ H; clear H
              go_wp2
              go_roundg k3
              case measure => have := HJ5.out; have := HK2.out; have := HK3.out; omega
              case rel => exact ⟨(t683), (x13_3), (wrap64 (x14_2 + 1)), es_, H', ⟨by have := HJ5.out; have := HK2.out; have := HK3.out; omega⟩, ⟨kR_ HO_12.out⟩, ⟨by (with_reducible repeat (first | apply Kd.V_alloc | apply Kd.V_drewN | apply Kd.V_drew)); exact Kd.V_mono HO_13.out (fun _ hk => ⟨hk.1, hk.2.1⟩)⟩, ⟨bl_⟩⟩
          ·
           rw [if_neg c22] at H
           have c22b0 := decide_eq_false c22
           clear c22
           simp only [Option.some.injEq, Prod.mk.injEq] at H
           obtain ⟨rfl, rfl⟩ := H
           go_wp2
           go_ret2
           exact ⟨_, ew_, by (with_reducible repeat (first | apply Kd.V_alloc | apply Kd.V_drewN | apply Kd.V_drew)); exact Kd.V_mono HO_13.out (fun _ hk => hk.1), bl_⟩
       ·
        rw [if_neg c16] at H; cases H
      ·
       rw [if_neg c15] at H; cases H
     ·
      rw [if_neg c14] at H; cases H
    ·
     rw [if_neg c13] at H; cases H

/-! ### impl_markedOf: function 73 -/
def impl_markedOf.l0 : Nat → List Int → List Bool → Int → Int → Option (List Int)
  | 0, _, _, _, _ => none
  | k + 1, x3, x7, x8, x9 => if x9 < x8 then (if 0 ≤ x9 then (if x9 < (x7.length : Int) then (if rdOf false x7 x9 = true then (if x3.length < 17592186044416 then (impl_markedOf.l0 k (x3 ++ [x9]) x7 x8 (wrap64 (x9 + 1))) else (none)) else (impl_markedOf.l0 k x3 x7 x8 (wrap64 (x9 + 1)))) else (none)) else (none)) else (some x3)
def impl_markedOf.f (k : Nat) (l0 : List Bool) : Option (List Int) := impl_markedOf.l0 k (([] : List Int)) l0 (l0.length : Int) 0
theorem impl_markedOf.mono_l : ∀ k, (∀ y0 y1 y2 y3, LeO (impl_markedOf.l0 k y0 y1 y2 y3) (impl_markedOf.l0 (k + 1) y0 y1 y2 y3))
  | 0 => fun _ _ _ _ r h => by simp [impl_markedOf.l0] at h
  | k + 1 => by
    have ih0 := impl_markedOf.mono_l k
    · intro y0 y1 y2 y3
      unfold impl_markedOf.l0
      repeat' first | (with_reducible first | exact ih0 _ _ _ _ | exact LeO.refl _ | exact LeO.none _ | refine LeO.ite ?_ ?_ | refine LeO.bind ?_ (fun _ => ?_)) | exact ih0 _ _ _ _ | exact LeO.none _ | refine LeO.ite ?_ ?_ | refine LeO.bind ?_ (fun _ => ?_)
theorem impl_markedOf.mono : ∀ a0 k, LeO (impl_markedOf.f k a0) (impl_markedOf.f (k + 1) a0) := by
 intro a0 k
 have ih0 := impl_markedOf.mono_l k
 unfold impl_markedOf.f
 repeat' first | (with_reducible first | exact ih0 _ _ _ _ | exact LeO.refl _ | exact LeO.none _ | refine LeO.ite ?_ ?_ | refine LeO.bind ?_ (fun _ => ?_)) | exact ih0 _ _ _ _ | exact LeO.none _ | refine LeO.ite ?_ ?_ | refine LeO.bind ?_ (fun _ => ?_)
set_option maxHeartbeats 8000000 in
set_option maxRecDepth 100000 in
theorem impl_markedOf.calls (k : Nat) (A0 : Option Addr) (c0 : Nat) (l0 : List Bool) (r : List Int) (w : World) (hr0 : Kd.C Kd.bool w A0 l0.length l0) (hc0 : l0.length ≤ c0) (h : impl_markedOf.f k l0 = some r) :
 Calls Try.prog 73 #[.slice A0 l0.length c0] w fun e w' => ∃ v0_ : Value, e = .returned (v0_) ∧ Kd.R (Kd.int .i64) 3 w' w.heap.size (fun _ => True) v0_ r ∧ Below w.heap.size w w' := by
 have HR0 := A_ hr0
 have HC0 := A_ hc0
 clear hr0 hc0
 have HB := A_ (Below.refl w.heap.size w)
 have H : (impl_markedOf.l0 k (([] : List Int)) l0 (l0.length : Int) 0) = some r := h
 clear h
 obtain ⟨y690, hy690⟩ : ∃ y_ : List Int, y_ = (([] : List Int)) := ⟨_, rfl⟩
 replace H : (impl_markedOf.l0 k y690 l0 (l0.length : Int) 0) = some r := by first | (rw [hy690]; with_reducible exact H) | (have H2_ := (Option.bind_some _ _).symm.trans H; rw [hy690]; with_reducible exact H2_) | (have H2_ := (Option.bind_some _ _).symm.trans H; with_reducible exact H2_) | with_reducible exact H | (rw [hy690]; exact H) | exact H
 have Ny690 := A_ hy690
 clear hy690
 have H' := A_ H; clear H
 go_enter Try.func73, Try.ntmps73
 go_wp2_with (first | ((with_reducible refine gate_dst (N := 6) rfl ?_); refine Kd.R_lit (Kd.int .i64) _ 3 ?hg (N := 6) ?hd (xs := ([] : List Int)) (inner := []) (ok := fun _ => True) (okp := fun _ => True) ?hr ?hp (fun _ hk => hk) trivial (Below.refl _ _) (Nat.le_refl _) (by simp) ?_; (case hd => rfl); (case hg => rfl); (case hr => first | (go_simp; done) | (go_simp; rfl)); (case hp => exact (Reps.none _ _)); intro v691 w2 ho3 hb hg_ hnew_; clear hg_ hnew_; (first | rw [← Ny690.out] at ho3 | (simp only [Int.reduceToNat] at ho3; rw [← Ny690.out] at ho3)); have n0_ := A_ (Kd.R_lower ho3 (below_size bl_)); have n1_ := A_ (below_step bl_ hb); clear HB; have HO692 := n0_; have HB := n1_; clear n0_ n1_; clear hb ho3))
 go_loopg [3, 9] k (fun kq v3 v9 w' => ∃ (x3_1 : List Int) (x9_1 : Int), v9 = .int .i64 x9_1 ∧ Aside0 (impl_markedOf.l0 kq x3_1 l0 (l0.length : Int) x9_1 = some r) ∧ Aside0 (kq ≤ k) ∧ Aside0 (Kd.R (Kd.int .i64) 3 w' w.heap.size (fun _ => True) v3 x3_1) ∧ Aside0 (Below w.heap.size w w'))
 case atStart => exact ⟨(y690), (0), es_, H', ⟨Nat.le_refl _⟩, ⟨kR_ HO692.out⟩, ⟨bl_⟩⟩
 case round =>
  clear H'
  try clear p2
  obtain ⟨x3_1, x9_1, rfl, HA, HK1, HO_3, HB⟩ := hrel
  cases gk with
  | zero => exact absurd HA.out (by simp [impl_markedOf.l0])
  | succ k1 =>
   have H := HA.out
   clear HA
   simp only [impl_markedOf.l0] at H
   by_cases c4 : x9_1 < (l0.length : Int)
   ·
    rw [if_pos c4] at H
    have c4b0 := decide_eq_true c4
    clear c4
    by_cases c5 : 0 ≤ x9_1
    ·
     rw [if_pos c5] at H
     have c5b0 := decide_eq_true c5
     clear c5
     by_cases c6 : x9_1 < (l0.length : Int)
     ·
      rw [if_pos c6] at H
      have c6b0 := decide_eq_true c6
      clear c6
      obtain ⟨bq7, hbq7⟩ : ∃ b_ : Bool, b_ = (rdOf false l0 x9_1) := ⟨_, rfl⟩
      replace H : (if bq7 = true then (if x3_1.length < 17592186044416 then (impl_markedOf.l0 k1 (x3_1 ++ [x9_1]) l0 (l0.length : Int) (wrap64 (x9_1 + 1))) else (none)) else (impl_markedOf.l0 k1 x3_1 l0 (l0.length : Int) (wrap64 (x9_1 + 1)))) = some r := by rw [← hbq7] at H; exact H
      have Nbq7 := A_ hbq7
      clear hbq7
      by_cases c8 : bq7 = true
      ·
       subst c8
       rw [if_pos rfl] at H
       by_cases c9 : x3_1.length < 17592186044416
       ·
        rw [if_pos c9] at H
        have LMc9 := A_ c9
        clear c9
        obtain ⟨y694, hy694⟩ : ∃ y_ : List Int, y_ = (x3_1 ++ [x9_1]) := ⟨_, rfl⟩
        replace H : (impl_markedOf.l0 k1 y694 l0 (l0.length : Int) (wrap64 (x9_1 + 1))) = some r := by first | (rw [hy694]; with_reducible exact H) | (have H2_ := (Option.bind_some _ _).symm.trans H; rw [hy694]; with_reducible exact H2_) | (have H2_ := (Option.bind_some _ _).symm.trans H; with_reducible exact H2_) | with_reducible exact H | (rw [hy694]; exact H) | exact H
        have Ny694 := A_ hy694
        clear hy694
        have H' := A_ H; clear H
        have p693 : 0 ≤ (x9_1 : Int) := od_
        have q693 : x9_1 < (l0.length : Int) := od_
        obtain ⟨ad693, e693, hx693_0⟩ := Kd.at_bool HR0.out x9_1 p693 q693
        (try rw [← Nbq7.out] at hx693_0)
        cases e693
        try replace hx693_0 := (HB.out.cell (World.block_lt_of_cell? w _ hx693_0)).trans hx693_0
        replace p693 := eq_true p693
        replace q693 := eq_true q693
        go_wp2_with (first | ((with_reducible refine gate_builtin (b := .append) (xs := #[.tmp 15, .tmp 17]) rfl ?_); at_builtin; refine Kd.R_append (Kd.int .i64) (w0 := w) w.heap.size rfl (.tmp 15) (.tmp 17) 23 3 (.int .i64 0) 8 rfl Try.underlying23 info3 rfl (by decide) (by omega) u3 x3_1 x9_1 [.int .i64 x9_1] (fun _ => True) (fun _ => False) rfl rfl ?aP (fun _ hk => hk.elim) ?aF ?aO ?aB ?aS ?aL ?_; (case aP => exact rfl); (case aB => exact bl_); (case aF => exact (fun _ _ => trivial)); (case aO => exact (kR_ HO_3.out)); (case aS => exact (below_size bl_)); (case aL => have := LMc9.out; omega); intro v695 w10 ho hb hg hat; rw [← Ny694.out] at ho; have n0_ := A_ (hb); have n1_ := A_ (ho); clear HB; clear HO_3; have HB := n0_; have HO696 := n1_; clear n0_ n1_; clear ho hb hg hat))
        go_roundg k1
        case measure => have := HK1.out; omega
        case rel => exact ⟨(y694), (wrap64 (x9_1 + 1)), es_, H', ⟨by have := HK1.out; omega⟩, ⟨kR_ HO696.out⟩, ⟨bl_⟩⟩
       ·
        rw [if_neg c9] at H; cases H
      ·
       replace c8 := Bool.eq_false_iff.mpr c8
       subst c8
       rw [if_neg (show ¬ (false = true) by decide)] at H
       have H' := A_ H; clear H
       have p693 : 0 ≤ (x9_1 : Int) := od_
       have q693 : x9_1 < (l0.length : Int) := od_
       obtain ⟨ad693, e693, hx693_0⟩ := Kd.at_bool HR0.out x9_1 p693 q693
       (try rw [← Nbq7.out] at hx693_0)
       cases e693
       try replace hx693_0 := (HB.out.cell (World.block_lt_of_cell? w _ hx693_0)).trans hx693_0
       replace p693 := eq_true p693
       replace q693 := eq_true q693
       go_wp2
       go_roundg k1
       case measure => have := HK1.out; omega
       case rel => exact ⟨(x3_1), (wrap64 (x9_1 + 1)), es_, H', ⟨by have := HK1.out; omega⟩, ⟨kR_ HO_3.out⟩, ⟨bl_⟩⟩
     ·
      rw [if_neg c6] at H; cases H
    ·
     rw [if_neg c5] at H; cases H
   ·
    rw [if_neg c4] at H
    have c4b0 := decide_eq_false c4
    clear c4
    obtain rfl := Option.some.inj H
    go_wp2
    go_ret
    exact ⟨_, ew_, kR_ HO_3.out, bl_⟩

end Go.Proofs.Ytebjiooojkhkpaa.X
