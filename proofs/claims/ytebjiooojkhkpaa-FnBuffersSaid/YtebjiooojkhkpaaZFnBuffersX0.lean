-- Shaken out of the printed texts.
import Derived.Test.YtebjiooojkhkpaaZFnBuffersWBX0
import Derived.Test.YtebjiooojkhkpaaZFnBuffersQ
namespace Go.Proofs.Ytebjiooojkhkpaa.X
open Go.RowKit Go.Proofs.YtebjiooojkhkpaaW.PrintWords Go.Proofs.YtebjiooojkhkpaaW.PrintLast Go.Proofs.YtebjiooojkhkpaaW.PrintMore
attribute [local go_sem] max2_int min2_int max_two min_two max_three min_three max_four min_four   -- for this text's walks alone
set_option linter.unusedVariables false
set_option linter.unusedSimpArgs false

/-! ### spec_dlBuffer: function 53 -/
def spec_dlBuffer.f (l0 : List (List Int)) (l1 : List Int) (a2 : Int) (a3 : Int) (a4 : Int) : Option (Int) := if 0 ≤ a3 then (if a3 < (l1.length : Int) then (if 0 ≤ a4 then (if a4 < (l1.length : Int) then (if a3 < (l0.length : Int) then (if a4 < ((rd_L1 l0 a3).length : Int) then (some (wrap64 ((wrap64 ((wrap64 ((rd l1 a3) + a2)) - (rd l1 a4))) - (rd (rd_L1 l0 a3) a4)))) else (none)) else (none)) else (none)) else (none)) else (none)) else (none)
set_option maxHeartbeats 8000000 in
set_option maxRecDepth 100000 in
theorem spec_dlBuffer.calls (A0 : Option Addr) (c0 : Nat) (l0 : List (List Int)) (A1 : Option Addr) (c1 : Nat) (l1 : List Int) (a2 : Int) (a3 : Int) (a4 : Int) (r : Int) (w : World) (hr0 : Kd.C (Kd.slice 3 (Kd.int .i64)) w A0 l0.length l0) (hc0 : l0.length ≤ c0) (hr1 : Kd.C (Kd.int .i64) w A1 l1.length l1) (hc1 : l1.length ≤ c1) (h : spec_dlBuffer.f l0 l1 a2 a3 a4 = some r) :
 Calls Try.prog 53 #[.slice A0 l0.length c0, .slice A1 l1.length c1, .int .i64 a2, .int .i64 a3, .int .i64 a4] w fun e w' => e = .returned (.int .i64 r) ∧ Drawn0 w w' := by
 have HR0 := A_ hr0
 have HC0 := A_ hc0
 clear hr0 hc0
 have HR1 := A_ hr1
 have HC1 := A_ hc1
 clear hr1 hc1
 have H : (if 0 ≤ a3 then (if a3 < (l1.length : Int) then (if 0 ≤ a4 then (if a4 < (l1.length : Int) then (if a3 < (l0.length : Int) then (if a4 < ((rd_L1 l0 a3).length : Int) then (some (wrap64 ((wrap64 ((wrap64 ((rd l1 a3) + a2)) - (rd l1 a4))) - (rd (rd_L1 l0 a3) a4)))) else (none)) else (none)) else (none)) else (none)) else (none)) else (none)) = some r := h
 clear h
 by_cases c6 : 0 ≤ a3
 ·
  rw [if_pos c6] at H
  have c6b0 := decide_eq_true c6
  clear c6
  by_cases c7 : a3 < (l1.length : Int)
  ·
   rw [if_pos c7] at H
   have c7b0 := decide_eq_true c7
   clear c7
   by_cases c8 : 0 ≤ a4
   ·
    rw [if_pos c8] at H
    have c8b0 := decide_eq_true c8
    clear c8
    by_cases c9 : a4 < (l1.length : Int)
    ·
     rw [if_pos c9] at H
     have c9b0 := decide_eq_true c9
     clear c9
     by_cases c10 : a3 < (l0.length : Int)
     ·
      rw [if_pos c10] at H
      have c10b0 := decide_eq_true c10
      clear c10
      by_cases c11 : a4 < ((rd_L1 l0 a3).length : Int)
      ·
       rw [if_pos c11] at H
       have c11b0 := decide_eq_true c11
       clear c11
       obtain rfl := Option.some.inj H
       have p103 : 0 ≤ (a3 : Int) := od_
       have q103 : a3 < (l1.length : Int) := od_
       obtain ⟨ad103, e103, hx103_0⟩ := Kd.at_int HR1.out a3 p103 q103
       cases e103
       replace p103 := eq_true p103
       replace q103 := eq_true q103
       have p104 : 0 ≤ (a4 : Int) := od_
       have q104 : a4 < (l1.length : Int) := od_
       obtain ⟨ad104, e104, hx104_0⟩ := Kd.at_int HR1.out a4 p104 q104
       obtain rfl : ad103 = ad104 := (by injection e104)
       replace p104 := eq_true p104
       replace q104 := eq_true q104
       have p105 : 0 ≤ (a3 : Int) := od_
       have q105 : a3 < (l0.length : Int) := od_
       obtain ⟨ad105, A105_0, c105_0, e105, hx105_0, hl105_0, hi105_0⟩ := at_L1 HR0.out a3 p105 q105
       cases e105
       have HR105_0 := A_ hi105_0
       have HC105_0 := A_ hl105_0
       clear hi105_0 hl105_0
       replace p105 := eq_true p105
       replace q105 := eq_true q105
       have p106 : 0 ≤ (a4 : Int) := od_
       have q106 : a4 < ((rd_L1 l0 a3).length : Int) := od_
       obtain ⟨ad106, e106, hx106_0⟩ := Kd.at_int HR105_0.out a4 p106 q106
       cases e106
       replace p106 := eq_true p106
       replace q106 := eq_true q106
       go_enter Try.func53, Try.ntmps53
       go_wp2
       repeat (go_quiet (fail); try go_wp2)
       go_ret
       exact ⟨es_, by repeat (first | exact Drawn0.refl _ | apply Drawn0.step)⟩
      ·
       rw [if_neg c11] at H; cases H
     ·
      rw [if_neg c10] at H; cases H
    ·
     rw [if_neg c9] at H; cases H
   ·
    rw [if_neg c8] at H; cases H
  ·
   rw [if_neg c7] at H; cases H
 ·
  rw [if_neg c6] at H; cases H

/-! ### spec_l1In: function 66 -/
def spec_l1In.f (a0 : Int) (a1 : Int) (a2 : Int) : Option (Bool) := if a0 ≥ a1 then (some (decide (a0 ≤ a2))) else (some false)
set_option maxHeartbeats 8000000 in
set_option maxRecDepth 100000 in
theorem spec_l1In.calls (a0 : Int) (a1 : Int) (a2 : Int) (r : Bool) (w : World) (h : spec_l1In.f a0 a1 a2 = some r) :
 Calls Try.prog 66 #[.int .i64 a0, .int .i64 a1, .int .i64 a2] w fun e w' => e = .returned (.bool r) ∧ Drawn0 w w' := by
 have H : (if a0 ≥ a1 then (some (decide (a0 ≤ a2))) else (some false)) = some r := h
 clear h
 by_cases c4 : a0 ≥ a1
 ·
  rw [if_pos c4] at H
  have c4b0 := decide_eq_true c4
  clear c4
  obtain rfl := Option.some.inj H
  go_enter Try.func66, Try.ntmps66
  go_wp2
  go_ret
  exact ⟨es_, by repeat (first | exact Drawn0.refl _ | apply Drawn0.step)⟩
 ·
  rw [if_neg c4] at H
  have c4b0 := decide_eq_false c4
  clear c4
  obtain rfl := Option.some.inj H
  go_enter Try.func66, Try.ntmps66
  go_wp2
  go_ret
  exact ⟨es_, by repeat (first | exact Drawn0.refl _ | apply Drawn0.step)⟩

/-! ### spec_nuGood: function 115 -/
def spec_nuGood.f (a0 : Int) : Option (Bool) := if a0 = 1000000000 then (some true) else ((spec_l1In.f a0 (-1000000) 1000000).bind fun t107 => (some t107))
set_option maxHeartbeats 8000000 in
set_option maxRecDepth 100000 in
theorem spec_nuGood.calls (a0 : Int) (r : Bool) (w : World) (h : spec_nuGood.f a0 = some r) :
 Calls Try.prog 115 #[.int .i64 a0] w fun e w' => e = .returned (.bool r) ∧ Drawn0 w w' := by
 have H : (if a0 = 1000000000 then (some true) else ((spec_l1In.f a0 (-1000000) 1000000).bind fun t107 => (some t107))) = some r := h
 clear h
 by_cases c2 : a0 = 1000000000
 ·
  rw [if_pos c2] at H
  have c2b0 : (a0 == 1000000000) = true := beq_iff_eq.mpr c2
  have c2b1 : (a0 != 1000000000) = false := bne_eq_false_iff_eq.mpr c2
  clear c2
  obtain rfl := Option.some.inj H
  go_enter Try.func115, Try.ntmps115
  go_wp2
  go_ret
  exact ⟨es_, by repeat (first | exact Drawn0.refl _ | apply Drawn0.step)⟩
 ·
  rw [if_neg c2] at H
  have c2b0 : (a0 == 1000000000) = false := beq_eq_false_iff_ne.mpr c2
  have c2b1 : (a0 != 1000000000) = true := bne_iff_ne.mpr c2
  obtain ⟨t107, A30, H⟩ := Option.bind_eq_some_iff.mp H
  try dsimp only at H
  have A3 := A_ A30; clear A30
  obtain rfl := Option.some.inj H
  go_enter Try.func115, Try.ntmps115
  go_wp2_with (first | (go_at_call 66; (with_reducible refine (spec_l1In.calls a0 (-1000000) 1000000 t107 _ A3.out).mono ?_); rintro e w' ⟨rfl, ⟨nd, rfl⟩⟩))
  go_ret
  exact ⟨es_, by repeat (first | exact Drawn0.refl _ | apply Drawn0.step)⟩

/-! ### spec_mxVector: function 113 -/
def spec_mxVector.l0 : Nat → List Int → List Int → Int → Int → Option (Bool)
  | 0, _, _, _, _ => none
  | k + 1, x0, x5, x6, x7 => if x7 < x6 then (if 0 ≤ x7 then (if x7 < (x5.length : Int) then ((spec_nuGood.f (rd x5 x7)).bind fun t109 => (if t109 = true then (spec_mxVector.l0 k x0 x5 x6 (wrap64 (x7 + 1))) else (some false))) else (none)) else (none)) else ((spec_l1In.f (x0.length : Int) 1 6).bind fun t110 => (some t110))
def spec_mxVector.f (k : Nat) (l0 : List Int) : Option (Bool) := spec_mxVector.l0 k l0 l0 (l0.length : Int) 0
theorem spec_mxVector.mono_l : ∀ k, (∀ y0 y1 y2 y3, LeO (spec_mxVector.l0 k y0 y1 y2 y3) (spec_mxVector.l0 (k + 1) y0 y1 y2 y3))
  | 0 => fun _ _ _ _ r h => by simp [spec_mxVector.l0] at h
  | k + 1 => by
    have ih0 := spec_mxVector.mono_l k
    · intro y0 y1 y2 y3
      unfold spec_mxVector.l0
      repeat' first | (with_reducible first | exact ih0 _ _ _ _ | exact LeO.refl _ | exact LeO.none _ | refine LeO.ite ?_ ?_ | refine LeO.bind ?_ (fun _ => ?_)) | exact ih0 _ _ _ _ | exact LeO.none _ | refine LeO.ite ?_ ?_ | refine LeO.bind ?_ (fun _ => ?_)
theorem spec_mxVector.mono : ∀ a0 k, LeO (spec_mxVector.f k a0) (spec_mxVector.f (k + 1) a0) := by
 intro a0 k
 have ih0 := spec_mxVector.mono_l k
 unfold spec_mxVector.f
 repeat' first | (with_reducible first | exact ih0 _ _ _ _ | exact LeO.refl _ | exact LeO.none _ | refine LeO.ite ?_ ?_ | refine LeO.bind ?_ (fun _ => ?_)) | exact ih0 _ _ _ _ | exact LeO.none _ | refine LeO.ite ?_ ?_ | refine LeO.bind ?_ (fun _ => ?_)
set_option maxHeartbeats 8000000 in
set_option maxRecDepth 100000 in
theorem spec_mxVector.calls (k : Nat) (A0 : Option Addr) (c0 : Nat) (l0 : List Int) (r : Bool) (w : World) (hr0 : Kd.C (Kd.int .i64) w A0 l0.length l0) (hc0 : l0.length ≤ c0) (h : spec_mxVector.f k l0 = some r) :
 Calls Try.prog 113 #[.slice A0 l0.length c0] w fun e w' => e = .returned (.bool r) ∧ Drawn0 w w' := by
 have HR0 := A_ hr0
 have HC0 := A_ hc0
 clear hr0 hc0
 have H : (spec_mxVector.l0 k l0 l0 (l0.length : Int) 0) = some r := h
 clear h
 have H' := A_ H; clear H
 go_enter Try.func113, Try.ntmps113
 go_wp2
 go_loopg [7] k (fun kq v7 w' => ∃ (x7_1 : Int), v7 = .int .i64 x7_1 ∧ Aside0 (spec_mxVector.l0 kq l0 l0 (l0.length : Int) x7_1 = some r) ∧ Aside0 (kq ≤ k) ∧ Drawn0 w w')
 case atStart => exact ⟨(0), es_, H', ⟨Nat.le_refl _⟩, by repeat (first | exact Drawn0.refl _ | apply Drawn0.step)⟩
 case round =>
  clear H'
  try clear c1
  obtain ⟨x7_1, rfl, HA, HK1, ⟨m1, rfl⟩⟩ := hrel
  cases gk with
  | zero => exact absurd HA.out (by simp [spec_mxVector.l0])
  | succ k1 =>
   have H := HA.out
   clear HA
   simp only [spec_mxVector.l0] at H
   by_cases c2 : x7_1 < (l0.length : Int)
   ·
    rw [if_pos c2] at H
    have c2b0 := decide_eq_true c2
    clear c2
    by_cases c3 : 0 ≤ x7_1
    ·
     rw [if_pos c3] at H
     have c3b0 := decide_eq_true c3
     clear c3
     by_cases c4 : x7_1 < (l0.length : Int)
     ·
      rw [if_pos c4] at H
      have c4b0 := decide_eq_true c4
      clear c4
      obtain ⟨t109, A50, H⟩ := Option.bind_eq_some_iff.mp H
      try dsimp only at H
      have A5 := A_ A50; clear A50
      by_cases c6 : t109 = true
      ·
       subst c6
       rw [if_pos rfl] at H
       have H' := A_ H; clear H
       have p108 : 0 ≤ (x7_1 : Int) := od_
       have q108 : x7_1 < (l0.length : Int) := od_
       obtain ⟨ad108, e108, hx108_0⟩ := Kd.at_int HR0.out x7_1 p108 q108
       cases e108
       replace p108 := eq_true p108
       replace q108 := eq_true q108
       go_wp2_with (first | ((with_reducible refine gate_callee (f := 115) rfl ?_); refine goesL_ (some 12) rfl rfl Try.func115 kr_ rfl #[.int .i64 (rd l0 x7_1)] rfl am_ ?_; (with_reducible refine (spec_nuGood.calls (rd l0 x7_1) true _ A5.out).mono ?_); rintro e w' ⟨rfl, ⟨nd, rfl⟩⟩; refine ⟨_, rfl, ?_⟩))
       go_roundg k1
       case measure => have := HK1.out; omega
       case rel => exact ⟨(wrap64 (x7_1 + 1)), es_, H', ⟨by have := HK1.out; omega⟩, by repeat (first | exact Drawn0.refl _ | apply Drawn0.step)⟩
      ·
       replace c6 := Bool.eq_false_iff.mpr c6
       subst c6
       rw [if_neg (show ¬ (false = true) by decide)] at H
       obtain rfl := Option.some.inj H
       have p108 : 0 ≤ (x7_1 : Int) := od_
       have q108 : x7_1 < (l0.length : Int) := od_
       obtain ⟨ad108, e108, hx108_0⟩ := Kd.at_int HR0.out x7_1 p108 q108
       cases e108
       replace p108 := eq_true p108
       replace q108 := eq_true q108
       go_wp2_with (first | ((with_reducible refine gate_callee (f := 115) rfl ?_); refine goesL_ (some 12) rfl rfl Try.func115 kr_ rfl #[.int .i64 (rd l0 x7_1)] rfl am_ ?_; (with_reducible refine (spec_nuGood.calls (rd l0 x7_1) false _ A5.out).mono ?_); rintro e w' ⟨rfl, ⟨nd, rfl⟩⟩; refine ⟨_, rfl, ?_⟩))
       go_ret
       exact ⟨es_, by repeat (first | exact Drawn0.refl _ | apply Drawn0.step)⟩
     ·
      rw [if_neg c4] at H; cases H
    ·
     rw [if_neg c3] at H; cases H
   ·
    rw [if_neg c2] at H
    have c2b0 := decide_eq_false c2
    clear c2
    obtain ⟨t110, A70, H⟩ := Option.bind_eq_some_iff.mp H
    try dsimp only at H
    have A7 := A_ A70; clear A70
    obtain rfl := Option.some.inj H
    go_wp2_with (first | ((with_reducible refine gate_callee (f := 66) rfl ?_); refine goesL_ (some 17) rfl rfl Try.func66 kr_ rfl #[.int .i64 (l0.length : Int), .int .i64 1, .int .i64 6] rfl am_ ?_; (with_reducible refine (spec_l1In.calls (l0.length : Int) 1 6 t110 _ A7.out).mono ?_); rintro e w' ⟨rfl, ⟨nd, rfl⟩⟩; refine ⟨_, rfl, ?_⟩))
    go_ret
    exact ⟨es_, by repeat (first | exact Drawn0.refl _ | apply Drawn0.step)⟩
/-! ### spec_mxGood: function 109 -/
mutual
def spec_mxGood.j0 : Nat → List (List Int) → Bool → Option (Bool)
  | 0, _, _ => none
  | k + 1, x0, x16 => if x16 = true then (some false) else (spec_mxGood.l0 k x0 x0 (x0.length : Int) 0)
def spec_mxGood.l0 : Nat → List (List Int) → List (List Int) → Int → Int → Option (Bool)
  | 0, _, _, _, _ => none
  | k + 1, x0, x17, x18, x19 => if x19 < x18 then (if 0 ≤ x19 then (if x19 < (x17.length : Int) then (if 0 < (x0.length : Int) then (if ((rd_L1 x17 x19).length : Int) = ((rd_L1 x0 0).length : Int) then ((spec_mxVector.f k (rd_L1 x17 x19)).bind fun t116 => (if t116 = true then (spec_mxGood.l0 k x0 x17 x18 (wrap64 (x19 + 1))) else (some false))) else (some false)) else (none)) else (none)) else (none)) else (some true)
end
def spec_mxGood.f (k : Nat) (l0 : List (List Int)) : Option (Bool) := (spec_l1In.f (l0.length : Int) 1 6).bind fun t111 => (if t111 = true then (if 0 < (l0.length : Int) then ((spec_l1In.f ((rd_L1 l0 0).length : Int) 1 6).bind fun t113 => (spec_mxGood.j0 k l0 (!t113))) else (none)) else (spec_mxGood.j0 k l0 true))
theorem spec_mxGood.mono_l : ∀ k, (∀ y0 y1, LeO (spec_mxGood.j0 k y0 y1) (spec_mxGood.j0 (k + 1) y0 y1)) ∧ (∀ y0 y1 y2 y3, LeO (spec_mxGood.l0 k y0 y1 y2 y3) (spec_mxGood.l0 (k + 1) y0 y1 y2 y3))
  | 0 => ⟨fun _ _ r h => by simp [spec_mxGood.j0] at h, fun _ _ _ _ r h => by simp [spec_mxGood.l0] at h⟩
  | k + 1 => by
    obtain ⟨ih0, ih1⟩ := spec_mxGood.mono_l k
    refine ⟨?_, ?_⟩
    all_goals (intros; first | unfold spec_mxGood.j0 | unfold spec_mxGood.l0)
    all_goals (repeat' first | (with_reducible first | exact ih0 _ _ | exact ih1 _ _ _ _ | exact spec_mxVector.mono _ _ | exact LeO.refl _ | exact LeO.none _ | refine LeO.ite ?_ ?_ | refine LeO.bind ?_ (fun _ => ?_)) | exact ih0 _ _ | exact ih1 _ _ _ _ | exact spec_mxVector.mono _ _ | exact LeO.none _ | refine LeO.ite ?_ ?_ | refine LeO.bind ?_ (fun _ => ?_))
theorem spec_mxGood.mono : ∀ a0 k, LeO (spec_mxGood.f k a0) (spec_mxGood.f (k + 1) a0) := by
 intro a0 k
 obtain ⟨ih0, ih1⟩ := spec_mxGood.mono_l k
 unfold spec_mxGood.f
 repeat' first | (with_reducible first | exact ih0 _ _ | exact ih1 _ _ _ _ | exact spec_mxVector.mono _ _ | exact LeO.refl _ | exact LeO.none _ | refine LeO.ite ?_ ?_ | refine LeO.bind ?_ (fun _ => ?_)) | exact ih0 _ _ | exact ih1 _ _ _ _ | exact spec_mxVector.mono _ _ | exact LeO.none _ | refine LeO.ite ?_ ?_ | refine LeO.bind ?_ (fun _ => ?_)
set_option maxHeartbeats 8000000 in
set_option maxRecDepth 100000 in
theorem spec_mxGood.calls (k : Nat) (A0 : Option Addr) (c0 : Nat) (l0 : List (List Int)) (r : Bool) (w : World) (hr0 : Kd.C (Kd.slice 3 (Kd.int .i64)) w A0 l0.length l0) (hc0 : l0.length ≤ c0) (h : spec_mxGood.f k l0 = some r) :
 Calls Try.prog 109 #[.slice A0 l0.length c0] w fun e w' => e = .returned (.bool r) ∧ Drawn0 w w' := by
 have HR0 := A_ hr0
 have HC0 := A_ hc0
 clear hr0 hc0
 have H : ((spec_l1In.f (l0.length : Int) 1 6).bind fun t111 => (if t111 = true then (if 0 < (l0.length : Int) then ((spec_l1In.f ((rd_L1 l0 0).length : Int) 1 6).bind fun t113 => (spec_mxGood.j0 k l0 (!t113))) else (none)) else (spec_mxGood.j0 k l0 true))) = some r := h
 clear h
 have HC2 := A_ H
 clear H
 go_enter Try.func109, Try.ntmps109
 go_upto_region 1 with (fail)
 go_cut [16] (fun v16 wc => ∃ (kq : Nat) (x16_1 : Bool), v16 = .bool x16_1 ∧ Aside0 (spec_mxGood.j0 kq l0 x16_1 = some r) ∧ Aside0 (kq ≤ k) ∧ Drawn0 w wc)
 case first =>
  have H := HC2.out
  clear HC2
  obtain ⟨t111, A30, H⟩ := Option.bind_eq_some_iff.mp H
  try dsimp only at H
  have A3 := A_ A30; clear A30
  by_cases c4 : t111 = true
  ·
   subst c4
   rw [if_pos rfl] at H
   by_cases c5 : 0 < (l0.length : Int)
   ·
    rw [if_pos c5] at H
    have c5b0 := decide_eq_true c5
    have c5b1 : decide (0 < l0.length) = true := decide_eq_true (by omega)
    clear c5
    (first | rw [c5b0] | (simp only [i64_w, i32_w]; rw [c5b0]) | skip)
    obtain ⟨t113, A60, H⟩ := Option.bind_eq_some_iff.mp H
    try dsimp only at H
    have A6 := A_ A60; clear A60
    have H' := A_ H; clear H
    go_wp2_with (first | ((with_reducible refine gate_callee (f := 66) rfl ?_); refine goesL_ (some 7) rfl rfl Try.func66 kr_ rfl #[.int .i64 (l0.length : Int), .int .i64 1, .int .i64 6] rfl am_ ?_; (with_reducible refine (spec_l1In.calls (l0.length : Int) 1 6 true _ A3.out).mono ?_); rintro e w' ⟨rfl, ⟨nd, rfl⟩⟩; refine ⟨_, rfl, ?_⟩; have p112 : 0 ≤ (0 : Int) := (by omega); have q112 : 0 < (l0.length : Int) := od_; obtain ⟨ad112, A112_0, c112_0, e112, hx112_0, hl112_0, hi112_0⟩ := at_L1 HR0.out 0 p112 q112; cases e112; have qi112 : (0 < l0.length) = True := eq_true (by omega); (try rw [show ((0 : Int)).toNat = 0 from rfl] at hx112_0); (try rw [Addr.add_zero'] at hx112_0); have HR112_0 := A_ hi112_0; have HC112_0 := A_ hl112_0; clear hi112_0 hl112_0; replace p112 := eq_true p112; replace q112 := eq_true q112) | (go_at_call 66; (with_reducible refine (spec_l1In.calls ((rd_L1 l0 0).length : Int) 1 6 t113 _ A6.out).mono ?_); rintro e w' ⟨rfl, ⟨nd, rfl⟩⟩))
    go_meet
    case rel => exact ⟨_, (!t113), es_, H', ⟨by first | omega | exact Nat.le_refl _⟩, by repeat (first | exact Drawn0.refl _ | apply Drawn0.step)⟩
   ·
    rw [if_neg c5] at H; cases H
  ·
   replace c4 := Bool.eq_false_iff.mpr c4
   subst c4
   rw [if_neg (show ¬ (false = true) by decide)] at H
   have H' := A_ H; clear H
   go_wp2_with (first | ((with_reducible refine gate_callee (f := 66) rfl ?_); refine goesL_ (some 7) rfl rfl Try.func66 kr_ rfl #[.int .i64 (l0.length : Int), .int .i64 1, .int .i64 6] rfl am_ ?_; (with_reducible refine (spec_l1In.calls (l0.length : Int) 1 6 false _ A3.out).mono ?_); rintro e w' ⟨rfl, ⟨nd, rfl⟩⟩; refine ⟨_, rfl, ?_⟩))
   go_meet
   case rel => exact ⟨_, (true), es_, H', ⟨by first | omega | exact Nat.le_refl _⟩, by repeat (first | exact Drawn0.refl _ | apply Drawn0.step)⟩
 case rest =>
  clear HC2
  (try clear c1); (try clear p1); (try clear q1); (try clear hx1); (try clear qi1); (try clear p2); (try clear c4); (try clear c5); (try clear c5b0); (try clear c5b1); (try clear c6); (try clear hx112_0); (try clear p112); (try clear q112)
  obtain ⟨kq, x16_1, rfl, HA, HJ1, ⟨mc1, rfl⟩⟩ := hcut
  cases kq with
  | zero => exact absurd HA.out (by simp [spec_mxGood.j0])
  | succ kj1 =>
   have H := HA.out
   clear HA
   simp only [spec_mxGood.j0] at H
   by_cases c7 : x16_1 = true
   ·
    subst c7
    rw [if_pos rfl] at H
    obtain rfl := Option.some.inj H
    go_wp2
    go_ret
    exact ⟨es_, by repeat (first | exact Drawn0.refl _ | apply Drawn0.step)⟩
   ·
    replace c7 := Bool.eq_false_iff.mpr c7
    subst c7
    rw [if_neg (show ¬ (false = true) by decide)] at H
    have H' := A_ H; clear H
    go_wp2
    go_loopg [19] kj1 (fun kq v19 w' => ∃ (x19_2 : Int), v19 = .int .i64 x19_2 ∧ Aside0 (spec_mxGood.l0 kq l0 l0 (l0.length : Int) x19_2 = some r) ∧ Aside0 (kq ≤ kj1) ∧ Drawn0 w w')
    case atStart => exact ⟨(0), es_, H', ⟨Nat.le_refl _⟩, by repeat (first | exact Drawn0.refl _ | apply Drawn0.step)⟩
    case round =>
     clear H'
     (try clear c1); (try clear p1); (try clear q1); (try clear hx1); (try clear qi1); (try clear p2); (try clear c4); (try clear c5); (try clear c5b0); (try clear c5b1); (try clear c6); (try clear c7); (try clear hx112_0); (try clear p1); (try clear p112); (try clear p2); (try clear q1); (try clear q112)
     obtain ⟨x19_2, rfl, HA, HK2, ⟨m2, rfl⟩⟩ := hrel
     cases gk with
     | zero => exact absurd HA.out (by simp [spec_mxGood.l0])
     | succ k2 =>
      have H := HA.out
      clear HA
      simp only [spec_mxGood.l0] at H
      by_cases c8 : x19_2 < (l0.length : Int)
      ·
       rw [if_pos c8] at H
       have c8b0 := decide_eq_true c8
       clear c8
       by_cases c9 : 0 ≤ x19_2
       ·
        rw [if_pos c9] at H
        have c9b0 := decide_eq_true c9
        clear c9
        by_cases c10 : x19_2 < (l0.length : Int)
        ·
         rw [if_pos c10] at H
         have c10b0 := decide_eq_true c10
         clear c10
         by_cases c11 : 0 < (l0.length : Int)
         ·
          rw [if_pos c11] at H
          have c11b0 := decide_eq_true c11
          have c11b1 : decide (0 < l0.length) = true := decide_eq_true (by omega)
          clear c11
          by_cases c12 : ((rd_L1 l0 x19_2).length : Int) = ((rd_L1 l0 0).length : Int)
          ·
           rw [if_pos c12] at H
           have c12b0 : (((rd_L1 l0 x19_2).length : Int) == ((rd_L1 l0 0).length : Int)) = true := beq_iff_eq.mpr c12
           have c12b1 : (((rd_L1 l0 x19_2).length : Int) != ((rd_L1 l0 0).length : Int)) = false := bne_eq_false_iff_eq.mpr c12
           have c12b2 : ((rd_L1 l0 x19_2).length == (rd_L1 l0 0).length) = true := by first | simpa using c12 | (simp at c12 ⊢; omega)
           clear c12
           obtain ⟨t116, A130, H⟩ := Option.bind_eq_some_iff.mp H
           try dsimp only at H
           have A13 := A_ A130; clear A130
           by_cases c14 : t116 = true
           ·
            subst c14
            rw [if_pos rfl] at H
            have H' := A_ H; clear H
            have p114 : 0 ≤ (x19_2 : Int) := od_
            have q114 : x19_2 < (l0.length : Int) := od_
            obtain ⟨ad114, A114_0, c114_0, e114, hx114_0, hl114_0, hi114_0⟩ := at_L1 HR0.out x19_2 p114 q114
            cases e114
            have HR114_0 := A_ hi114_0
            have HC114_0 := A_ hl114_0
            clear hi114_0 hl114_0
            replace p114 := eq_true p114
            replace q114 := eq_true q114
            have p115 : 0 ≤ (0 : Int) := (by omega)
            have q115 : 0 < (l0.length : Int) := od_
            obtain ⟨ad115, A115_0, c115_0, e115, hx115_0, hl115_0, hi115_0⟩ := at_L1 HR0.out 0 p115 q115
            obtain rfl : ad114 = ad115 := (by injection e115)
            have qi115 : (0 < l0.length) = True := eq_true (by omega)
            (try rw [show ((0 : Int)).toNat = 0 from rfl] at hx115_0)
            (try rw [Addr.add_zero'] at hx115_0)
            have HR115_0 := A_ hi115_0
            have HC115_0 := A_ hl115_0
            clear hi115_0 hl115_0
            replace p115 := eq_true p115
            replace q115 := eq_true q115
            go_wp2_with (first | (go_at_call 113; (with_reducible refine (spec_mxVector.calls k2 _ _ (rd_L1 l0 x19_2) true _ ?side1 ?side2 A13.out).mono ?_); (case side1 => exact kC_ HR114_0.out); (case side2 => exact HC114_0.out); rintro e w' ⟨rfl, ⟨nd, rfl⟩⟩))
            go_roundg k2
            case measure => have := HJ1.out; have := HK2.out; omega
            case rel => exact ⟨(wrap64 (x19_2 + 1)), es_, H', ⟨by have := HJ1.out; have := HK2.out; omega⟩, by repeat (first | exact Drawn0.refl _ | apply Drawn0.step)⟩
           ·
            replace c14 := Bool.eq_false_iff.mpr c14
            subst c14
            rw [if_neg (show ¬ (false = true) by decide)] at H
            obtain rfl := Option.some.inj H
            have p114 : 0 ≤ (x19_2 : Int) := od_
            have q114 : x19_2 < (l0.length : Int) := od_
            obtain ⟨ad114, A114_0, c114_0, e114, hx114_0, hl114_0, hi114_0⟩ := at_L1 HR0.out x19_2 p114 q114
            cases e114
            have HR114_0 := A_ hi114_0
            have HC114_0 := A_ hl114_0
            clear hi114_0 hl114_0
            replace p114 := eq_true p114
            replace q114 := eq_true q114
            have p115 : 0 ≤ (0 : Int) := (by omega)
            have q115 : 0 < (l0.length : Int) := od_
            obtain ⟨ad115, A115_0, c115_0, e115, hx115_0, hl115_0, hi115_0⟩ := at_L1 HR0.out 0 p115 q115
            obtain rfl : ad114 = ad115 := (by injection e115)
            have qi115 : (0 < l0.length) = True := eq_true (by omega)
            (try rw [show ((0 : Int)).toNat = 0 from rfl] at hx115_0)
            (try rw [Addr.add_zero'] at hx115_0)
            have HR115_0 := A_ hi115_0
            have HC115_0 := A_ hl115_0
            clear hi115_0 hl115_0
            replace p115 := eq_true p115
            replace q115 := eq_true q115
            go_wp2_with (first | (go_at_call 113; (with_reducible refine (spec_mxVector.calls k2 _ _ (rd_L1 l0 x19_2) false _ ?side1 ?side2 A13.out).mono ?_); (case side1 => exact kC_ HR114_0.out); (case side2 => exact HC114_0.out); rintro e w' ⟨rfl, ⟨nd, rfl⟩⟩))
            go_ret
            exact ⟨es_, by repeat (first | exact Drawn0.refl _ | apply Drawn0.step)⟩
          ·
           rw [if_neg c12] at H
           have c12b0 : (((rd_L1 l0 x19_2).length : Int) == ((rd_L1 l0 0).length : Int)) = false := beq_eq_false_iff_ne.mpr c12
           have c12b1 : (((rd_L1 l0 x19_2).length : Int) != ((rd_L1 l0 0).length : Int)) = true := bne_iff_ne.mpr c12
           have c12b2 : ((rd_L1 l0 x19_2).length == (rd_L1 l0 0).length) = false := by first | simpa using c12 | (simp at c12 ⊢; omega)
           obtain rfl := Option.some.inj H
           have p114 : 0 ≤ (x19_2 : Int) := od_
           have q114 : x19_2 < (l0.length : Int) := od_
           obtain ⟨ad114, A114_0, c114_0, e114, hx114_0, hl114_0, hi114_0⟩ := at_L1 HR0.out x19_2 p114 q114
           cases e114
           have HR114_0 := A_ hi114_0
           have HC114_0 := A_ hl114_0
           clear hi114_0 hl114_0
           replace p114 := eq_true p114
           replace q114 := eq_true q114
           have p115 : 0 ≤ (0 : Int) := (by omega)
           have q115 : 0 < (l0.length : Int) := od_
           obtain ⟨ad115, A115_0, c115_0, e115, hx115_0, hl115_0, hi115_0⟩ := at_L1 HR0.out 0 p115 q115
           obtain rfl : ad114 = ad115 := (by injection e115)
           have qi115 : (0 < l0.length) = True := eq_true (by omega)
           (try rw [show ((0 : Int)).toNat = 0 from rfl] at hx115_0)
           (try rw [Addr.add_zero'] at hx115_0)
           have HR115_0 := A_ hi115_0
           have HC115_0 := A_ hl115_0
           clear hi115_0 hl115_0
           replace p115 := eq_true p115
           replace q115 := eq_true q115
           go_wp2
           go_ret
           exact ⟨es_, by repeat (first | exact Drawn0.refl _ | apply Drawn0.step)⟩
         ·
          rw [if_neg c11] at H; cases H
        ·
         rw [if_neg c10] at H; cases H
       ·
        rw [if_neg c9] at H; cases H
      ·
       rw [if_neg c8] at H
       have c8b0 := decide_eq_false c8
       clear c8
       obtain rfl := Option.some.inj H
       go_wp2
       go_ret
       exact ⟨es_, by repeat (first | exact Drawn0.refl _ | apply Drawn0.step)⟩

/-! ### spec_mxSquare: function 103 -/
def spec_mxSquare.f (k : Nat) (l0 : List (List Int)) : Option (Bool) := (spec_mxGood.f k l0).bind fun t117 => (if t117 = true then (if 0 < (l0.length : Int) then (some ((l0.length : Int) == ((rd_L1 l0 0).length : Int))) else (none)) else (some false))
theorem spec_mxSquare.mono : ∀ a0 k, LeO (spec_mxSquare.f k a0) (spec_mxSquare.f (k + 1) a0) := by
 intro a0 k
 unfold spec_mxSquare.f
 repeat' first | (with_reducible first | exact spec_mxGood.mono _ _ | exact LeO.refl _ | exact LeO.none _ | refine LeO.ite ?_ ?_ | refine LeO.bind ?_ (fun _ => ?_)) | exact spec_mxGood.mono _ _ | exact LeO.none _ | refine LeO.ite ?_ ?_ | refine LeO.bind ?_ (fun _ => ?_)
set_option maxHeartbeats 8000000 in
set_option maxRecDepth 100000 in
theorem spec_mxSquare.calls (k : Nat) (A0 : Option Addr) (c0 : Nat) (l0 : List (List Int)) (r : Bool) (w : World) (hr0 : Kd.C (Kd.slice 3 (Kd.int .i64)) w A0 l0.length l0) (hc0 : l0.length ≤ c0) (h : spec_mxSquare.f k l0 = some r) :
 Calls Try.prog 103 #[.slice A0 l0.length c0] w fun e w' => e = .returned (.bool r) ∧ Drawn0 w w' := by
 have HR0 := A_ hr0
 have HC0 := A_ hc0
 clear hr0 hc0
 have H : ((spec_mxGood.f k l0).bind fun t117 => (if t117 = true then (if 0 < (l0.length : Int) then (some ((l0.length : Int) == ((rd_L1 l0 0).length : Int))) else (none)) else (some false))) = some r := h
 clear h
 obtain ⟨t117, A20, H⟩ := Option.bind_eq_some_iff.mp H
 try dsimp only at H
 have A2 := A_ A20; clear A20
 by_cases c3 : t117 = true
 ·
  subst c3
  rw [if_pos rfl] at H
  by_cases c4 : 0 < (l0.length : Int)
  ·
   rw [if_pos c4] at H
   have c4b0 := decide_eq_true c4
   have c4b1 : decide (0 < l0.length) = true := decide_eq_true (by omega)
   clear c4
   obtain rfl := Option.some.inj H
   go_enter Try.func103, Try.ntmps103
   go_wp2_with (first | ((with_reducible refine gate_callee (f := 109) rfl ?_); refine goesL_ (some 4) rfl rfl Try.func109 kr_ rfl #[.slice A0 l0.length c0] rfl am_ ?_; (with_reducible refine (spec_mxGood.calls k _ _ l0 true _ ?side1 ?side2 A2.out).mono ?_); (case side1 => exact kC_ HR0.out); (case side2 => exact HC0.out); rintro e w' ⟨rfl, ⟨nd, rfl⟩⟩; refine ⟨_, rfl, ?_⟩; have p118 : 0 ≤ (0 : Int) := (by omega); have q118 : 0 < (l0.length : Int) := od_; obtain ⟨ad118, A118_0, c118_0, e118, hx118_0, hl118_0, hi118_0⟩ := at_L1 HR0.out 0 p118 q118; cases e118; have qi118 : (0 < l0.length) = True := eq_true (by omega); (try rw [show ((0 : Int)).toNat = 0 from rfl] at hx118_0); (try rw [Addr.add_zero'] at hx118_0); have HR118_0 := A_ hi118_0; have HC118_0 := A_ hl118_0; clear hi118_0 hl118_0; replace p118 := eq_true p118; replace q118 := eq_true q118))
   go_ret
   exact ⟨es_, by repeat (first | exact Drawn0.refl _ | apply Drawn0.step)⟩
  ·
   rw [if_neg c4] at H; cases H
 ·
  replace c3 := Bool.eq_false_iff.mpr c3
  subst c3
  rw [if_neg (show ¬ (false = true) by decide)] at H
  obtain rfl := Option.some.inj H
  go_enter Try.func103, Try.ntmps103
  go_wp2_with (first | ((with_reducible refine gate_callee (f := 109) rfl ?_); refine goesL_ (some 4) rfl rfl Try.func109 kr_ rfl #[.slice A0 l0.length c0] rfl am_ ?_; (with_reducible refine (spec_mxGood.calls k _ _ l0 false _ ?side1 ?side2 A2.out).mono ?_); (case side1 => exact kC_ HR0.out); (case side2 => exact HC0.out); rintro e w' ⟨rfl, ⟨nd, rfl⟩⟩; refine ⟨_, rfl, ?_⟩))
  go_ret
  exact ⟨es_, by repeat (first | exact Drawn0.refl _ | apply Drawn0.step)⟩
/-! ### spec_trGood: function 93 -/
mutual
def spec_trGood.l0 : Nat → List (List Int) → Int → Int → Option (Bool)
  | 0, _, _, _ => none
  | k + 1, x11, x12, x13 => if x13 < x12 then (if 0 ≤ x13 then (if x13 < (x11.length : Int) then (spec_trGood.l1 k false x11 x12 x13 (rd_L1 x11 x13) ((rd_L1 x11 x13).length : Int) 0) else (none)) else (none)) else (some true)
def spec_trGood.l1 : Nat → Bool → List (List Int) → Int → Int → List Int → Int → Int → Option (Bool)
  | 0, _, _, _, _, _, _, _ => none
  | k + 1, x5, x11, x12, x13, x17, x18, x19 => if x19 < x18 then (if 0 ≤ x19 then (if x19 < (x17.length : Int) then (if (rd x17 x19) = 1000000000 then (if x5 = true then (spec_trGood.l1 k true x11 x12 x13 x17 x18 (wrap64 (x19 + 1))) else (spec_trGood.l1 k ((rd x17 x19) != 1000000000) x11 x12 x13 x17 x18 (wrap64 (x19 + 1)))) else ((spec_l1In.f (rd x17 x19) 0 1000).bind fun t122 => (if t122 = true then (if x5 = true then (spec_trGood.l1 k true x11 x12 x13 x17 x18 (wrap64 (x19 + 1))) else (spec_trGood.l1 k ((rd x17 x19) != 1000000000) x11 x12 x13 x17 x18 (wrap64 (x19 + 1)))) else (some false)))) else (none)) else (none)) else (if x5 = true then (spec_trGood.l0 k x11 x12 (wrap64 (x13 + 1))) else (some false))
end
def spec_trGood.f (k : Nat) (l0 : List (List Int)) : Option (Bool) := (spec_mxSquare.f k l0).bind fun t119 => (if t119 = true then (spec_trGood.l0 k l0 (l0.length : Int) 0) else (some false))
theorem spec_trGood.mono_l : ∀ k, (∀ y0 y1 y2, LeO (spec_trGood.l0 k y0 y1 y2) (spec_trGood.l0 (k + 1) y0 y1 y2)) ∧ (∀ y0 y1 y2 y3 y4 y5 y6, LeO (spec_trGood.l1 k y0 y1 y2 y3 y4 y5 y6) (spec_trGood.l1 (k + 1) y0 y1 y2 y3 y4 y5 y6))
  | 0 => ⟨fun _ _ _ r h => by simp [spec_trGood.l0] at h, fun _ _ _ _ _ _ _ r h => by simp [spec_trGood.l1] at h⟩
  | k + 1 => by
    obtain ⟨ih0, ih1⟩ := spec_trGood.mono_l k
    refine ⟨?_, ?_⟩
    all_goals (intros; first | unfold spec_trGood.l0 | unfold spec_trGood.l1)
    all_goals (repeat' first | (with_reducible first | exact ih0 _ _ _ | exact ih1 _ _ _ _ _ _ _ | exact spec_mxSquare.mono _ _ | exact LeO.refl _ | exact LeO.none _ | refine LeO.ite ?_ ?_ | refine LeO.bind ?_ (fun _ => ?_)) | exact ih0 _ _ _ | exact ih1 _ _ _ _ _ _ _ | exact spec_mxSquare.mono _ _ | exact LeO.none _ | refine LeO.ite ?_ ?_ | refine LeO.bind ?_ (fun _ => ?_))
theorem spec_trGood.mono : ∀ a0 k, LeO (spec_trGood.f k a0) (spec_trGood.f (k + 1) a0) := by
 intro a0 k
 obtain ⟨ih0, ih1⟩ := spec_trGood.mono_l k
 unfold spec_trGood.f
 repeat' first | (with_reducible first | exact ih0 _ _ _ | exact ih1 _ _ _ _ _ _ _ | exact spec_mxSquare.mono _ _ | exact LeO.refl _ | exact LeO.none _ | refine LeO.ite ?_ ?_ | refine LeO.bind ?_ (fun _ => ?_)) | exact ih0 _ _ _ | exact ih1 _ _ _ _ _ _ _ | exact spec_mxSquare.mono _ _ | exact LeO.none _ | refine LeO.ite ?_ ?_ | refine LeO.bind ?_ (fun _ => ?_)
set_option maxHeartbeats 8000000 in
set_option maxRecDepth 100000 in
theorem spec_trGood.calls (k : Nat) (A0 : Option Addr) (c0 : Nat) (l0 : List (List Int)) (r : Bool) (w : World) (hr0 : Kd.C (Kd.slice 3 (Kd.int .i64)) w A0 l0.length l0) (hc0 : l0.length ≤ c0) (h : spec_trGood.f k l0 = some r) :
 Calls Try.prog 93 #[.slice A0 l0.length c0] w fun e w' => e = .returned (.bool r) ∧ Drawn0 w w' := by
 have HR0 := A_ hr0
 have HC0 := A_ hc0
 clear hr0 hc0
 have H : ((spec_mxSquare.f k l0).bind fun t119 => (if t119 = true then (spec_trGood.l0 k l0 (l0.length : Int) 0) else (some false))) = some r := h
 clear h
 obtain ⟨t119, A20, H⟩ := Option.bind_eq_some_iff.mp H
 try dsimp only at H
 have A2 := A_ A20; clear A20
 by_cases c3 : t119 = true
 ·
  subst c3
  rw [if_pos rfl] at H
  have H' := A_ H; clear H
  go_enter Try.func93, Try.ntmps93
  go_wp2_with (first | ((with_reducible refine gate_callee (f := 103) rfl ?_); refine goesL_ (some 9) rfl rfl Try.func103 kr_ rfl #[.slice A0 l0.length c0] rfl am_ ?_; (with_reducible refine (spec_mxSquare.calls k _ _ l0 true _ ?side1 ?side2 A2.out).mono ?_); (case side1 => exact kC_ HR0.out); (case side2 => exact HC0.out); rintro e w' ⟨rfl, ⟨nd, rfl⟩⟩; refine ⟨_, rfl, ?_⟩))
  go_loopg [13] k (fun kq v13 w' => ∃ (x13_1 : Int), v13 = .int .i64 x13_1 ∧ Aside0 (spec_trGood.l0 kq l0 (l0.length : Int) x13_1 = some r) ∧ Aside0 (kq ≤ k) ∧ Drawn0 w w')
  case atStart => exact ⟨(0), es_, H', ⟨Nat.le_refl _⟩, by repeat (first | exact Drawn0.refl _ | apply Drawn0.step)⟩
  case round =>
   clear H'
   (try clear c1); (try clear p2); (try clear c3)
   obtain ⟨x13_1, rfl, HA, HK1, ⟨m1, rfl⟩⟩ := hrel
   cases gk with
   | zero => exact absurd HA.out (by simp [spec_trGood.l0])
   | succ k1 =>
    have H := HA.out
    clear HA
    simp only [spec_trGood.l0] at H
    by_cases c4 : x13_1 < (l0.length : Int)
    ·
     rw [if_pos c4] at H
     have c4b0 := decide_eq_true c4
     clear c4
     by_cases c5 : 0 ≤ x13_1
     ·
      rw [if_pos c5] at H
      have c5b0 := decide_eq_true c5
      clear c5
      by_cases c6 : x13_1 < (l0.length : Int)
      ·
       rw [if_pos c6] at H
       have c6b0 := decide_eq_true c6
       clear c6
       have H' := A_ H; clear H
       have p120 : 0 ≤ (x13_1 : Int) := od_
       have q120 : x13_1 < (l0.length : Int) := od_
       obtain ⟨ad120, A120_0, c120_0, e120, hx120_0, hl120_0, hi120_0⟩ := at_L1 HR0.out x13_1 p120 q120
       cases e120
       have HR120_0 := A_ hi120_0
       have HC120_0 := A_ hl120_0
       clear hi120_0 hl120_0
       replace p120 := eq_true p120
       replace q120 := eq_true q120
       go_wp2
       go_loopg [5, 19] k1 (fun kq v5 v19 w' => ∃ (x5_2 : Bool) (x19_2 : Int), v5 = .bool x5_2 ∧ v19 = .int .i64 x19_2 ∧ Aside0 (spec_trGood.l1 kq x5_2 l0 (l0.length : Int) x13_1 (rd_L1 l0 x13_1) ((rd_L1 l0 x13_1).length : Int) x19_2 = some r) ∧ Aside0 (kq ≤ k1) ∧ Drawn0 w w')
       case atStart => exact ⟨(false), (0), es_, es_, H', ⟨Nat.le_refl _⟩, by repeat (first | exact Drawn0.refl _ | apply Drawn0.step)⟩
       case round =>
        clear H'
        (try clear c1); (try clear p1); (try clear q1); (try clear hx1); (try clear p2); (try clear c3); (try clear c4); (try clear c4b0); (try clear c5); (try clear c5b0); (try clear c6); (try clear c6b0); (try clear hx120_0); (try clear p120); (try clear p2); (try clear q120)
        obtain ⟨x5_2, x19_2, rfl, rfl, HA, HK2, ⟨m2, rfl⟩⟩ := hrel
        cases gk with
        | zero => exact absurd HA.out (by simp [spec_trGood.l1])
        | succ k2 =>
         have H := HA.out
         clear HA
         simp only [spec_trGood.l1] at H
         by_cases c7 : x19_2 < ((rd_L1 l0 x13_1).length : Int)
         ·
          rw [if_pos c7] at H
          have c7b0 := decide_eq_true c7
          clear c7
          by_cases c8 : 0 ≤ x19_2
          ·
           rw [if_pos c8] at H
           have c8b0 := decide_eq_true c8
           clear c8
           by_cases c9 : x19_2 < ((rd_L1 l0 x13_1).length : Int)
           ·
            rw [if_pos c9] at H
            have c9b0 := decide_eq_true c9
            clear c9
            by_cases c10 : (rd (rd_L1 l0 x13_1) x19_2) = 1000000000
            ·
             rw [if_pos c10] at H
             have c10b0 : ((rd (rd_L1 l0 x13_1) x19_2) == 1000000000) = true := beq_iff_eq.mpr c10
             have c10b1 : ((rd (rd_L1 l0 x13_1) x19_2) != 1000000000) = false := bne_eq_false_iff_eq.mpr c10
             clear c10
             by_cases c11 : x5_2 = true
             ·
              subst c11
              rw [if_pos rfl] at H
              have H' := A_ H; clear H
              have p121 : 0 ≤ (x19_2 : Int) := od_
              have q121 : x19_2 < ((rd_L1 l0 x13_1).length : Int) := od_
              obtain ⟨ad121, e121, hx121_0⟩ := Kd.at_int HR120_0.out x19_2 p121 q121
              cases e121
              replace p121 := eq_true p121
              replace q121 := eq_true q121
              go_wp2
              go_roundg k2
              case measure => have := HK1.out; have := HK2.out; omega
              case rel => exact ⟨(true), (wrap64 (x19_2 + 1)), es_, es_, H', ⟨by have := HK1.out; have := HK2.out; omega⟩, by repeat (first | exact Drawn0.refl _ | apply Drawn0.step)⟩
             ·
              replace c11 := Bool.eq_false_iff.mpr c11
              subst c11
              rw [if_neg (show ¬ (false = true) by decide)] at H
              have H' := A_ H; clear H
              have p121 : 0 ≤ (x19_2 : Int) := od_
              have q121 : x19_2 < ((rd_L1 l0 x13_1).length : Int) := od_
              obtain ⟨ad121, e121, hx121_0⟩ := Kd.at_int HR120_0.out x19_2 p121 q121
              cases e121
              replace p121 := eq_true p121
              replace q121 := eq_true q121
              go_wp2
              go_roundg k2
              case measure => have := HK1.out; have := HK2.out; omega
              case rel => exact ⟨(((rd (rd_L1 l0 x13_1) x19_2) != 1000000000)), (wrap64 (x19_2 + 1)), es_, es_, H', ⟨by have := HK1.out; have := HK2.out; omega⟩, by repeat (first | exact Drawn0.refl _ | apply Drawn0.step)⟩
            ·
             rw [if_neg c10] at H
             have c10b0 : ((rd (rd_L1 l0 x13_1) x19_2) == 1000000000) = false := beq_eq_false_iff_ne.mpr c10
             have c10b1 : ((rd (rd_L1 l0 x13_1) x19_2) != 1000000000) = true := bne_iff_ne.mpr c10
             obtain ⟨t122, A120, H⟩ := Option.bind_eq_some_iff.mp H
             try dsimp only at H
             have A12 := A_ A120; clear A120
             by_cases c13 : t122 = true
             ·
              subst c13
              rw [if_pos rfl] at H
              by_cases c14 : x5_2 = true
              ·
               subst c14
               rw [if_pos rfl] at H
               have H' := A_ H; clear H
               have p121 : 0 ≤ (x19_2 : Int) := od_
               have q121 : x19_2 < ((rd_L1 l0 x13_1).length : Int) := od_
               obtain ⟨ad121, e121, hx121_0⟩ := Kd.at_int HR120_0.out x19_2 p121 q121
               cases e121
               replace p121 := eq_true p121
               replace q121 := eq_true q121
               go_wp2_with (first | (go_at_call 66; (with_reducible refine (spec_l1In.calls (rd (rd_L1 l0 x13_1) x19_2) 0 1000 true _ A12.out).mono ?_); rintro e w' ⟨rfl, ⟨nd, rfl⟩⟩))
               go_roundg k2
               case measure => have := HK1.out; have := HK2.out; omega
               case rel => exact ⟨(true), (wrap64 (x19_2 + 1)), es_, es_, H', ⟨by have := HK1.out; have := HK2.out; omega⟩, by repeat (first | exact Drawn0.refl _ | apply Drawn0.step)⟩
              ·
               replace c14 := Bool.eq_false_iff.mpr c14
               subst c14
               rw [if_neg (show ¬ (false = true) by decide)] at H
               have H' := A_ H; clear H
               have p121 : 0 ≤ (x19_2 : Int) := od_
               have q121 : x19_2 < ((rd_L1 l0 x13_1).length : Int) := od_
               obtain ⟨ad121, e121, hx121_0⟩ := Kd.at_int HR120_0.out x19_2 p121 q121
               cases e121
               replace p121 := eq_true p121
               replace q121 := eq_true q121
               go_wp2_with (first | (go_at_call 66; (with_reducible refine (spec_l1In.calls (rd (rd_L1 l0 x13_1) x19_2) 0 1000 true _ A12.out).mono ?_); rintro e w' ⟨rfl, ⟨nd, rfl⟩⟩))
               go_roundg k2
               case measure => have := HK1.out; have := HK2.out; omega
               case rel => exact ⟨(((rd (rd_L1 l0 x13_1) x19_2) != 1000000000)), (wrap64 (x19_2 + 1)), es_, es_, H', ⟨by have := HK1.out; have := HK2.out; omega⟩, by repeat (first | exact Drawn0.refl _ | apply Drawn0.step)⟩
             ·
              replace c13 := Bool.eq_false_iff.mpr c13
              subst c13
              rw [if_neg (show ¬ (false = true) by decide)] at H
              obtain rfl := Option.some.inj H
              have p121 : 0 ≤ (x19_2 : Int) := od_
              have q121 : x19_2 < ((rd_L1 l0 x13_1).length : Int) := od_
              obtain ⟨ad121, e121, hx121_0⟩ := Kd.at_int HR120_0.out x19_2 p121 q121
              cases e121
              replace p121 := eq_true p121
              replace q121 := eq_true q121
              go_wp2_with (first | (go_at_call 66; (with_reducible refine (spec_l1In.calls (rd (rd_L1 l0 x13_1) x19_2) 0 1000 false _ A12.out).mono ?_); rintro e w' ⟨rfl, ⟨nd, rfl⟩⟩))
              go_ret
              exact ⟨es_, by repeat (first | exact Drawn0.refl _ | apply Drawn0.step)⟩
           ·
            rw [if_neg c9] at H; cases H
          ·
           rw [if_neg c8] at H; cases H
         ·
          rw [if_neg c7] at H
          have c7b0 := decide_eq_false c7
          clear c7
          by_cases c15 : x5_2 = true
          ·
           subst c15
           rw [if_pos rfl] at H
           have H' := A_ H; clear H
           go_wp2
           go_roundg k2
           case measure => have := HK1.out; have := HK2.out; omega
           case rel => exact ⟨(wrap64 (x13_1 + 1)), es_, H', ⟨by have := HK1.out; have := HK2.out; omega⟩, by repeat (first | exact Drawn0.refl _ | apply Drawn0.step)⟩
          ·
           replace c15 := Bool.eq_false_iff.mpr c15
           subst c15
           rw [if_neg (show ¬ (false = true) by decide)] at H
           obtain rfl := Option.some.inj H
           go_wp2
           go_ret
           exact ⟨es_, by repeat (first | exact Drawn0.refl _ | apply Drawn0.step)⟩
      ·
       rw [if_neg c6] at H; cases H
     ·
      rw [if_neg c5] at H; cases H
    ·
     rw [if_neg c4] at H
     have c4b0 := decide_eq_false c4
     clear c4
     obtain rfl := Option.some.inj H
     go_wp2
     go_ret
     exact ⟨es_, by repeat (first | exact Drawn0.refl _ | apply Drawn0.step)⟩
 ·
  replace c3 := Bool.eq_false_iff.mpr c3
  subst c3
  rw [if_neg (show ¬ (false = true) by decide)] at H
  obtain rfl := Option.some.inj H
  go_enter Try.func93, Try.ntmps93
  go_wp2_with (first | ((with_reducible refine gate_callee (f := 103) rfl ?_); refine goesL_ (some 9) rfl rfl Try.func103 kr_ rfl #[.slice A0 l0.length c0] rfl am_ ?_; (with_reducible refine (spec_mxSquare.calls k _ _ l0 false _ ?side1 ?side2 A2.out).mono ?_); (case side1 => exact kC_ HR0.out); (case side2 => exact HC0.out); rintro e w' ⟨rfl, ⟨nd, rfl⟩⟩; refine ⟨_, rfl, ?_⟩))
  go_ret
  exact ⟨es_, by repeat (first | exact Drawn0.refl _ | apply Drawn0.step)⟩

/-! ### spec_l1All: function 84 -/
def spec_l1All.l0 : Nat → Int → Int → List Int → Int → Int → Option (Bool)
  | 0, _, _, _, _, _ => none
  | k + 1, x1, x2, x9, x10, x11 => if x11 < x10 then (if 0 ≤ x11 then (if x11 < (x9.length : Int) then ((spec_l1In.f (rd x9 x11) x1 x2).bind fun t124 => (if t124 = true then (spec_l1All.l0 k x1 x2 x9 x10 (wrap64 (x11 + 1))) else (some false))) else (none)) else (none)) else (some true)
def spec_l1All.f (k : Nat) (l0 : List Int) (a1 : Int) (a2 : Int) : Option (Bool) := spec_l1All.l0 k a1 a2 l0 (l0.length : Int) 0
theorem spec_l1All.mono_l : ∀ k, (∀ y0 y1 y2 y3 y4, LeO (spec_l1All.l0 k y0 y1 y2 y3 y4) (spec_l1All.l0 (k + 1) y0 y1 y2 y3 y4))
  | 0 => fun _ _ _ _ _ r h => by simp [spec_l1All.l0] at h
  | k + 1 => by
    have ih0 := spec_l1All.mono_l k
    · intro y0 y1 y2 y3 y4
      unfold spec_l1All.l0
      repeat' first | (with_reducible first | exact ih0 _ _ _ _ _ | exact LeO.refl _ | exact LeO.none _ | refine LeO.ite ?_ ?_ | refine LeO.bind ?_ (fun _ => ?_)) | exact ih0 _ _ _ _ _ | exact LeO.none _ | refine LeO.ite ?_ ?_ | refine LeO.bind ?_ (fun _ => ?_)
theorem spec_l1All.mono : ∀ a0 a1 a2 k, LeO (spec_l1All.f k a0 a1 a2) (spec_l1All.f (k + 1) a0 a1 a2) := by
 intro a0 a1 a2 k
 have ih0 := spec_l1All.mono_l k
 unfold spec_l1All.f
 repeat' first | (with_reducible first | exact ih0 _ _ _ _ _ | exact LeO.refl _ | exact LeO.none _ | refine LeO.ite ?_ ?_ | refine LeO.bind ?_ (fun _ => ?_)) | exact ih0 _ _ _ _ _ | exact LeO.none _ | refine LeO.ite ?_ ?_ | refine LeO.bind ?_ (fun _ => ?_)
set_option maxHeartbeats 8000000 in
set_option maxRecDepth 100000 in
theorem spec_l1All.calls (k : Nat) (A0 : Option Addr) (c0 : Nat) (l0 : List Int) (a1 : Int) (a2 : Int) (r : Bool) (w : World) (hr0 : Kd.C (Kd.int .i64) w A0 l0.length l0) (hc0 : l0.length ≤ c0) (h : spec_l1All.f k l0 a1 a2 = some r) :
 Calls Try.prog 84 #[.slice A0 l0.length c0, .int .i64 a1, .int .i64 a2] w fun e w' => e = .returned (.bool r) ∧ Drawn0 w w' := by
 have HR0 := A_ hr0
 have HC0 := A_ hc0
 clear hr0 hc0
 have H : (spec_l1All.l0 k a1 a2 l0 (l0.length : Int) 0) = some r := h
 clear h
 have H' := A_ H; clear H
 go_enter Try.func84, Try.ntmps84
 go_wp2
 go_loopg [11] k (fun kq v11 w' => ∃ (x11_1 : Int), v11 = .int .i64 x11_1 ∧ Aside0 (spec_l1All.l0 kq a1 a2 l0 (l0.length : Int) x11_1 = some r) ∧ Aside0 (kq ≤ k) ∧ Drawn0 w w')
 case atStart => exact ⟨(0), es_, H', ⟨Nat.le_refl _⟩, by repeat (first | exact Drawn0.refl _ | apply Drawn0.step)⟩
 case round =>
  clear H'
  try clear p2
  obtain ⟨x11_1, rfl, HA, HK1, ⟨m1, rfl⟩⟩ := hrel
  cases gk with
  | zero => exact absurd HA.out (by simp [spec_l1All.l0])
  | succ k1 =>
   have H := HA.out
   clear HA
   simp only [spec_l1All.l0] at H
   by_cases c4 : x11_1 < (l0.length : Int)
   ·
    rw [if_pos c4] at H
    have c4b0 := decide_eq_true c4
    clear c4
    by_cases c5 : 0 ≤ x11_1
    ·
     rw [if_pos c5] at H
     have c5b0 := decide_eq_true c5
     clear c5
     by_cases c6 : x11_1 < (l0.length : Int)
     ·
      rw [if_pos c6] at H
      have c6b0 := decide_eq_true c6
      clear c6
      obtain ⟨t124, A70, H⟩ := Option.bind_eq_some_iff.mp H
      try dsimp only at H
      have A7 := A_ A70; clear A70
      by_cases c8 : t124 = true
      ·
       subst c8
       rw [if_pos rfl] at H
       have H' := A_ H; clear H
       have p123 : 0 ≤ (x11_1 : Int) := od_
       have q123 : x11_1 < (l0.length : Int) := od_
       obtain ⟨ad123, e123, hx123_0⟩ := Kd.at_int HR0.out x11_1 p123 q123
       cases e123
       replace p123 := eq_true p123
       replace q123 := eq_true q123
       go_wp2_with (first | ((with_reducible refine gate_callee (f := 66) rfl ?_); refine goesL_ (some 18) rfl rfl Try.func66 kr_ rfl #[.int .i64 (rd l0 x11_1), .int .i64 a1, .int .i64 a2] rfl am_ ?_; (with_reducible refine (spec_l1In.calls (rd l0 x11_1) a1 a2 true _ A7.out).mono ?_); rintro e w' ⟨rfl, ⟨nd, rfl⟩⟩; refine ⟨_, rfl, ?_⟩))
       go_roundg k1
       case measure => have := HK1.out; omega
       case rel => exact ⟨(wrap64 (x11_1 + 1)), es_, H', ⟨by have := HK1.out; omega⟩, by repeat (first | exact Drawn0.refl _ | apply Drawn0.step)⟩
      ·
       replace c8 := Bool.eq_false_iff.mpr c8
       subst c8
       rw [if_neg (show ¬ (false = true) by decide)] at H
       obtain rfl := Option.some.inj H
       have p123 : 0 ≤ (x11_1 : Int) := od_
       have q123 : x11_1 < (l0.length : Int) := od_
       obtain ⟨ad123, e123, hx123_0⟩ := Kd.at_int HR0.out x11_1 p123 q123
       cases e123
       replace p123 := eq_true p123
       replace q123 := eq_true q123
       go_wp2_with (first | ((with_reducible refine gate_callee (f := 66) rfl ?_); refine goesL_ (some 18) rfl rfl Try.func66 kr_ rfl #[.int .i64 (rd l0 x11_1), .int .i64 a1, .int .i64 a2] rfl am_ ?_; (with_reducible refine (spec_l1In.calls (rd l0 x11_1) a1 a2 false _ A7.out).mono ?_); rintro e w' ⟨rfl, ⟨nd, rfl⟩⟩; refine ⟨_, rfl, ?_⟩))
       go_ret
       exact ⟨es_, by repeat (first | exact Drawn0.refl _ | apply Drawn0.step)⟩
     ·
      rw [if_neg c6] at H; cases H
    ·
     rw [if_neg c5] at H; cases H
   ·
    rw [if_neg c4] at H
    have c4b0 := decide_eq_false c4
    clear c4
    obtain rfl := Option.some.inj H
    go_wp2
    go_ret
    exact ⟨es_, by repeat (first | exact Drawn0.refl _ | apply Drawn0.step)⟩

/-! ### spec_trTimes: function 94 -/
def spec_trTimes.f (k : Nat) (a0 : Int) (l1 : List Int) : Option (Bool) := if (l1.length : Int) = a0 then ((spec_l1All.f k l1 0 100000).bind fun t125 => (some t125)) else (some false)
theorem spec_trTimes.mono : ∀ a0 a1 k, LeO (spec_trTimes.f k a0 a1) (spec_trTimes.f (k + 1) a0 a1) := by
 intro a0 a1 k
 unfold spec_trTimes.f
 repeat' first | (with_reducible first | exact spec_l1All.mono _ _ _ _ | exact LeO.refl _ | exact LeO.none _ | refine LeO.ite ?_ ?_ | refine LeO.bind ?_ (fun _ => ?_)) | exact spec_l1All.mono _ _ _ _ | exact LeO.none _ | refine LeO.ite ?_ ?_ | refine LeO.bind ?_ (fun _ => ?_)
set_option maxHeartbeats 8000000 in
set_option maxRecDepth 100000 in
theorem spec_trTimes.calls (k : Nat) (a0 : Int) (A1 : Option Addr) (c1 : Nat) (l1 : List Int) (r : Bool) (w : World) (hr1 : Kd.C (Kd.int .i64) w A1 l1.length l1) (hc1 : l1.length ≤ c1) (h : spec_trTimes.f k a0 l1 = some r) :
 Calls Try.prog 94 #[.int .i64 a0, .slice A1 l1.length c1] w fun e w' => e = .returned (.bool r) ∧ Drawn0 w w' := by
 have HR1 := A_ hr1
 have HC1 := A_ hc1
 clear hr1 hc1
 have H : (if (l1.length : Int) = a0 then ((spec_l1All.f k l1 0 100000).bind fun t125 => (some t125)) else (some false)) = some r := h
 clear h
 by_cases c3 : (l1.length : Int) = a0
 ·
  rw [if_pos c3] at H
  have c3b0 : ((l1.length : Int) == a0) = true := beq_iff_eq.mpr c3
  have c3b1 : ((l1.length : Int) != a0) = false := bne_eq_false_iff_eq.mpr c3
  clear c3
  obtain ⟨t125, A40, H⟩ := Option.bind_eq_some_iff.mp H
  try dsimp only at H
  have A4 := A_ A40; clear A40
  obtain rfl := Option.some.inj H
  go_enter Try.func94, Try.ntmps94
  go_wp2_with (first | (go_at_call 84; (with_reducible refine (spec_l1All.calls k _ _ l1 0 100000 t125 _ ?side1 ?side2 A4.out).mono ?_); (case side1 => exact kC_ HR1.out); (case side2 => exact HC1.out); rintro e w' ⟨rfl, ⟨nd, rfl⟩⟩))
  go_ret
  exact ⟨es_, by repeat (first | exact Drawn0.refl _ | apply Drawn0.step)⟩
 ·
  rw [if_neg c3] at H
  have c3b0 : ((l1.length : Int) == a0) = false := beq_eq_false_iff_ne.mpr c3
  have c3b1 : ((l1.length : Int) != a0) = true := bne_iff_ne.mpr c3
  obtain rfl := Option.some.inj H
  go_enter Try.func94, Try.ntmps94
  go_wp2
  go_ret
  exact ⟨es_, by repeat (first | exact Drawn0.refl _ | apply Drawn0.step)⟩

/-! ### spec_trBoth: function 79 -/
def spec_trBoth.f (k : Nat) (l0 : List (List Int)) (l1 : List Int) : Option (Bool) := (spec_trGood.f k l0).bind fun t126 => (if t126 = true then ((spec_trTimes.f k (l0.length : Int) l1).bind fun t127 => (some t127)) else (some false))
theorem spec_trBoth.mono : ∀ a0 a1 k, LeO (spec_trBoth.f k a0 a1) (spec_trBoth.f (k + 1) a0 a1) := by
 intro a0 a1 k
 unfold spec_trBoth.f
 repeat' first | (with_reducible first | exact spec_trGood.mono _ _ | exact spec_trTimes.mono _ _ _ | exact LeO.refl _ | exact LeO.none _ | refine LeO.ite ?_ ?_ | refine LeO.bind ?_ (fun _ => ?_)) | exact spec_trGood.mono _ _ | exact spec_trTimes.mono _ _ _ | exact LeO.none _ | refine LeO.ite ?_ ?_ | refine LeO.bind ?_ (fun _ => ?_)
set_option maxHeartbeats 8000000 in
set_option maxRecDepth 100000 in
theorem spec_trBoth.calls (k : Nat) (A0 : Option Addr) (c0 : Nat) (l0 : List (List Int)) (A1 : Option Addr) (c1 : Nat) (l1 : List Int) (r : Bool) (w : World) (hr0 : Kd.C (Kd.slice 3 (Kd.int .i64)) w A0 l0.length l0) (hc0 : l0.length ≤ c0) (hr1 : Kd.C (Kd.int .i64) w A1 l1.length l1) (hc1 : l1.length ≤ c1) (h : spec_trBoth.f k l0 l1 = some r) :
 Calls Try.prog 79 #[.slice A0 l0.length c0, .slice A1 l1.length c1] w fun e w' => e = .returned (.bool r) ∧ Drawn0 w w' := by
 have HR0 := A_ hr0
 have HC0 := A_ hc0
 clear hr0 hc0
 have HR1 := A_ hr1
 have HC1 := A_ hc1
 clear hr1 hc1
 have H : ((spec_trGood.f k l0).bind fun t126 => (if t126 = true then ((spec_trTimes.f k (l0.length : Int) l1).bind fun t127 => (some t127)) else (some false))) = some r := h
 clear h
 obtain ⟨t126, A30, H⟩ := Option.bind_eq_some_iff.mp H
 try dsimp only at H
 have A3 := A_ A30; clear A30
 by_cases c4 : t126 = true
 ·
  subst c4
  rw [if_pos rfl] at H
  obtain ⟨t127, A50, H⟩ := Option.bind_eq_some_iff.mp H
  try dsimp only at H
  have A5 := A_ A50; clear A50
  obtain rfl := Option.some.inj H
  go_enter Try.func79, Try.ntmps79
  go_wp2_with (first | ((with_reducible refine gate_callee (f := 93) rfl ?_); refine goesL_ (some 6) rfl rfl Try.func93 kr_ rfl #[.slice A0 l0.length c0] rfl am_ ?_; (with_reducible refine (spec_trGood.calls k _ _ l0 true _ ?side1 ?side2 A3.out).mono ?_); (case side1 => exact kC_ HR0.out); (case side2 => exact HC0.out); rintro e w' ⟨rfl, ⟨nd, rfl⟩⟩; refine ⟨_, rfl, ?_⟩) | (go_at_call 94; (with_reducible refine (spec_trTimes.calls k (l0.length : Int) _ _ l1 t127 _ ?side1 ?side2 A5.out).mono ?_); (case side1 => exact kC_ HR1.out); (case side2 => exact HC1.out); rintro e w' ⟨rfl, ⟨nd, rfl⟩⟩))
  go_ret
  exact ⟨es_, by repeat (first | exact Drawn0.refl _ | apply Drawn0.step)⟩
 ·
  replace c4 := Bool.eq_false_iff.mpr c4
  subst c4
  rw [if_neg (show ¬ (false = true) by decide)] at H
  obtain rfl := Option.some.inj H
  go_enter Try.func79, Try.ntmps79
  go_wp2_with (first | ((with_reducible refine gate_callee (f := 93) rfl ?_); refine goesL_ (some 6) rfl rfl Try.func93 kr_ rfl #[.slice A0 l0.length c0] rfl am_ ?_; (with_reducible refine (spec_trGood.calls k _ _ l0 false _ ?side1 ?side2 A3.out).mono ?_); (case side1 => exact kC_ HR0.out); (case side2 => exact HC0.out); rintro e w' ⟨rfl, ⟨nd, rfl⟩⟩; refine ⟨_, rfl, ?_⟩))
  go_ret
  exact ⟨es_, by repeat (first | exact Drawn0.refl _ | apply Drawn0.step)⟩

/-! ### spec_trPeriod: function 80 -/
def spec_trPeriod.f (a0 : Int) : Option (Bool) := (spec_l1In.f a0 0 100000).bind fun t128 => (some t128)
set_option maxHeartbeats 8000000 in
set_option maxRecDepth 100000 in
theorem spec_trPeriod.calls (a0 : Int) (r : Bool) (w : World) (h : spec_trPeriod.f a0 = some r) :
 Calls Try.prog 80 #[.int .i64 a0] w fun e w' => e = .returned (.bool r) ∧ Drawn0 w w' := by
 have H : ((spec_l1In.f a0 0 100000).bind fun t128 => (some t128)) = some r := h
 clear h
 obtain ⟨t128, A20, H⟩ := Option.bind_eq_some_iff.mp H
 try dsimp only at H
 have A2 := A_ A20; clear A20
 obtain rfl := Option.some.inj H
 go_enter Try.func80, Try.ntmps80
 go_wp2_with (first | ((with_reducible refine gate_callee (f := 66) rfl ?_); refine goesL_ (some 4) rfl rfl Try.func66 kr_ rfl #[.int .i64 a0, .int .i64 0, .int .i64 100000] rfl am_ ?_; (with_reducible refine (spec_l1In.calls a0 0 100000 t128 _ A2.out).mono ?_); rintro e w' ⟨rfl, ⟨nd, rfl⟩⟩; refine ⟨_, rfl, ?_⟩))
 go_ret
 exact ⟨es_, by repeat (first | exact Drawn0.refl _ | apply Drawn0.step)⟩
/-! ### spec_dlGood: function 51 -/
mutual
def spec_dlGood.j0 : Nat → List (List Int) → List Int → Int → Bool → Option (Bool)
  | 0, _, _, _, _ => none
  | k + 1, x0, x1, x2, x18 => if x18 = true then (some false) else (spec_dlGood.l0 k x0 x1 x2 x0 (x0.length : Int) 0)
def spec_dlGood.l0 : Nat → List (List Int) → List Int → Int → List (List Int) → Int → Int → Option (Bool)
  | 0, _, _, _, _, _, _ => none
  | k + 1, x0, x1, x2, x19, x20, x21 => if x21 < x20 then (if 0 ≤ x21 then (if x21 < (x19.length : Int) then (spec_dlGood.l1 k x0 x1 x2 x21 (rd_L1 x19 x21) x19 x20 x21 ((rd_L1 x19 x21).length : Int) 0) else (none)) else (none)) else (some true)
def spec_dlGood.l1 : Nat → List (List Int) → List Int → Int → Int → List Int → List (List Int) → Int → Int → Int → Int → Option (Bool)
  | 0, _, _, _, _, _, _, _, _, _, _ => none
  | k + 1, x0, x1, x2, x7, x8, x19, x20, x21, x27, x28 => if x28 < x27 then (if 0 ≤ x28 then (if x28 < (x8.length : Int) then (if (rd x8 x28) = 1000000000 then (spec_dlGood.l1 k x0 x1 x2 x7 x8 x19 x20 x21 x27 (wrap64 (x28 + 1))) else ((spec_dlBuffer.f x0 x1 x2 x7 x28).bind fun t133 => (if t133 < 0 then (some false) else (spec_dlGood.l1 k x0 x1 x2 x7 x8 x19 x20 x21 x27 (wrap64 (x28 + 1)))))) else (none)) else (none)) else (spec_dlGood.l0 k x0 x1 x2 x19 x20 (wrap64 (x21 + 1)))
end
def spec_dlGood.f (k : Nat) (l0 : List (List Int)) (l1 : List Int) (a2 : Int) : Option (Bool) := (spec_trBoth.f k l0 l1).bind fun t129 => (if t129 = true then ((spec_trPeriod.f a2).bind fun t130 => (spec_dlGood.j0 k l0 l1 a2 (!t130))) else (spec_dlGood.j0 k l0 l1 a2 true))
theorem spec_dlGood.mono_l : ∀ k, (∀ y0 y1 y2 y3, LeO (spec_dlGood.j0 k y0 y1 y2 y3) (spec_dlGood.j0 (k + 1) y0 y1 y2 y3)) ∧ (∀ y0 y1 y2 y3 y4 y5, LeO (spec_dlGood.l0 k y0 y1 y2 y3 y4 y5) (spec_dlGood.l0 (k + 1) y0 y1 y2 y3 y4 y5)) ∧ (∀ y0 y1 y2 y3 y4 y5 y6 y7 y8 y9, LeO (spec_dlGood.l1 k y0 y1 y2 y3 y4 y5 y6 y7 y8 y9) (spec_dlGood.l1 (k + 1) y0 y1 y2 y3 y4 y5 y6 y7 y8 y9))
  | 0 => ⟨fun _ _ _ _ r h => by simp [spec_dlGood.j0] at h, fun _ _ _ _ _ _ r h => by simp [spec_dlGood.l0] at h, fun _ _ _ _ _ _ _ _ _ _ r h => by simp [spec_dlGood.l1] at h⟩
  | k + 1 => by
    obtain ⟨ih0, ih1, ih2⟩ := spec_dlGood.mono_l k
    refine ⟨?_, ?_, ?_⟩
    all_goals (intros; first | unfold spec_dlGood.j0 | unfold spec_dlGood.l0 | unfold spec_dlGood.l1)
    all_goals (repeat' first | (with_reducible first | exact ih0 _ _ _ _ | exact ih1 _ _ _ _ _ _ | exact ih2 _ _ _ _ _ _ _ _ _ _ | exact spec_trBoth.mono _ _ _ | exact LeO.refl _ | exact LeO.none _ | refine LeO.ite ?_ ?_ | refine LeO.bind ?_ (fun _ => ?_)) | exact ih0 _ _ _ _ | exact ih1 _ _ _ _ _ _ | exact ih2 _ _ _ _ _ _ _ _ _ _ | exact spec_trBoth.mono _ _ _ | exact LeO.none _ | refine LeO.ite ?_ ?_ | refine LeO.bind ?_ (fun _ => ?_))
theorem spec_dlGood.mono : ∀ a0 a1 a2 k, LeO (spec_dlGood.f k a0 a1 a2) (spec_dlGood.f (k + 1) a0 a1 a2) := by
 intro a0 a1 a2 k
 obtain ⟨ih0, ih1, ih2⟩ := spec_dlGood.mono_l k
 unfold spec_dlGood.f
 repeat' first | (with_reducible first | exact ih0 _ _ _ _ | exact ih1 _ _ _ _ _ _ | exact ih2 _ _ _ _ _ _ _ _ _ _ | exact spec_trBoth.mono _ _ _ | exact LeO.refl _ | exact LeO.none _ | refine LeO.ite ?_ ?_ | refine LeO.bind ?_ (fun _ => ?_)) | exact ih0 _ _ _ _ | exact ih1 _ _ _ _ _ _ | exact ih2 _ _ _ _ _ _ _ _ _ _ | exact spec_trBoth.mono _ _ _ | exact LeO.none _ | refine LeO.ite ?_ ?_ | refine LeO.bind ?_ (fun _ => ?_)
set_option maxHeartbeats 8000000 in
set_option maxRecDepth 100000 in
theorem spec_dlGood.calls (k : Nat) (A0 : Option Addr) (c0 : Nat) (l0 : List (List Int)) (A1 : Option Addr) (c1 : Nat) (l1 : List Int) (a2 : Int) (r : Bool) (w : World) (hr0 : Kd.C (Kd.slice 3 (Kd.int .i64)) w A0 l0.length l0) (hc0 : l0.length ≤ c0) (hr1 : Kd.C (Kd.int .i64) w A1 l1.length l1) (hc1 : l1.length ≤ c1) (h : spec_dlGood.f k l0 l1 a2 = some r) :
 Calls Try.prog 51 #[.slice A0 l0.length c0, .slice A1 l1.length c1, .int .i64 a2] w fun e w' => e = .returned (.bool r) ∧ Drawn0 w w' := by
 have HR0 := A_ hr0
 have HC0 := A_ hc0
 clear hr0 hc0
 have HR1 := A_ hr1
 have HC1 := A_ hc1
 clear hr1 hc1
 have H : ((spec_trBoth.f k l0 l1).bind fun t129 => (if t129 = true then ((spec_trPeriod.f a2).bind fun t130 => (spec_dlGood.j0 k l0 l1 a2 (!t130))) else (spec_dlGood.j0 k l0 l1 a2 true))) = some r := h
 clear h
 have HC4 := A_ H
 clear H
 go_enter Try.func51, Try.ntmps51
 go_upto_region 1 with (fail)
 go_cut [18] (fun v18 wc => ∃ (kq : Nat) (x18_3 : Bool), v18 = .bool x18_3 ∧ Aside0 (spec_dlGood.j0 kq l0 l1 a2 x18_3 = some r) ∧ Aside0 (kq ≤ k) ∧ Drawn0 w wc)
 case first =>
  have H := HC4.out
  clear HC4
  obtain ⟨t129, A50, H⟩ := Option.bind_eq_some_iff.mp H
  try dsimp only at H
  have A5 := A_ A50; clear A50
  by_cases c6 : t129 = true
  ·
   subst c6
   rw [if_pos rfl] at H
   obtain ⟨t130, A70, H⟩ := Option.bind_eq_some_iff.mp H
   try dsimp only at H
   have A7 := A_ A70; clear A70
   have H' := A_ H; clear H
   go_wp2_with (first | ((with_reducible refine gate_callee (f := 79) rfl ?_); refine goesL_ (some 12) rfl rfl Try.func79 kr_ rfl #[.slice A0 l0.length c0, .slice A1 l1.length c1] rfl am_ ?_; (with_reducible refine (spec_trBoth.calls k _ _ l0 _ _ l1 true _ ?side1 ?side2 ?side3 ?side4 A5.out).mono ?_); (case side1 => exact kC_ HR0.out); (case side2 => exact HC0.out); (case side3 => exact kC_ HR1.out); (case side4 => exact HC1.out); rintro e w' ⟨rfl, ⟨nd, rfl⟩⟩; refine ⟨_, rfl, ?_⟩) | (go_at_call 80; (with_reducible refine (spec_trPeriod.calls a2 t130 _ A7.out).mono ?_); rintro e w' ⟨rfl, ⟨nd, rfl⟩⟩))
   go_meet
   case rel => exact ⟨_, (!t130), es_, H', ⟨by first | omega | exact Nat.le_refl _⟩, by repeat (first | exact Drawn0.refl _ | apply Drawn0.step)⟩
  ·
   replace c6 := Bool.eq_false_iff.mpr c6
   subst c6
   rw [if_neg (show ¬ (false = true) by decide)] at H
   have H' := A_ H; clear H
   go_wp2_with (first | ((with_reducible refine gate_callee (f := 79) rfl ?_); refine goesL_ (some 12) rfl rfl Try.func79 kr_ rfl #[.slice A0 l0.length c0, .slice A1 l1.length c1] rfl am_ ?_; (with_reducible refine (spec_trBoth.calls k _ _ l0 _ _ l1 false _ ?side1 ?side2 ?side3 ?side4 A5.out).mono ?_); (case side1 => exact kC_ HR0.out); (case side2 => exact HC0.out); (case side3 => exact kC_ HR1.out); (case side4 => exact HC1.out); rintro e w' ⟨rfl, ⟨nd, rfl⟩⟩; refine ⟨_, rfl, ?_⟩))
   go_meet
   case rel => exact ⟨_, (true), es_, H', ⟨by first | omega | exact Nat.le_refl _⟩, by repeat (first | exact Drawn0.refl _ | apply Drawn0.step)⟩
 case rest =>
  clear HC4
  (try clear c1); (try clear p2); (try clear c5); (try clear c6); (try clear c7)
  obtain ⟨kq, x18_3, rfl, HA, HJ3, ⟨mc3, rfl⟩⟩ := hcut
  cases kq with
  | zero => exact absurd HA.out (by simp [spec_dlGood.j0])
  | succ kj3 =>
   have H := HA.out
   clear HA
   simp only [spec_dlGood.j0] at H
   by_cases c8 : x18_3 = true
   ·
    subst c8
    rw [if_pos rfl] at H
    obtain rfl := Option.some.inj H
    go_wp2
    go_ret
    exact ⟨es_, by repeat (first | exact Drawn0.refl _ | apply Drawn0.step)⟩
   ·
    replace c8 := Bool.eq_false_iff.mpr c8
    subst c8
    rw [if_neg (show ¬ (false = true) by decide)] at H
    have H' := A_ H; clear H
    go_wp2
    go_loopg [21] kj3 (fun kq v21 w' => ∃ (x21_2 : Int), v21 = .int .i64 x21_2 ∧ Aside0 (spec_dlGood.l0 kq l0 l1 a2 l0 (l0.length : Int) x21_2 = some r) ∧ Aside0 (kq ≤ kj3) ∧ Drawn0 w w')
    case atStart => exact ⟨(0), es_, H', ⟨Nat.le_refl _⟩, by repeat (first | exact Drawn0.refl _ | apply Drawn0.step)⟩
    case round =>
     clear H'
     (try clear c1); (try clear p2); (try clear c3); (try clear c5); (try clear c6); (try clear c7); (try clear c8); (try clear p2)
     obtain ⟨x21_2, rfl, HA, HK2, ⟨m2, rfl⟩⟩ := hrel
     cases gk with
     | zero => exact absurd HA.out (by simp [spec_dlGood.l0])
     | succ k2 =>
      have H := HA.out
      clear HA
      simp only [spec_dlGood.l0] at H
      by_cases c9 : x21_2 < (l0.length : Int)
      ·
       rw [if_pos c9] at H
       have c9b0 := decide_eq_true c9
       clear c9
       by_cases c10 : 0 ≤ x21_2
       ·
        rw [if_pos c10] at H
        have c10b0 := decide_eq_true c10
        clear c10
        by_cases c11 : x21_2 < (l0.length : Int)
        ·
         rw [if_pos c11] at H
         have c11b0 := decide_eq_true c11
         clear c11
         have H' := A_ H; clear H
         have p131 : 0 ≤ (x21_2 : Int) := od_
         have q131 : x21_2 < (l0.length : Int) := od_
         obtain ⟨ad131, A131_0, c131_0, e131, hx131_0, hl131_0, hi131_0⟩ := at_L1 HR0.out x21_2 p131 q131
         cases e131
         have HR131_0 := A_ hi131_0
         have HC131_0 := A_ hl131_0
         clear hi131_0 hl131_0
         replace p131 := eq_true p131
         replace q131 := eq_true q131
         go_wp2
         go_loopg [28] k2 (fun kq v28 w' => ∃ (x28_3 : Int), v28 = .int .i64 x28_3 ∧ Aside0 (spec_dlGood.l1 kq l0 l1 a2 x21_2 (rd_L1 l0 x21_2) l0 (l0.length : Int) x21_2 ((rd_L1 l0 x21_2).length : Int) x28_3 = some r) ∧ Aside0 (kq ≤ k2) ∧ Drawn0 w w')
         case atStart => exact ⟨(0), es_, H', ⟨Nat.le_refl _⟩, by repeat (first | exact Drawn0.refl _ | apply Drawn0.step)⟩
         case round =>
          clear H'
          (try clear c1); (try clear p1); (try clear q1); (try clear hx1); (try clear p2); (try clear c3); (try clear c5); (try clear c6); (try clear c7); (try clear c8); (try clear c9); (try clear c9b0); (try clear c10); (try clear c10b0); (try clear c11); (try clear c11b0); (try clear hx131_0); (try clear p131); (try clear p2); (try clear q131)
          obtain ⟨x28_3, rfl, HA, HK3, ⟨m3, rfl⟩⟩ := hrel
          cases gk with
          | zero => exact absurd HA.out (by simp [spec_dlGood.l1])
          | succ k3 =>
           have H := HA.out
           clear HA
           simp only [spec_dlGood.l1] at H
           by_cases c12 : x28_3 < ((rd_L1 l0 x21_2).length : Int)
           ·
            rw [if_pos c12] at H
            have c12b0 := decide_eq_true c12
            clear c12
            by_cases c13 : 0 ≤ x28_3
            ·
             rw [if_pos c13] at H
             have c13b0 := decide_eq_true c13
             clear c13
             by_cases c14 : x28_3 < ((rd_L1 l0 x21_2).length : Int)
             ·
              rw [if_pos c14] at H
              have c14b0 := decide_eq_true c14
              clear c14
              by_cases c15 : (rd (rd_L1 l0 x21_2) x28_3) = 1000000000
              ·
               rw [if_pos c15] at H
               have c15b0 : ((rd (rd_L1 l0 x21_2) x28_3) == 1000000000) = true := beq_iff_eq.mpr c15
               have c15b1 : ((rd (rd_L1 l0 x21_2) x28_3) != 1000000000) = false := bne_eq_false_iff_eq.mpr c15
               clear c15
               have H' := A_ H; clear H
               have p132 : 0 ≤ (x28_3 : Int) := od_
               have q132 : x28_3 < ((rd_L1 l0 x21_2).length : Int) := od_
               obtain ⟨ad132, e132, hx132_0⟩ := Kd.at_int HR131_0.out x28_3 p132 q132
               cases e132
               replace p132 := eq_true p132
               replace q132 := eq_true q132
               go_wp2
               go_roundg k3
               case measure => have := HJ3.out; have := HK2.out; have := HK3.out; omega
               case rel => exact ⟨(wrap64 (x28_3 + 1)), es_, H', ⟨by have := HJ3.out; have := HK2.out; have := HK3.out; omega⟩, by repeat (first | exact Drawn0.refl _ | apply Drawn0.step)⟩
              ·
               rw [if_neg c15] at H
               have c15b0 : ((rd (rd_L1 l0 x21_2) x28_3) == 1000000000) = false := beq_eq_false_iff_ne.mpr c15
               have c15b1 : ((rd (rd_L1 l0 x21_2) x28_3) != 1000000000) = true := bne_iff_ne.mpr c15
               obtain ⟨t133, A160, H⟩ := Option.bind_eq_some_iff.mp H
               try dsimp only at H
               have A16 := A_ A160; clear A160
               by_cases c17 : t133 < 0
               ·
                rw [if_pos c17] at H
                have c17b0 := decide_eq_true c17
                clear c17
                obtain rfl := Option.some.inj H
                have p132 : 0 ≤ (x28_3 : Int) := od_
                have q132 : x28_3 < ((rd_L1 l0 x21_2).length : Int) := od_
                obtain ⟨ad132, e132, hx132_0⟩ := Kd.at_int HR131_0.out x28_3 p132 q132
                cases e132
                replace p132 := eq_true p132
                replace q132 := eq_true q132
                go_wp2_with (first | (go_at_call 53; (with_reducible refine (spec_dlBuffer.calls _ _ l0 _ _ l1 a2 x21_2 x28_3 t133 _ ?side1 ?side2 ?side3 ?side4 A16.out).mono ?_); (case side1 => exact kC_ HR0.out); (case side2 => exact HC0.out); (case side3 => exact kC_ HR1.out); (case side4 => exact HC1.out); rintro e w' ⟨rfl, ⟨nd, rfl⟩⟩))
                go_ret
                exact ⟨es_, by repeat (first | exact Drawn0.refl _ | apply Drawn0.step)⟩
               ·
                rw [if_neg c17] at H
                have c17b0 := decide_eq_false c17
                clear c17
                have H' := A_ H; clear H
                have p132 : 0 ≤ (x28_3 : Int) := od_
                have q132 : x28_3 < ((rd_L1 l0 x21_2).length : Int) := od_
                obtain ⟨ad132, e132, hx132_0⟩ := Kd.at_int HR131_0.out x28_3 p132 q132
                cases e132
                replace p132 := eq_true p132
                replace q132 := eq_true q132
                go_wp2_with (first | (go_at_call 53; (with_reducible refine (spec_dlBuffer.calls _ _ l0 _ _ l1 a2 x21_2 x28_3 t133 _ ?side1 ?side2 ?side3 ?side4 A16.out).mono ?_); (case side1 => exact kC_ HR0.out); (case side2 => exact HC0.out); (case side3 => exact kC_ HR1.out); (case side4 => exact HC1.out); rintro e w' ⟨rfl, ⟨nd, rfl⟩⟩))
                go_roundg k3
                case measure => have := HJ3.out; have := HK2.out; have := HK3.out; omega
                case rel => exact ⟨(wrap64 (x28_3 + 1)), es_, H', ⟨by have := HJ3.out; have := HK2.out; have := HK3.out; omega⟩, by repeat (first | exact Drawn0.refl _ | apply Drawn0.step)⟩
             ·
              rw [if_neg c14] at H; cases H
            ·
             rw [if_neg c13] at H; cases H
           ·
            rw [if_neg c12] at H
            have c12b0 := decide_eq_false c12
            clear c12
            have H' := A_ H; clear H
            go_wp2
            go_roundg k3
            case measure => have := HJ3.out; have := HK2.out; have := HK3.out; omega
            case rel => exact ⟨(wrap64 (x21_2 + 1)), es_, H', ⟨by have := HJ3.out; have := HK2.out; have := HK3.out; omega⟩, by repeat (first | exact Drawn0.refl _ | apply Drawn0.step)⟩
        ·
         rw [if_neg c11] at H; cases H
       ·
        rw [if_neg c10] at H; cases H
      ·
       rw [if_neg c9] at H
       have c9b0 := decide_eq_false c9
       clear c9
       obtain rfl := Option.some.inj H
       go_wp2
       go_ret
       exact ⟨es_, by repeat (first | exact Drawn0.refl _ | apply Drawn0.step)⟩

/-! ### spec_dlTrain: function 52 -/
def spec_dlTrain.f (l0 : List (List Int)) (a1 : Int) : Option (Bool) := (spec_l1In.f a1 0 (wrap64 ((l0.length : Int) - 1))).bind fun t134 => (some t134)
set_option maxHeartbeats 8000000 in
set_option maxRecDepth 100000 in
theorem spec_dlTrain.calls (A0 : Option Addr) (c0 : Nat) (l0 : List (List Int)) (a1 : Int) (r : Bool) (w : World) (hr0 : Kd.C (Kd.slice 3 (Kd.int .i64)) w A0 l0.length l0) (hc0 : l0.length ≤ c0) (h : spec_dlTrain.f l0 a1 = some r) :
 Calls Try.prog 52 #[.slice A0 l0.length c0, .int .i64 a1] w fun e w' => e = .returned (.bool r) ∧ Drawn0 w w' := by
 have HR0 := A_ hr0
 have HC0 := A_ hc0
 clear hr0 hc0
 have H : ((spec_l1In.f a1 0 (wrap64 ((l0.length : Int) - 1))).bind fun t134 => (some t134)) = some r := h
 clear h
 obtain ⟨t134, A30, H⟩ := Option.bind_eq_some_iff.mp H
 try dsimp only at H
 have A3 := A_ A30; clear A30
 obtain rfl := Option.some.inj H
 go_enter Try.func52, Try.ntmps52
 go_wp2_with (first | ((with_reducible refine gate_callee (f := 66) rfl ?_); refine goesL_ (some 9) rfl rfl Try.func66 kr_ rfl #[.int .i64 a1, .int .i64 0, .int .i64 (wrap64 ((l0.length : Int) - 1))] rfl am_ ?_; (with_reducible refine (spec_l1In.calls a1 0 (wrap64 ((l0.length : Int) - 1)) t134 _ A3.out).mono ?_); rintro e w' ⟨rfl, ⟨nd, rfl⟩⟩; refine ⟨_, rfl, ?_⟩))
 go_ret
 exact ⟨es_, by repeat (first | exact Drawn0.refl _ | apply Drawn0.step)⟩

/-! ### spec_BufferOf: function 15 -/
def spec_BufferOf.f (k : Nat) (l0 : List (List Int)) (l1 : List Int) (a2 : Int) (a3 : Int) (a4 : Int) : Option (Int × Bool) := (spec_dlGood.f k l0 l1 a2).bind fun t135 => (if t135 = true then ((spec_dlTrain.f l0 a3).bind fun t136 => (if t136 = true then ((spec_dlTrain.f l0 a4).bind fun t137 => (if t137 = true then (if 0 ≤ a3 then (if a3 < (l0.length : Int) then (if 0 ≤ a4 then (if a4 < ((rd_L1 l0 a3).length : Int) then (if (rd (rd_L1 l0 a3) a4) = 1000000000 then (some (0, false)) else ((spec_dlBuffer.f l0 l1 a2 a3 a4).bind fun t140 => (some (t140, true)))) else (none)) else (none)) else (none)) else (none)) else (some (0, false)))) else (some (0, false)))) else (some (0, false)))
theorem spec_BufferOf.mono : ∀ a0 a1 a2 a3 a4 k, LeO (spec_BufferOf.f k a0 a1 a2 a3 a4) (spec_BufferOf.f (k + 1) a0 a1 a2 a3 a4) := by
 intro a0 a1 a2 a3 a4 k
 unfold spec_BufferOf.f
 repeat' first | (with_reducible first | exact spec_dlGood.mono _ _ _ _ | exact LeO.refl _ | exact LeO.none _ | refine LeO.ite ?_ ?_ | refine LeO.bind ?_ (fun _ => ?_)) | exact spec_dlGood.mono _ _ _ _ | exact LeO.none _ | refine LeO.ite ?_ ?_ | refine LeO.bind ?_ (fun _ => ?_)
set_option maxHeartbeats 8000000 in
set_option maxRecDepth 100000 in
theorem spec_BufferOf.calls (k : Nat) (A0 : Option Addr) (c0 : Nat) (l0 : List (List Int)) (A1 : Option Addr) (c1 : Nat) (l1 : List Int) (a2 : Int) (a3 : Int) (a4 : Int) (r1 : Int) (r2 : Bool) (w : World) (hr0 : Kd.C (Kd.slice 3 (Kd.int .i64)) w A0 l0.length l0) (hc0 : l0.length ≤ c0) (hr1 : Kd.C (Kd.int .i64) w A1 l1.length l1) (hc1 : l1.length ≤ c1) (h : spec_BufferOf.f k l0 l1 a2 a3 a4 = some (r1, r2)) :
 Calls Try.prog 15 #[.slice A0 l0.length c0, .slice A1 l1.length c1, .int .i64 a2, .int .i64 a3, .int .i64 a4] w fun e w' => e = .returned (.tuple #[.int .i64 r1, .bool r2]) ∧ Drawn0 w w' := by
 have HR0 := A_ hr0
 have HC0 := A_ hc0
 clear hr0 hc0
 have HR1 := A_ hr1
 have HC1 := A_ hc1
 clear hr1 hc1
 have H : ((spec_dlGood.f k l0 l1 a2).bind fun t135 => (if t135 = true then ((spec_dlTrain.f l0 a3).bind fun t136 => (if t136 = true then ((spec_dlTrain.f l0 a4).bind fun t137 => (if t137 = true then (if 0 ≤ a3 then (if a3 < (l0.length : Int) then (if 0 ≤ a4 then (if a4 < ((rd_L1 l0 a3).length : Int) then (if (rd (rd_L1 l0 a3) a4) = 1000000000 then (some (0, false)) else ((spec_dlBuffer.f l0 l1 a2 a3 a4).bind fun t140 => (some (t140, true)))) else (none)) else (none)) else (none)) else (none)) else (some (0, false)))) else (some (0, false)))) else (some (0, false)))) = some (r1, r2) := h
 clear h
 obtain ⟨t135, A60, H⟩ := Option.bind_eq_some_iff.mp H
 try dsimp only at H
 have A6 := A_ A60; clear A60
 by_cases c7 : t135 = true
 ·
  subst c7
  rw [if_pos rfl] at H
  obtain ⟨t136, A80, H⟩ := Option.bind_eq_some_iff.mp H
  try dsimp only at H
  have A8 := A_ A80; clear A80
  by_cases c9 : t136 = true
  ·
   subst c9
   rw [if_pos rfl] at H
   obtain ⟨t137, A100, H⟩ := Option.bind_eq_some_iff.mp H
   try dsimp only at H
   have A10 := A_ A100; clear A100
   by_cases c11 : t137 = true
   ·
    subst c11
    rw [if_pos rfl] at H
    by_cases c12 : 0 ≤ a3
    ·
     rw [if_pos c12] at H
     have c12b0 := decide_eq_true c12
     clear c12
     by_cases c13 : a3 < (l0.length : Int)
     ·
      rw [if_pos c13] at H
      have c13b0 := decide_eq_true c13
      clear c13
      by_cases c14 : 0 ≤ a4
      ·
       rw [if_pos c14] at H
       have c14b0 := decide_eq_true c14
       clear c14
       by_cases c15 : a4 < ((rd_L1 l0 a3).length : Int)
       ·
        rw [if_pos c15] at H
        have c15b0 := decide_eq_true c15
        clear c15
        by_cases c16 : (rd (rd_L1 l0 a3) a4) = 1000000000
        ·
         rw [if_pos c16] at H
         have c16b0 : ((rd (rd_L1 l0 a3) a4) == 1000000000) = true := beq_iff_eq.mpr c16
         have c16b1 : ((rd (rd_L1 l0 a3) a4) != 1000000000) = false := bne_eq_false_iff_eq.mpr c16
         clear c16
         simp only [Option.some.injEq, Prod.mk.injEq] at H
         obtain ⟨rfl, rfl⟩ := H
         go_enter Try.func15, Try.ntmps15
         go_wp2_with (first | ((with_reducible refine gate_callee (f := 51) rfl ?_); refine goesL_ (some 15) rfl rfl Try.func51 kr_ rfl #[.slice A0 l0.length c0, .slice A1 l1.length c1, .int .i64 a2] rfl am_ ?_; (with_reducible refine (spec_dlGood.calls k _ _ l0 _ _ l1 a2 true _ ?side1 ?side2 ?side3 ?side4 A6.out).mono ?_); (case side1 => exact kC_ HR0.out); (case side2 => exact HC0.out); (case side3 => exact kC_ HR1.out); (case side4 => exact HC1.out); rintro e w' ⟨rfl, ⟨nd, rfl⟩⟩; refine ⟨_, rfl, ?_⟩) | (go_at_call 52; (with_reducible refine (spec_dlTrain.calls _ _ l0 a3 true _ ?side1 ?side2 A8.out).mono ?_); (case side1 => exact kC_ HR0.out); (case side2 => exact HC0.out); rintro e w' ⟨rfl, ⟨nd, rfl⟩⟩) | (go_at_call 52; (with_reducible refine (spec_dlTrain.calls _ _ l0 a4 true _ ?side1 ?side2 A10.out).mono ?_); (case side1 => exact kC_ HR0.out); (case side2 => exact HC0.out); rintro e w' ⟨rfl, ⟨nd, rfl⟩⟩; have p138 : 0 ≤ (a3 : Int) := od_; have q138 : a3 < (l0.length : Int) := od_; obtain ⟨ad138, A138_0, c138_0, e138, hx138_0, hl138_0, hi138_0⟩ := at_L1 HR0.out a3 p138 q138; cases e138; have HR138_0 := A_ hi138_0; have HC138_0 := A_ hl138_0; clear hi138_0 hl138_0; replace p138 := eq_true p138; replace q138 := eq_true q138; have p139 : 0 ≤ (a4 : Int) := od_; have q139 : a4 < ((rd_L1 l0 a3).length : Int) := od_; obtain ⟨ad139, e139, hx139_0⟩ := Kd.at_int HR138_0.out a4 p139 q139; cases e139; replace p139 := eq_true p139; replace q139 := eq_true q139))
         go_ret2
         exact ⟨es_, by repeat (first | exact Drawn0.refl _ | apply Drawn0.step)⟩
        ·
         rw [if_neg c16] at H
         have c16b0 : ((rd (rd_L1 l0 a3) a4) == 1000000000) = false := beq_eq_false_iff_ne.mpr c16
         have c16b1 : ((rd (rd_L1 l0 a3) a4) != 1000000000) = true := bne_iff_ne.mpr c16
         obtain ⟨t140, A170, H⟩ := Option.bind_eq_some_iff.mp H
         try dsimp only at H
         have A17 := A_ A170; clear A170
         simp only [Option.some.injEq, Prod.mk.injEq] at H
         obtain ⟨rfl, rfl⟩ := H
         go_enter Try.func15, Try.ntmps15
         go_wp2_with (first | ((with_reducible refine gate_callee (f := 51) rfl ?_); refine goesL_ (some 15) rfl rfl Try.func51 kr_ rfl #[.slice A0 l0.length c0, .slice A1 l1.length c1, .int .i64 a2] rfl am_ ?_; (with_reducible refine (spec_dlGood.calls k _ _ l0 _ _ l1 a2 true _ ?side1 ?side2 ?side3 ?side4 A6.out).mono ?_); (case side1 => exact kC_ HR0.out); (case side2 => exact HC0.out); (case side3 => exact kC_ HR1.out); (case side4 => exact HC1.out); rintro e w' ⟨rfl, ⟨nd, rfl⟩⟩; refine ⟨_, rfl, ?_⟩) | (go_at_call 52; (with_reducible refine (spec_dlTrain.calls _ _ l0 a3 true _ ?side1 ?side2 A8.out).mono ?_); (case side1 => exact kC_ HR0.out); (case side2 => exact HC0.out); rintro e w' ⟨rfl, ⟨nd, rfl⟩⟩) | (go_at_call 52; (with_reducible refine (spec_dlTrain.calls _ _ l0 a4 true _ ?side1 ?side2 A10.out).mono ?_); (case side1 => exact kC_ HR0.out); (case side2 => exact HC0.out); rintro e w' ⟨rfl, ⟨nd, rfl⟩⟩; have p138 : 0 ≤ (a3 : Int) := od_; have q138 : a3 < (l0.length : Int) := od_; obtain ⟨ad138, A138_0, c138_0, e138, hx138_0, hl138_0, hi138_0⟩ := at_L1 HR0.out a3 p138 q138; cases e138; have HR138_0 := A_ hi138_0; have HC138_0 := A_ hl138_0; clear hi138_0 hl138_0; replace p138 := eq_true p138; replace q138 := eq_true q138; have p139 : 0 ≤ (a4 : Int) := od_; have q139 : a4 < ((rd_L1 l0 a3).length : Int) := od_; obtain ⟨ad139, e139, hx139_0⟩ := Kd.at_int HR138_0.out a4 p139 q139; cases e139; replace p139 := eq_true p139; replace q139 := eq_true q139) | ((with_reducible refine gate_callee (f := 53) rfl ?_); refine goesL_ (some 44) rfl rfl Try.func53 kr_ rfl #[.slice (some ad138) l0.length c0, .slice A1 l1.length c1, .int .i64 a2, .int .i64 a3, .int .i64 a4] rfl am_ ?_; (with_reducible refine (spec_dlBuffer.calls _ _ l0 _ _ l1 a2 a3 a4 t140 _ ?side1 ?side2 ?side3 ?side4 A17.out).mono ?_); (case side1 => exact kC_ HR0.out); (case side2 => exact HC0.out); (case side3 => exact kC_ HR1.out); (case side4 => exact HC1.out); rintro e w' ⟨rfl, ⟨nd, rfl⟩⟩; refine ⟨_, rfl, ?_⟩))
         go_ret2
         exact ⟨es_, by repeat (first | exact Drawn0.refl _ | apply Drawn0.step)⟩
       ·
        rw [if_neg c15] at H; cases H
      ·
       rw [if_neg c14] at H; cases H
     ·
      rw [if_neg c13] at H; cases H
    ·
     rw [if_neg c12] at H; cases H
   ·
    replace c11 := Bool.eq_false_iff.mpr c11
    subst c11
    rw [if_neg (show ¬ (false = true) by decide)] at H
    simp only [Option.some.injEq, Prod.mk.injEq] at H
    obtain ⟨rfl, rfl⟩ := H
    go_enter Try.func15, Try.ntmps15
    go_wp2_with (first | ((with_reducible refine gate_callee (f := 51) rfl ?_); refine goesL_ (some 15) rfl rfl Try.func51 kr_ rfl #[.slice A0 l0.length c0, .slice A1 l1.length c1, .int .i64 a2] rfl am_ ?_; (with_reducible refine (spec_dlGood.calls k _ _ l0 _ _ l1 a2 true _ ?side1 ?side2 ?side3 ?side4 A6.out).mono ?_); (case side1 => exact kC_ HR0.out); (case side2 => exact HC0.out); (case side3 => exact kC_ HR1.out); (case side4 => exact HC1.out); rintro e w' ⟨rfl, ⟨nd, rfl⟩⟩; refine ⟨_, rfl, ?_⟩) | (go_at_call 52; (with_reducible refine (spec_dlTrain.calls _ _ l0 a3 true _ ?side1 ?side2 A8.out).mono ?_); (case side1 => exact kC_ HR0.out); (case side2 => exact HC0.out); rintro e w' ⟨rfl, ⟨nd, rfl⟩⟩) | (go_at_call 52; (with_reducible refine (spec_dlTrain.calls _ _ l0 a4 false _ ?side1 ?side2 A10.out).mono ?_); (case side1 => exact kC_ HR0.out); (case side2 => exact HC0.out); rintro e w' ⟨rfl, ⟨nd, rfl⟩⟩))
    go_ret2
    exact ⟨es_, by repeat (first | exact Drawn0.refl _ | apply Drawn0.step)⟩
  ·
   replace c9 := Bool.eq_false_iff.mpr c9
   subst c9
   rw [if_neg (show ¬ (false = true) by decide)] at H
   simp only [Option.some.injEq, Prod.mk.injEq] at H
   obtain ⟨rfl, rfl⟩ := H
   go_enter Try.func15, Try.ntmps15
   go_wp2_with (first | ((with_reducible refine gate_callee (f := 51) rfl ?_); refine goesL_ (some 15) rfl rfl Try.func51 kr_ rfl #[.slice A0 l0.length c0, .slice A1 l1.length c1, .int .i64 a2] rfl am_ ?_; (with_reducible refine (spec_dlGood.calls k _ _ l0 _ _ l1 a2 true _ ?side1 ?side2 ?side3 ?side4 A6.out).mono ?_); (case side1 => exact kC_ HR0.out); (case side2 => exact HC0.out); (case side3 => exact kC_ HR1.out); (case side4 => exact HC1.out); rintro e w' ⟨rfl, ⟨nd, rfl⟩⟩; refine ⟨_, rfl, ?_⟩) | (go_at_call 52; (with_reducible refine (spec_dlTrain.calls _ _ l0 a3 false _ ?side1 ?side2 A8.out).mono ?_); (case side1 => exact kC_ HR0.out); (case side2 => exact HC0.out); rintro e w' ⟨rfl, ⟨nd, rfl⟩⟩))
   go_ret2
   exact ⟨es_, by repeat (first | exact Drawn0.refl _ | apply Drawn0.step)⟩
 ·
  replace c7 := Bool.eq_false_iff.mpr c7
  subst c7
  rw [if_neg (show ¬ (false = true) by decide)] at H
  simp only [Option.some.injEq, Prod.mk.injEq] at H
  obtain ⟨rfl, rfl⟩ := H
  go_enter Try.func15, Try.ntmps15
  go_wp2_with (first | ((with_reducible refine gate_callee (f := 51) rfl ?_); refine goesL_ (some 15) rfl rfl Try.func51 kr_ rfl #[.slice A0 l0.length c0, .slice A1 l1.length c1, .int .i64 a2] rfl am_ ?_; (with_reducible refine (spec_dlGood.calls k _ _ l0 _ _ l1 a2 false _ ?side1 ?side2 ?side3 ?side4 A6.out).mono ?_); (case side1 => exact kC_ HR0.out); (case side2 => exact HC0.out); (case side3 => exact kC_ HR1.out); (case side4 => exact HC1.out); rintro e w' ⟨rfl, ⟨nd, rfl⟩⟩; refine ⟨_, rfl, ?_⟩))
  go_ret2
  exact ⟨es_, by repeat (first | exact Drawn0.refl _ | apply Drawn0.step)⟩

/-! ### impl_within: function 68 -/
def impl_within.f (a0 : Int) (a1 : Int) (a2 : Int) : Option (Bool) := if a0 ≥ a1 then (some (decide (a0 ≤ a2))) else (some false)
set_option maxHeartbeats 8000000 in
set_option maxRecDepth 100000 in
theorem impl_within.calls (a0 : Int) (a1 : Int) (a2 : Int) (r : Bool) (w : World) (h : impl_within.f a0 a1 a2 = some r) :
 Calls Try.prog 68 #[.int .i64 a0, .int .i64 a1, .int .i64 a2] w fun e w' => e = .returned (.bool r) ∧ Drawn0 w w' := by
 have H : (if a0 ≥ a1 then (some (decide (a0 ≤ a2))) else (some false)) = some r := h
 clear h
 by_cases c4 : a0 ≥ a1
 ·
  rw [if_pos c4] at H
  have c4b0 := decide_eq_true c4
  clear c4
  obtain rfl := Option.some.inj H
  go_enter Try.func68, Try.ntmps68
  go_wp2
  go_ret
  exact ⟨es_, by repeat (first | exact Drawn0.refl _ | apply Drawn0.step)⟩
 ·
  rw [if_neg c4] at H
  have c4b0 := decide_eq_false c4
  clear c4
  obtain rfl := Option.some.inj H
  go_enter Try.func68, Try.ntmps68
  go_wp2
  go_ret
  exact ⟨es_, by repeat (first | exact Drawn0.refl _ | apply Drawn0.step)⟩

-- NOT PRINTED: function 119 (slices_IndexFunc_int_int_119)

-- NOT PRINTED: function 116 (slices_ContainsFunc_int_int_116)

/-! ### impl_isFinite: function 122 -/
def impl_isFinite.f (a0 : Int) : Option (Bool) := if a0 ≥ (-1000000) then (some (decide (a0 ≤ 1000000))) else (some false)
set_option maxHeartbeats 8000000 in
set_option maxRecDepth 100000 in
theorem impl_isFinite.calls (a0 : Int) (r : Bool) (w : World) (h : impl_isFinite.f a0 = some r) :
 Calls Try.prog 122 #[.int .i64 a0] w fun e w' => e = .returned (.bool r) ∧ Drawn0 w w' := by
 have H : (if a0 ≥ (-1000000) then (some (decide (a0 ≤ 1000000))) else (some false)) = some r := h
 clear h
 by_cases c2 : a0 ≥ (-1000000)
 ·
  rw [if_pos c2] at H
  have c2b0 := decide_eq_true c2
  clear c2
  obtain rfl := Option.some.inj H
  go_enter Try.func122, Try.ntmps122
  go_wp2
  go_ret
  exact ⟨es_, by repeat (first | exact Drawn0.refl _ | apply Drawn0.step)⟩
 ·
  rw [if_neg c2] at H
  have c2b0 := decide_eq_false c2
  clear c2
  obtain rfl := Option.some.inj H
  go_enter Try.func122, Try.ntmps122
  go_wp2
  go_ret
  exact ⟨es_, by repeat (first | exact Drawn0.refl _ | apply Drawn0.step)⟩

/-! ### impl_isNumber: function 121 -/
def impl_isNumber.f (a0 : Int) : Option (Bool) := (impl_isFinite.f a0).bind fun t154 => (if t154 = true then (some true) else (some (a0 == 1000000000)))
set_option maxHeartbeats 8000000 in
set_option maxRecDepth 100000 in
theorem impl_isNumber.calls (a0 : Int) (r : Bool) (w : World) (h : impl_isNumber.f a0 = some r) :
 Calls Try.prog 121 #[.int .i64 a0] w fun e w' => e = .returned (.bool r) ∧ Drawn0 w w' := by
 have H : ((impl_isFinite.f a0).bind fun t154 => (if t154 = true then (some true) else (some (a0 == 1000000000)))) = some r := h
 clear h
 obtain ⟨t154, A20, H⟩ := Option.bind_eq_some_iff.mp H
 try dsimp only at H
 have A2 := A_ A20; clear A20
 by_cases c3 : t154 = true
 ·
  subst c3
  rw [if_pos rfl] at H
  obtain rfl := Option.some.inj H
  go_enter Try.func121, Try.ntmps121
  go_wp2_with (first | ((with_reducible refine gate_callee (f := 122) rfl ?_); refine goesL_ (some 4) rfl rfl Try.func122 kr_ rfl #[.int .i64 a0] rfl am_ ?_; (with_reducible refine (impl_isFinite.calls a0 true _ A2.out).mono ?_); rintro e w' ⟨rfl, ⟨nd, rfl⟩⟩; refine ⟨_, rfl, ?_⟩))
  go_ret
  exact ⟨es_, by repeat (first | exact Drawn0.refl _ | apply Drawn0.step)⟩
 ·
  replace c3 := Bool.eq_false_iff.mpr c3
  subst c3
  rw [if_neg (show ¬ (false = true) by decide)] at H
  obtain rfl := Option.some.inj H
  go_enter Try.func121, Try.ntmps121
  go_wp2_with (first | ((with_reducible refine gate_callee (f := 122) rfl ?_); refine goesL_ (some 4) rfl rfl Try.func122 kr_ rfl #[.int .i64 a0] rfl am_ ?_; (with_reducible refine (impl_isFinite.calls a0 false _ A2.out).mono ?_); rintro e w' ⟨rfl, ⟨nd, rfl⟩⟩; refine ⟨_, rfl, ?_⟩))
  go_ret
  exact ⟨es_, by repeat (first | exact Drawn0.refl _ | apply Drawn0.step)⟩

/-! ### impl_areNumbers: function 120 -/
def impl_areNumbers.l0 : Nat → List Int → Int → Int → Option (Bool)
  | 0, _, _, _ => none
  | k + 1, x5, x6, x7 => if x7 < x6 then (if 0 ≤ x7 then (if x7 < (x5.length : Int) then ((impl_isNumber.f (rd x5 x7)).bind fun t156 => (if t156 = true then (impl_areNumbers.l0 k x5 x6 (wrap64 (x7 + 1))) else (some false))) else (none)) else (none)) else (some true)
def impl_areNumbers.f (k : Nat) (l0 : List Int) : Option (Bool) := impl_areNumbers.l0 k l0 (l0.length : Int) 0
theorem impl_areNumbers.mono_l : ∀ k, (∀ y0 y1 y2, LeO (impl_areNumbers.l0 k y0 y1 y2) (impl_areNumbers.l0 (k + 1) y0 y1 y2))
  | 0 => fun _ _ _ r h => by simp [impl_areNumbers.l0] at h
  | k + 1 => by
    have ih0 := impl_areNumbers.mono_l k
    · intro y0 y1 y2
      unfold impl_areNumbers.l0
      repeat' first | (with_reducible first | exact ih0 _ _ _ | exact LeO.refl _ | exact LeO.none _ | refine LeO.ite ?_ ?_ | refine LeO.bind ?_ (fun _ => ?_)) | exact ih0 _ _ _ | exact LeO.none _ | refine LeO.ite ?_ ?_ | refine LeO.bind ?_ (fun _ => ?_)
theorem impl_areNumbers.mono : ∀ a0 k, LeO (impl_areNumbers.f k a0) (impl_areNumbers.f (k + 1) a0) := by
 intro a0 k
 have ih0 := impl_areNumbers.mono_l k
 unfold impl_areNumbers.f
 repeat' first | (with_reducible first | exact ih0 _ _ _ | exact LeO.refl _ | exact LeO.none _ | refine LeO.ite ?_ ?_ | refine LeO.bind ?_ (fun _ => ?_)) | exact ih0 _ _ _ | exact LeO.none _ | refine LeO.ite ?_ ?_ | refine LeO.bind ?_ (fun _ => ?_)
set_option maxHeartbeats 8000000 in
set_option maxRecDepth 100000 in
theorem impl_areNumbers.calls (k : Nat) (A0 : Option Addr) (c0 : Nat) (l0 : List Int) (r : Bool) (w : World) (hr0 : Kd.C (Kd.int .i64) w A0 l0.length l0) (hc0 : l0.length ≤ c0) (h : impl_areNumbers.f k l0 = some r) :
 Calls Try.prog 120 #[.slice A0 l0.length c0] w fun e w' => e = .returned (.bool r) ∧ Drawn0 w w' := by
 have HR0 := A_ hr0
 have HC0 := A_ hc0
 clear hr0 hc0
 have H : (impl_areNumbers.l0 k l0 (l0.length : Int) 0) = some r := h
 clear h
 have H' := A_ H; clear H
 go_enter Try.func120, Try.ntmps120
 go_wp2
 go_loopg [7] k (fun kq v7 w' => ∃ (x7_1 : Int), v7 = .int .i64 x7_1 ∧ Aside0 (impl_areNumbers.l0 kq l0 (l0.length : Int) x7_1 = some r) ∧ Aside0 (kq ≤ k) ∧ Drawn0 w w')
 case atStart => exact ⟨(0), es_, H', ⟨Nat.le_refl _⟩, by repeat (first | exact Drawn0.refl _ | apply Drawn0.step)⟩
 case round =>
  clear H'
  try clear c1
  obtain ⟨x7_1, rfl, HA, HK1, ⟨m1, rfl⟩⟩ := hrel
  cases gk with
  | zero => exact absurd HA.out (by simp [impl_areNumbers.l0])
  | succ k1 =>
   have H := HA.out
   clear HA
   simp only [impl_areNumbers.l0] at H
   by_cases c2 : x7_1 < (l0.length : Int)
   ·
    rw [if_pos c2] at H
    have c2b0 := decide_eq_true c2
    clear c2
    by_cases c3 : 0 ≤ x7_1
    ·
     rw [if_pos c3] at H
     have c3b0 := decide_eq_true c3
     clear c3
     by_cases c4 : x7_1 < (l0.length : Int)
     ·
      rw [if_pos c4] at H
      have c4b0 := decide_eq_true c4
      clear c4
      obtain ⟨t156, A50, H⟩ := Option.bind_eq_some_iff.mp H
      try dsimp only at H
      have A5 := A_ A50; clear A50
      by_cases c6 : t156 = true
      ·
       subst c6
       rw [if_pos rfl] at H
       have H' := A_ H; clear H
       have p155 : 0 ≤ (x7_1 : Int) := od_
       have q155 : x7_1 < (l0.length : Int) := od_
       obtain ⟨ad155, e155, hx155_0⟩ := Kd.at_int HR0.out x7_1 p155 q155
       cases e155
       replace p155 := eq_true p155
       replace q155 := eq_true q155
       go_wp2_with (first | ((with_reducible refine gate_callee (f := 121) rfl ?_); refine goesL_ (some 12) rfl rfl Try.func121 kr_ rfl #[.int .i64 (rd l0 x7_1)] rfl am_ ?_; (with_reducible refine (impl_isNumber.calls (rd l0 x7_1) true _ A5.out).mono ?_); rintro e w' ⟨rfl, ⟨nd, rfl⟩⟩; refine ⟨_, rfl, ?_⟩))
       go_roundg k1
       case measure => have := HK1.out; omega
       case rel => exact ⟨(wrap64 (x7_1 + 1)), es_, H', ⟨by have := HK1.out; omega⟩, by repeat (first | exact Drawn0.refl _ | apply Drawn0.step)⟩
      ·
       replace c6 := Bool.eq_false_iff.mpr c6
       subst c6
       rw [if_neg (show ¬ (false = true) by decide)] at H
       obtain rfl := Option.some.inj H
       have p155 : 0 ≤ (x7_1 : Int) := od_
       have q155 : x7_1 < (l0.length : Int) := od_
       obtain ⟨ad155, e155, hx155_0⟩ := Kd.at_int HR0.out x7_1 p155 q155
       cases e155
       replace p155 := eq_true p155
       replace q155 := eq_true q155
       go_wp2_with (first | ((with_reducible refine gate_callee (f := 121) rfl ?_); refine goesL_ (some 12) rfl rfl Try.func121 kr_ rfl #[.int .i64 (rd l0 x7_1)] rfl am_ ?_; (with_reducible refine (impl_isNumber.calls (rd l0 x7_1) false _ A5.out).mono ?_); rintro e w' ⟨rfl, ⟨nd, rfl⟩⟩; refine ⟨_, rfl, ?_⟩))
       go_ret
       exact ⟨es_, by repeat (first | exact Drawn0.refl _ | apply Drawn0.step)⟩
     ·
      rw [if_neg c4] at H; cases H
    ·
     rw [if_neg c3] at H; cases H
   ·
    rw [if_neg c2] at H
    have c2b0 := decide_eq_false c2
    clear c2
    obtain rfl := Option.some.inj H
    go_wp2
    go_ret
    exact ⟨es_, by repeat (first | exact Drawn0.refl _ | apply Drawn0.step)⟩


end Go.Proofs.Ytebjiooojkhkpaa.X
