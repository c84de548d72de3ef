-- Shaken out of the printed texts.
import Derived.Test.YtebjiooojkhkpaaZFnBuffersWBX0
import Derived.Test.YtebjiooojkhkpaaZFnBuffersQ
import Derived.Test.YtebjiooojkhkpaaZFnBuffersX6
import Derived.Test.YtebjiooojkhkpaaZFnBuffersX8
namespace Go.Proofs.Ytebjiooojkhkpaa.X
open Go.RowKit Go.Proofs.YtebjiooojkhkpaaW.PrintWords Go.Proofs.YtebjiooojkhkpaaW.PrintLast Go.Proofs.YtebjiooojkhkpaaW.PrintMore
attribute [local go_sem] max2_int min2_int max_two min_two max_three min_three max_four min_four   -- for this text's walks alone
set_option linter.unusedVariables false
set_option linter.unusedSimpArgs false

/-! ### laws_qInts: function 42 -/
def laws_qInts.l0 : Nat → List Int → List Int → Int → Int → Option (Bool)
  | 0, _, _, _, _ => none
  | k + 1, x0, x1, x12, x13 => if x13 < x12 then (if 0 ≤ x13 then (if x13 < (x0.length : Int) then (if x13 < (x1.length : Int) then (if (rd x0 x13) = (rd x1 x13) then (laws_qInts.l0 k x0 x1 x12 (wrap64 (x13 + 1))) else (some false)) else (none)) else (none)) else (none)) else (some true)
def laws_qInts.f (k : Nat) (l0 : List Int) (l1 : List Int) : Option (Bool) := if (l0.length : Int) = (l1.length : Int) then (laws_qInts.l0 k l0 l1 (l0.length : Int) 0) else (some false)
theorem laws_qInts.mono_l : ∀ k, (∀ y0 y1 y2 y3, LeO (laws_qInts.l0 k y0 y1 y2 y3) (laws_qInts.l0 (k + 1) y0 y1 y2 y3))
  | 0 => fun _ _ _ _ r h => by simp [laws_qInts.l0] at h
  | k + 1 => by
    have ih0 := laws_qInts.mono_l k
    · intro y0 y1 y2 y3
      unfold laws_qInts.l0
      repeat' first | (with_reducible first | exact ih0 _ _ _ _ | exact LeO.refl _ | exact LeO.none _ | refine LeO.ite ?_ ?_ | refine LeO.bind ?_ (fun _ => ?_)) | exact ih0 _ _ _ _ | exact LeO.none _ | refine LeO.ite ?_ ?_ | refine LeO.bind ?_ (fun _ => ?_)
theorem laws_qInts.mono : ∀ a0 a1 k, LeO (laws_qInts.f k a0 a1) (laws_qInts.f (k + 1) a0 a1) := by
 intro a0 a1 k
 have ih0 := laws_qInts.mono_l k
 unfold laws_qInts.f
 repeat' first | (with_reducible first | exact ih0 _ _ _ _ | exact LeO.refl _ | exact LeO.none _ | refine LeO.ite ?_ ?_ | refine LeO.bind ?_ (fun _ => ?_)) | exact ih0 _ _ _ _ | exact LeO.none _ | refine LeO.ite ?_ ?_ | refine LeO.bind ?_ (fun _ => ?_)
set_option maxHeartbeats 8000000 in
set_option maxRecDepth 100000 in
theorem laws_qInts.calls (k : Nat) (A0 : Option Addr) (c0 : Nat) (l0 : List Int) (A1 : Option Addr) (c1 : Nat) (l1 : List Int) (r : Bool) (w : World) (hr0 : Kd.C (Kd.int .i64) w A0 l0.length l0) (hc0 : l0.length ≤ c0) (hr1 : Kd.C (Kd.int .i64) w A1 l1.length l1) (hc1 : l1.length ≤ c1) (h : laws_qInts.f k l0 l1 = some r) :
 Calls Try.prog 42 #[.slice A0 l0.length c0, .slice A1 l1.length c1] w fun e w' => e = .returned (.bool r) ∧ Drawn0 w w' := by
 have HR0 := A_ hr0
 have HC0 := A_ hc0
 clear hr0 hc0
 have HR1 := A_ hr1
 have HC1 := A_ hc1
 clear hr1 hc1
 have H : (if (l0.length : Int) = (l1.length : Int) then (laws_qInts.l0 k l0 l1 (l0.length : Int) 0) else (some false)) = some r := h
 clear h
 by_cases c3 : (l0.length : Int) = (l1.length : Int)
 ·
  rw [if_pos c3] at H
  have c3b0 : ((l0.length : Int) == (l1.length : Int)) = true := beq_iff_eq.mpr c3
  have c3b1 : ((l0.length : Int) != (l1.length : Int)) = false := bne_eq_false_iff_eq.mpr c3
  have c3b2 : (l0.length == l1.length) = true := by first | simpa using c3 | (simp at c3 ⊢; omega)
  clear c3
  have H' := A_ H; clear H
  go_enter Try.func42, Try.ntmps42
  go_wp2
  repeat (go_quiet (fail); try go_wp2)
  go_loopg [13] k (fun kq v13 w' => ∃ (x13_1 : Int), v13 = .int .i64 x13_1 ∧ Aside0 (laws_qInts.l0 kq l0 l1 (l0.length : Int) x13_1 = some r) ∧ Aside0 (kq ≤ k) ∧ Drawn0 w w')
  case atStart => exact ⟨(0), es_, H', ⟨Nat.le_refl _⟩, by repeat (first | exact Drawn0.refl _ | apply Drawn0.step)⟩
  case round =>
   clear H'
   (try clear c1); (try clear p2); (try clear c3); (try clear c3b0); (try clear c3b1); (try clear c3b2)
   obtain ⟨x13_1, rfl, HA, HK1, ⟨m1, rfl⟩⟩ := hrel
   cases gk with
   | zero => exact absurd HA.out (by simp [laws_qInts.l0])
   | succ k1 =>
    have H := HA.out
    clear HA
    simp only [laws_qInts.l0] at H
    by_cases c4 : x13_1 < (l0.length : Int)
    ·
     rw [if_pos c4] at H
     have c4b0 := decide_eq_true c4
     clear c4
     by_cases c5 : 0 ≤ x13_1
     ·
      rw [if_pos c5] at H
      have c5b0 := decide_eq_true c5
      clear c5
      by_cases c6 : x13_1 < (l0.length : Int)
      ·
       rw [if_pos c6] at H
       have c6b0 := decide_eq_true c6
       clear c6
       by_cases c7 : x13_1 < (l1.length : Int)
       ·
        rw [if_pos c7] at H
        have c7b0 := decide_eq_true c7
        clear c7
        by_cases c8 : (rd l0 x13_1) = (rd l1 x13_1)
        ·
         rw [if_pos c8] at H
         have c8b0 : ((rd l0 x13_1) == (rd l1 x13_1)) = true := beq_iff_eq.mpr c8
         have c8b1 : ((rd l0 x13_1) != (rd l1 x13_1)) = false := bne_eq_false_iff_eq.mpr c8
         clear c8
         have H' := A_ H; clear H
         have p940 : 0 ≤ (x13_1 : Int) := od_
         have q940 : x13_1 < (l0.length : Int) := od_
         obtain ⟨ad940, e940, hx940_0⟩ := Kd.at_int HR0.out x13_1 p940 q940
         cases e940
         replace p940 := eq_true p940
         replace q940 := eq_true q940
         have p941 : 0 ≤ (x13_1 : Int) := od_
         have q941 : x13_1 < (l1.length : Int) := od_
         obtain ⟨ad941, e941, hx941_0⟩ := Kd.at_int HR1.out x13_1 p941 q941
         cases e941
         replace p941 := eq_true p941
         replace q941 := eq_true q941
         go_wp2
         repeat (go_quiet (fail); try go_wp2)
         go_roundg k1
         case measure => have := HK1.out; omega
         case rel => exact ⟨(wrap64 (x13_1 + 1)), es_, H', ⟨by have := HK1.out; omega⟩, by repeat (first | exact Drawn0.refl _ | apply Drawn0.step)⟩
        ·
         rw [if_neg c8] at H
         have c8b0 : ((rd l0 x13_1) == (rd l1 x13_1)) = false := beq_eq_false_iff_ne.mpr c8
         have c8b1 : ((rd l0 x13_1) != (rd l1 x13_1)) = true := bne_iff_ne.mpr c8
         obtain rfl := Option.some.inj H
         have p940 : 0 ≤ (x13_1 : Int) := od_
         have q940 : x13_1 < (l0.length : Int) := od_
         obtain ⟨ad940, e940, hx940_0⟩ := Kd.at_int HR0.out x13_1 p940 q940
         cases e940
         replace p940 := eq_true p940
         replace q940 := eq_true q940
         have p941 : 0 ≤ (x13_1 : Int) := od_
         have q941 : x13_1 < (l1.length : Int) := od_
         obtain ⟨ad941, e941, hx941_0⟩ := Kd.at_int HR1.out x13_1 p941 q941
         cases e941
         replace p941 := eq_true p941
         replace q941 := eq_true q941
         go_wp2
         repeat (go_quiet (fail); try go_wp2)
         go_ret
         exact ⟨es_, by repeat (first | exact Drawn0.refl _ | apply Drawn0.step)⟩
       ·
        rw [if_neg c7] at H; cases H
      ·
       rw [if_neg c6] at H; cases H
     ·
      rw [if_neg c5] at H; cases H
    ·
     rw [if_neg c4] at H
     have c4b0 := decide_eq_false c4
     clear c4
     obtain rfl := Option.some.inj H
     go_wp2
     repeat (go_quiet (fail); try go_wp2)
     go_ret
     exact ⟨es_, by repeat (first | exact Drawn0.refl _ | apply Drawn0.step)⟩
 ·
  rw [if_neg c3] at H
  have c3b0 : ((l0.length : Int) == (l1.length : Int)) = false := beq_eq_false_iff_ne.mpr c3
  have c3b1 : ((l0.length : Int) != (l1.length : Int)) = true := bne_iff_ne.mpr c3
  have c3b2 : (l0.length == l1.length) = false := by first | simpa using c3 | (simp at c3 ⊢; omega)
  obtain rfl := Option.some.inj H
  go_enter Try.func42, Try.ntmps42
  go_wp2
  repeat (go_quiet (fail); try go_wp2)
  go_ret
  exact ⟨es_, by repeat (first | exact Drawn0.refl _ | apply Drawn0.step)⟩

/-! ### spec_DrawCriticalWaits: function 45 -/
def spec_DrawCriticalWaits.f (k : Nat) (l0 : List Int) : Option ((List (List Int)) × List Int × Int) := (spec_l1Cur_planned.f k l0 0 0).bind fun bt1034 => (some (bt1034.1, bt1034.2.1, bt1034.2.2.1))
theorem spec_DrawCriticalWaits.mono : ∀ a0 k, LeO (spec_DrawCriticalWaits.f k a0) (spec_DrawCriticalWaits.f (k + 1) a0) := by
 intro a0 k
 unfold spec_DrawCriticalWaits.f
 repeat' first | (with_reducible first | exact spec_l1Cur_planned.mono _ _ _ _ | exact LeO.refl _ | exact LeO.none _ | refine LeO.ite ?_ ?_ | refine LeO.bind ?_ (fun _ => ?_)) | exact spec_l1Cur_planned.mono _ _ _ _ | exact LeO.none _ | refine LeO.ite ?_ ?_ | refine LeO.bind ?_ (fun _ => ?_)
set_option maxHeartbeats 8000000 in
set_option maxRecDepth 100000 in
theorem spec_DrawCriticalWaits.calls (k : Nat) (A0 : Option Addr) (c0 : Nat) (l0 : List Int) (r1 : List (List Int)) (r2 : List Int) (r3 : Int) (w : World) (hr0 : Kd.C (Kd.int .u8) w A0 l0.length l0) (hc0 : l0.length ≤ c0) (h : spec_DrawCriticalWaits.f k l0 = some (r1, r2, r3)) :
 Calls Try.prog 45 #[.slice A0 l0.length c0] w fun e w' => ∃ v0_ v1_ : Value, e = .returned (.tuple #[v0_, v1_, .int .i64 r3]) ∧ Kd.S (Kd.slice 3 (Kd.int .i64)) 23 w' w.heap.size (fun k_ => some k_ ≠ (v1_ : Value).ownBlock) v0_ r1 ∧ Kd.Q (Kd.int .i64) 3 w' w.heap.size (fun _ => True) v1_ r2 ∧ Below w.heap.size w w' := by
 have hu83 := Try.underlying83
 have HR0 := A_ hr0
 have HC0 := A_ hc0
 clear hr0 hc0
 have HB := A_ (Below.refl w.heap.size w)
 have H : ((spec_l1Cur_planned.f k l0 0 0).bind fun bt1034 => (some (bt1034.1, bt1034.2.1, bt1034.2.2.1))) = some (r1, r2, r3) := h
 clear h
 obtain ⟨⟨t1034, t1037, t1040, t1041, t1042⟩, A20, H⟩ := Option.bind_eq_some_iff.mp H
 try dsimp only at H
 have A2 := A_ A20; clear A20
 simp only [Option.some.injEq, Prod.mk.injEq] at H
 obtain ⟨rfl, rfl, rfl⟩ := H
 go_enter Try.func45, Try.ntmps45
 go_wp2_with (first | ((with_reducible refine gate_dst (N := 8) rfl ?_); refine box_event ?hg (N := 8) ?hd (cs := #[.slice A0 l0.length c0, .int .i64 0, .int .u64 0]) (t := 83) ?hr ?_; (case hd => rfl); (case hg => rfl); (case hr => first | (go_simp; done) | (go_simp; rfl)); intro gb1033 hg w3 hbox hb; have n0_ := A_ (below_step bl_ hb); have n1_ := A_ ((by rw [hg]; exact (below_size bl_) : w.heap.size ≤ gb1033)); have n2_ := A_ ((by rw [hg]; exact (below_size bl_) : w.heap.size ≤ gb1033)); have n3_ := A_ ((show IsS83 w w3 gb1033 l0 0 0 from ⟨_, _, hbox, (by rw [hg]; exact (below_size bl_) : w.heap.size ≤ gb1033), HR0.out⟩)); clear HB; have HB := n0_; have GW1033 := n1_; have GE1033 := n2_; have HI1033 := n3_; clear n0_ n1_ n2_ n3_; clear hb hbox hg) | ((with_reducible refine gate_callee (f := 74) rfl ?_); refine goesL_ (some 10) rfl rfl Try.func74 kr_ rfl #[.pointer (some ⟨gb1033, 0, none⟩)] rfl am_ ?_; (with_reducible refine (spec_l1Cur_planned.calls k gb1033 l0 0 0 t1034 t1037 t1040 t1041 t1042 w _ ?side1 ?side2 A2.out).mono ?_); (case side1 => exact kI_83 HI1033.out); (case side2 => exact bs_ (IsS83.ge HI1033.out)); rintro e w4 ⟨v1035, v1038, rfl, ho0, ho1, hi, hb, hk⟩; refine ⟨_, rfl, ?_⟩; have n0_ := A_ (Kd.S_lower ho0 (below_size (bs_ (IsS83.ge HI1033.out)))); have n1_ := A_ (Kd.Q_lower ho1 (below_size (bs_ (IsS83.ge HI1033.out)))); have n2_ := A_ (hb); have n3_ := A_ (hi); clear HB; clear HI1033; have HO1036 := n0_; have HO1039 := n1_; have HB := n2_; have HI1033 := n3_; clear n0_ n1_ n2_ n3_; (try clear hb); (try clear hb2); (try clear hk); (try clear hi); (try clear ho0); (try clear ho1)))
 go_ret3
 exact ⟨_, _, ew_, kS_ HO1036.out, kQ_ HO1039.out, bs_ (IsS83.ge HI1033.out)⟩

/-! ### laws_qLists: function 46 -/
def laws_qLists.l0 : Nat → List (List Int) → List (List Int) → Int → Int → Option (Bool)
  | 0, _, _, _, _ => none
  | k + 1, x0, x1, x12, x13 => if x13 < x12 then (if 0 ≤ x13 then (if x13 < (x0.length : Int) then (if x13 < (x1.length : Int) then ((laws_qInts.f k (rd_L1 x0 x13) (rd_L1 x1 x13)).bind fun t1045 => (if t1045 = true then (laws_qLists.l0 k x0 x1 x12 (wrap64 (x13 + 1))) else (some false))) else (none)) else (none)) else (none)) else (some true)
def laws_qLists.f (k : Nat) (l0 : List (List Int)) (l1 : List (List Int)) : Option (Bool) := if (l0.length : Int) = (l1.length : Int) then (laws_qLists.l0 k l0 l1 (l0.length : Int) 0) else (some false)
theorem laws_qLists.mono_l : ∀ k, (∀ y0 y1 y2 y3, LeO (laws_qLists.l0 k y0 y1 y2 y3) (laws_qLists.l0 (k + 1) y0 y1 y2 y3))
  | 0 => fun _ _ _ _ r h => by simp [laws_qLists.l0] at h
  | k + 1 => by
    have ih0 := laws_qLists.mono_l k
    · intro y0 y1 y2 y3
      unfold laws_qLists.l0
      repeat' first | (with_reducible first | exact ih0 _ _ _ _ | exact laws_qInts.mono _ _ _ | exact LeO.refl _ | exact LeO.none _ | refine LeO.ite ?_ ?_ | refine LeO.bind ?_ (fun _ => ?_)) | exact ih0 _ _ _ _ | exact laws_qInts.mono _ _ _ | exact LeO.none _ | refine LeO.ite ?_ ?_ | refine LeO.bind ?_ (fun _ => ?_)
theorem laws_qLists.mono : ∀ a0 a1 k, LeO (laws_qLists.f k a0 a1) (laws_qLists.f (k + 1) a0 a1) := by
 intro a0 a1 k
 have ih0 := laws_qLists.mono_l k
 unfold laws_qLists.f
 repeat' first | (with_reducible first | exact ih0 _ _ _ _ | exact laws_qInts.mono _ _ _ | exact LeO.refl _ | exact LeO.none _ | refine LeO.ite ?_ ?_ | refine LeO.bind ?_ (fun _ => ?_)) | exact ih0 _ _ _ _ | exact laws_qInts.mono _ _ _ | exact LeO.none _ | refine LeO.ite ?_ ?_ | refine LeO.bind ?_ (fun _ => ?_)
set_option maxHeartbeats 8000000 in
set_option maxRecDepth 100000 in
theorem laws_qLists.calls (k : Nat) (A0 : Option Addr) (c0 : Nat) (l0 : List (List Int)) (A1 : Option Addr) (c1 : Nat) (l1 : List (List Int)) (r : Bool) (w : World) (hr0 : Kd.C (Kd.slice 3 (Kd.int .i64)) w A0 l0.length l0) (hc0 : l0.length ≤ c0) (hr1 : Kd.C (Kd.slice 3 (Kd.int .i64)) w A1 l1.length l1) (hc1 : l1.length ≤ c1) (h : laws_qLists.f k l0 l1 = some r) :
 Calls Try.prog 46 #[.slice A0 l0.length c0, .slice A1 l1.length c1] w fun e w' => e = .returned (.bool r) ∧ Drawn0 w w' := by
 have HR0 := A_ hr0
 have HC0 := A_ hc0
 clear hr0 hc0
 have HR1 := A_ hr1
 have HC1 := A_ hc1
 clear hr1 hc1
 have H : (if (l0.length : Int) = (l1.length : Int) then (laws_qLists.l0 k l0 l1 (l0.length : Int) 0) else (some false)) = some r := h
 clear h
 by_cases c3 : (l0.length : Int) = (l1.length : Int)
 ·
  rw [if_pos c3] at H
  have c3b0 : ((l0.length : Int) == (l1.length : Int)) = true := beq_iff_eq.mpr c3
  have c3b1 : ((l0.length : Int) != (l1.length : Int)) = false := bne_eq_false_iff_eq.mpr c3
  have c3b2 : (l0.length == l1.length) = true := by first | simpa using c3 | (simp at c3 ⊢; omega)
  clear c3
  have H' := A_ H; clear H
  go_enter Try.func46, Try.ntmps46
  go_wp2
  repeat (go_quiet (fail); try go_wp2)
  go_loopg [13] k (fun kq v13 w' => ∃ (x13_1 : Int), v13 = .int .i64 x13_1 ∧ Aside0 (laws_qLists.l0 kq l0 l1 (l0.length : Int) x13_1 = some r) ∧ Aside0 (kq ≤ k) ∧ Drawn0 w w')
  case atStart => exact ⟨(0), es_, H', ⟨Nat.le_refl _⟩, by repeat (first | exact Drawn0.refl _ | apply Drawn0.step)⟩
  case round =>
   clear H'
   (try clear c1); (try clear p2); (try clear c3); (try clear c3b0); (try clear c3b1); (try clear c3b2)
   obtain ⟨x13_1, rfl, HA, HK1, ⟨m1, rfl⟩⟩ := hrel
   cases gk with
   | zero => exact absurd HA.out (by simp [laws_qLists.l0])
   | succ k1 =>
    have H := HA.out
    clear HA
    simp only [laws_qLists.l0] at H
    by_cases c4 : x13_1 < (l0.length : Int)
    ·
     rw [if_pos c4] at H
     have c4b0 := decide_eq_true c4
     clear c4
     by_cases c5 : 0 ≤ x13_1
     ·
      rw [if_pos c5] at H
      have c5b0 := decide_eq_true c5
      clear c5
      by_cases c6 : x13_1 < (l0.length : Int)
      ·
       rw [if_pos c6] at H
       have c6b0 := decide_eq_true c6
       clear c6
       by_cases c7 : x13_1 < (l1.length : Int)
       ·
        rw [if_pos c7] at H
        have c7b0 := decide_eq_true c7
        clear c7
        obtain ⟨t1045, A80, H⟩ := Option.bind_eq_some_iff.mp H
        try dsimp only at H
        have A8 := A_ A80; clear A80
        by_cases c9 : t1045 = true
        ·
         subst c9
         rw [if_pos rfl] at H
         have H' := A_ H; clear H
         have p1043 : 0 ≤ (x13_1 : Int) := od_
         have q1043 : x13_1 < (l0.length : Int) := od_
         obtain ⟨ad1043, A1043_0, c1043_0, e1043, hx1043_0, hl1043_0, hi1043_0⟩ := at_L1 HR0.out x13_1 p1043 q1043
         cases e1043
         have HR1043_0 := A_ hi1043_0
         have HC1043_0 := A_ hl1043_0
         clear hi1043_0 hl1043_0
         replace p1043 := eq_true p1043
         replace q1043 := eq_true q1043
         have p1044 : 0 ≤ (x13_1 : Int) := od_
         have q1044 : x13_1 < (l1.length : Int) := od_
         obtain ⟨ad1044, A1044_0, c1044_0, e1044, hx1044_0, hl1044_0, hi1044_0⟩ := at_L1 HR1.out x13_1 p1044 q1044
         cases e1044
         have HR1044_0 := A_ hi1044_0
         have HC1044_0 := A_ hl1044_0
         clear hi1044_0 hl1044_0
         replace p1044 := eq_true p1044
         replace q1044 := eq_true q1044
         go_wp2_with (first | (go_at_call 42; (with_reducible refine (laws_qInts.calls k1 _ _ (rd_L1 l0 x13_1) _ _ (rd_L1 l1 x13_1) true _ ?side1 ?side2 ?side3 ?side4 A8.out).mono ?_); (case side1 => exact kC_ HR1043_0.out); (case side2 => exact HC1043_0.out); (case side3 => exact kC_ HR1044_0.out); (case side4 => exact HC1044_0.out); rintro e w' ⟨rfl, ⟨nd, rfl⟩⟩; (try first | exact ⟨rfl, _, World.drewN_drewN _ _ _⟩ | exact ⟨rfl, _, Eq.trans (World.drewN_drewN _ _ _) (congrArg (World.drewN _) (Nat.add_assoc _ _ _))⟩)))
         repeat (go_quiet (first | (go_at_call 42; (with_reducible refine (laws_qInts.calls k1 _ _ (rd_L1 l0 x13_1) _ _ (rd_L1 l1 x13_1) true _ ?side1 ?side2 ?side3 ?side4 A8.out).mono ?_); (case side1 => exact kC_ HR1043_0.out); (case side2 => exact HC1043_0.out); (case side3 => exact kC_ HR1044_0.out); (case side4 => exact HC1044_0.out); rintro e w' ⟨rfl, ⟨nd, rfl⟩⟩; (try first | exact ⟨rfl, _, World.drewN_drewN _ _ _⟩ | exact ⟨rfl, _, Eq.trans (World.drewN_drewN _ _ _) (congrArg (World.drewN _) (Nat.add_assoc _ _ _))⟩))); try go_wp2_with (first | (go_at_call 42; (with_reducible refine (laws_qInts.calls k1 _ _ (rd_L1 l0 x13_1) _ _ (rd_L1 l1 x13_1) true _ ?side1 ?side2 ?side3 ?side4 A8.out).mono ?_); (case side1 => exact kC_ HR1043_0.out); (case side2 => exact HC1043_0.out); (case side3 => exact kC_ HR1044_0.out); (case side4 => exact HC1044_0.out); rintro e w' ⟨rfl, ⟨nd, rfl⟩⟩; (try first | exact ⟨rfl, _, World.drewN_drewN _ _ _⟩ | exact ⟨rfl, _, Eq.trans (World.drewN_drewN _ _ _) (congrArg (World.drewN _) (Nat.add_assoc _ _ _))⟩))))
         go_roundg k1
         case measure => have := HK1.out; omega
         case rel => exact ⟨(wrap64 (x13_1 + 1)), es_, H', ⟨by have := HK1.out; omega⟩, by repeat (first | exact Drawn0.refl _ | apply Drawn0.step)⟩
        ·
         replace c9 := Bool.eq_false_iff.mpr c9
         subst c9
         rw [if_neg (show ¬ (false = true) by decide)] at H
         obtain rfl := Option.some.inj H
         have p1043 : 0 ≤ (x13_1 : Int) := od_
         have q1043 : x13_1 < (l0.length : Int) := od_
         obtain ⟨ad1043, A1043_0, c1043_0, e1043, hx1043_0, hl1043_0, hi1043_0⟩ := at_L1 HR0.out x13_1 p1043 q1043
         cases e1043
         have HR1043_0 := A_ hi1043_0
         have HC1043_0 := A_ hl1043_0
         clear hi1043_0 hl1043_0
         replace p1043 := eq_true p1043
         replace q1043 := eq_true q1043
         have p1044 : 0 ≤ (x13_1 : Int) := od_
         have q1044 : x13_1 < (l1.length : Int) := od_
         obtain ⟨ad1044, A1044_0, c1044_0, e1044, hx1044_0, hl1044_0, hi1044_0⟩ := at_L1 HR1.out x13_1 p1044 q1044
         cases e1044
         have HR1044_0 := A_ hi1044_0
         have HC1044_0 := A_ hl1044_0
         clear hi1044_0 hl1044_0
         replace p1044 := eq_true p1044
         replace q1044 := eq_true q1044
         go_wp2_with (first | (go_at_call 42; (with_reducible refine (laws_qInts.calls k1 _ _ (rd_L1 l0 x13_1) _ _ (rd_L1 l1 x13_1) false _ ?side1 ?side2 ?side3 ?side4 A8.out).mono ?_); (case side1 => exact kC_ HR1043_0.out); (case side2 => exact HC1043_0.out); (case side3 => exact kC_ HR1044_0.out); (case side4 => exact HC1044_0.out); rintro e w' ⟨rfl, ⟨nd, rfl⟩⟩; (try first | exact ⟨rfl, _, World.drewN_drewN _ _ _⟩ | exact ⟨rfl, _, Eq.trans (World.drewN_drewN _ _ _) (congrArg (World.drewN _) (Nat.add_assoc _ _ _))⟩)))
         repeat (go_quiet (first | (go_at_call 42; (with_reducible refine (laws_qInts.calls k1 _ _ (rd_L1 l0 x13_1) _ _ (rd_L1 l1 x13_1) false _ ?side1 ?side2 ?side3 ?side4 A8.out).mono ?_); (case side1 => exact kC_ HR1043_0.out); (case side2 => exact HC1043_0.out); (case side3 => exact kC_ HR1044_0.out); (case side4 => exact HC1044_0.out); rintro e w' ⟨rfl, ⟨nd, rfl⟩⟩; (try first | exact ⟨rfl, _, World.drewN_drewN _ _ _⟩ | exact ⟨rfl, _, Eq.trans (World.drewN_drewN _ _ _) (congrArg (World.drewN _) (Nat.add_assoc _ _ _))⟩))); try go_wp2_with (first | (go_at_call 42; (with_reducible refine (laws_qInts.calls k1 _ _ (rd_L1 l0 x13_1) _ _ (rd_L1 l1 x13_1) false _ ?side1 ?side2 ?side3 ?side4 A8.out).mono ?_); (case side1 => exact kC_ HR1043_0.out); (case side2 => exact HC1043_0.out); (case side3 => exact kC_ HR1044_0.out); (case side4 => exact HC1044_0.out); rintro e w' ⟨rfl, ⟨nd, rfl⟩⟩; (try first | exact ⟨rfl, _, World.drewN_drewN _ _ _⟩ | exact ⟨rfl, _, Eq.trans (World.drewN_drewN _ _ _) (congrArg (World.drewN _) (Nat.add_assoc _ _ _))⟩))))
         go_ret
         exact ⟨es_, by repeat (first | exact Drawn0.refl _ | apply Drawn0.step)⟩
       ·
        rw [if_neg c7] at H; cases H
      ·
       rw [if_neg c6] at H; cases H
     ·
      rw [if_neg c5] at H; cases H
    ·
     rw [if_neg c4] at H
     have c4b0 := decide_eq_false c4
     clear c4
     obtain rfl := Option.some.inj H
     go_wp2
     repeat (go_quiet (fail); try go_wp2)
     go_ret
     exact ⟨es_, by repeat (first | exact Drawn0.refl _ | apply Drawn0.step)⟩
 ·
  rw [if_neg c3] at H
  have c3b0 : ((l0.length : Int) == (l1.length : Int)) = false := beq_eq_false_iff_ne.mpr c3
  have c3b1 : ((l0.length : Int) != (l1.length : Int)) = true := bne_iff_ne.mpr c3
  have c3b2 : (l0.length == l1.length) = false := by first | simpa using c3 | (simp at c3 ⊢; omega)
  obtain rfl := Option.some.inj H
  go_enter Try.func46, Try.ntmps46
  go_wp2
  repeat (go_quiet (fail); try go_wp2)
  go_ret
  exact ⟨es_, by repeat (first | exact Drawn0.refl _ | apply Drawn0.step)⟩

/-! ### spec_l1Cur_trainOf: function 77 -/
def spec_l1Cur_trainOf.f (s0_0 : List Int) (s0_1 : Int) (s0_2 : Int) (a1 : Int) : Option (Int × Int × Int) := (spec_l1Cur_one.f s0_0 s0_1 s0_2 12).bind fun bt1046 => (if bt1046.1 = true then ((spec_l1Cur_among.f s0_0 bt1046.2.1 bt1046.2.2 (([(-1), a1, wrap64 (a1 - 1)] : List Int))).bind fun bt1052 => (some (bt1052.1, bt1052.2.1, bt1052.2.2))) else ((spec_l1Cur_pick.f s0_0 bt1046.2.1 bt1046.2.2 a1).bind fun bt1055 => (some (bt1055.1, bt1055.2.1, bt1055.2.2))))
set_option maxHeartbeats 8000000 in
set_option maxRecDepth 100000 in
theorem spec_l1Cur_trainOf.calls (g : Nat) (s0_0 : List Int) (s0_1 : Int) (s0_2 : Int) (a1 : Int) (r1 : Int) (r2 : Int) (r3 : Int) (w0 w : World) (hI : IsS83 w0 w g s0_0 s0_1 s0_2) (hB : Below w0.heap.size w0 w) (h : spec_l1Cur_trainOf.f s0_0 s0_1 s0_2 a1 = some (r1, r2, r3)) :
 Calls Try.prog 77 #[.pointer (some ⟨g, 0, none⟩), .int .i64 a1] w fun e w' => e = .returned (.int .i64 r1) ∧ IsS83 w0 w' g s0_0 r2 r3 ∧ Below w0.heap.size w0 w' ∧ KeepBut w w' g none := by
 have HI0 := A_ hI
 have HK := A_ (KeepBut.refl w g none)
 have HL := A_ hB.size
 clear hI
 have HW0 := A_ hB.size
 have HB := A_ hB
 clear hB
 have H : ((spec_l1Cur_one.f s0_0 s0_1 s0_2 12).bind fun bt1046 => (if bt1046.1 = true then ((spec_l1Cur_among.f s0_0 bt1046.2.1 bt1046.2.2 (([(-1), a1, wrap64 (a1 - 1)] : List Int))).bind fun bt1052 => (some (bt1052.1, bt1052.2.1, bt1052.2.2))) else ((spec_l1Cur_pick.f s0_0 bt1046.2.1 bt1046.2.2 a1).bind fun bt1055 => (some (bt1055.1, bt1055.2.1, bt1055.2.2))))) = some (r1, r2, r3) := h
 clear h
 obtain ⟨⟨t1046, t1047, t1048⟩, A30, H⟩ := Option.bind_eq_some_iff.mp H
 try dsimp only at H
 have A3 := A_ A30; clear A30
 by_cases c4 : t1046 = true
 ·
  subst c4
  rw [if_pos rfl] at H
  obtain ⟨y1049, hy1049⟩ : ∃ y_ : List Int, y_ = (([(-1), a1, wrap64 (a1 - 1)] : List Int)) := ⟨_, rfl⟩
  replace H : ((spec_l1Cur_among.f s0_0 t1047 t1048 y1049).bind fun bt1052 => (some (bt1052.1, bt1052.2.1, bt1052.2.2))) = some (r1, r2, r3) := by first | (rw [hy1049]; with_reducible exact H) | (have H2_ := (Option.bind_some _ _).symm.trans H; rw [hy1049]; with_reducible exact H2_) | (have H2_ := (Option.bind_some _ _).symm.trans H; with_reducible exact H2_) | with_reducible exact H | (rw [hy1049]; exact H) | exact H
  have Ny1049 := A_ hy1049
  clear hy1049
  obtain ⟨⟨t1052, t1053, t1054⟩, A50, H⟩ := Option.bind_eq_some_iff.mp H
  try dsimp only at H
  have A5 := A_ A50; clear A50
  simp only [Option.some.injEq, Prod.mk.injEq] at H
  obtain ⟨rfl, rfl, rfl⟩ := H
  go_enter Try.func77, Try.ntmps77
  go_wp2_with (first | ((with_reducible refine gate_callee (f := 78) rfl ?_); refine goesL_ (some 6) rfl rfl Try.func78 kr_ rfl #[.pointer (some ⟨g, 0, none⟩), .int .i64 12] rfl am_ ?_; (with_reducible refine (spec_l1Cur_one.calls g s0_0 s0_1 s0_2 12 true t1047 t1048 w0 _ ?side1 ?side2 A3.out).mono ?_); (case side1 => exact kI_83 HI0.out); (case side2 => exact bs_ (IsS83.ge HI0.out)); rintro e w6 ⟨rfl, hi, hb, hk⟩; refine ⟨_, rfl, ?_⟩; have n0_ := A_ (KeepBut.trans hk_ hk (.inl rfl)); have n1_ := A_ (hb); have n2_ := A_ (hi); clear HK; clear HB; clear HI0; have HK := n0_; have HB := n1_; have HI0 := n2_; clear n0_ n1_ n2_; (try clear hb); (try clear hb2); (try clear hk); (try clear hi)) | ((with_reducible refine gate_dst (N := 11) rfl ?_); refine Kd.R_lit (Kd.int .i64) _ 3 ?hg (N := 11) ?hd (xs := ([(-1), a1, wrap64 (a1 - 1)] : List Int)) (inner := [.int .i64 (-1), .int .i64 a1, .int .i64 (wrap64 (a1 - 1))]) (ok := fun _ => True) (okp := fun _ => True) ?hr ?hp (fun _ hk => hk) trivial (Below.refl _ _) (Nat.le_refl _) (by simp) ?_; (case hd => rfl); (case hg => rfl); (case hr => first | (go_simp; done) | (go_simp; rfl)); (case hp => exact (Reps.one (show Kd.M (Kd.int .i64) _ _ _ (-1) [.int .i64 (-1)] from rfl) (Reps.one (show Kd.M (Kd.int .i64) _ _ _ a1 [.int .i64 a1] from rfl) (Reps.one (show Kd.M (Kd.int .i64) _ _ _ (wrap64 (a1 - 1)) [.int .i64 (wrap64 (a1 - 1))] from rfl) (Reps.none _ _))))); intro v1050 w7 ho8 hb hg_ hnew_; clear hg_ hnew_; (first | rw [← Ny1049.out] at ho8 | (simp only [Int.reduceToNat] at ho8; rw [← Ny1049.out] at ho8)); have n0_ := A_ (Kd.R_lower ho8 (keep_size (w := w) (g := g) (row := none) hk_)); have n1_ := A_ (IsS83.below (kI_83 HI0.out) hb); have n2_ := A_ (KeepBut.trans hk_ (KeepBut.of_below hb g none) (.inl rfl)); have n3_ := A_ (below_step (bs_ (IsS83.ge HI0.out)) hb); clear HI0; clear HK; clear HB; have HO1051 := n0_; have HI0 := n1_; have HK := n2_; have HB := n3_; clear n0_ n1_ n2_ n3_; clear hb ho8; obtain ⟨Ao9, co9, eo9⟩ := Kd.R_slice HO1051.out; subst eo9) | ((with_reducible refine gate_callee (f := 76) rfl ?_); refine goesL_ (some 12) rfl rfl Try.func76 kr_ rfl #[.pointer (some ⟨g, 0, none⟩), .slice Ao9 y1049.length co9] rfl am_ ?_; (with_reducible refine (spec_l1Cur_among.calls g s0_0 t1047 t1048 _ _ y1049 t1052 t1053 t1054 w0 _ ?side1 ?side2 ?side3 ?side4 ?side5 A5.out).mono ?_); (case side1 => exact kI_83 HI0.out); (case side2 => exact bs_ (IsS83.ge HI0.out)); (case side3 => exact kC_ ((Kd.R_reads' HO1051.out).2.2)); (case side4 => exact (Kd.R_reads' HO1051.out).2.1); (case side5 => exact far_slice (IsS83.own_ne HI0.out HO1051.out (by decide))); rintro e w10 ⟨rfl, hi, hb, hk⟩; refine ⟨_, rfl, ?_⟩; have n0_ := A_ (Kd.R_mono (Kd.R_keep (IsS83.apart (show IsS83 w0 _ g s0_0 t1047 t1048 from kI_83 HI0.out) (kR_ HO1051.out) (by decide)) hk (fun _ h => h.2)) (fun _ h => h.1)); have n1_ := A_ (KeepBut.trans hk_ hk (.inl rfl)); have n2_ := A_ (hb); have n3_ := A_ (hi); clear HO1051; clear HK; clear HB; clear HI0; have HO1051 := n0_; have HK := n1_; have HB := n2_; have HI0 := n3_; clear n0_ n1_ n2_ n3_; (try clear hb); (try clear hb2); (try clear hk); (try clear hi)))
  go_ret
  exact ⟨ew_, kI_83 HI0.out, bs_ (IsS83.ge HI0.out), hk_⟩
 ·
  replace c4 := Bool.eq_false_iff.mpr c4
  subst c4
  rw [if_neg (show ¬ (false = true) by decide)] at H
  obtain ⟨⟨t1055, t1056, t1057⟩, A110, H⟩ := Option.bind_eq_some_iff.mp H
  try dsimp only at H
  have A11 := A_ A110; clear A110
  simp only [Option.some.injEq, Prod.mk.injEq] at H
  obtain ⟨rfl, rfl, rfl⟩ := H
  go_enter Try.func77, Try.ntmps77
  go_wp2_with (first | ((with_reducible refine gate_callee (f := 78) rfl ?_); refine goesL_ (some 6) rfl rfl Try.func78 kr_ rfl #[.pointer (some ⟨g, 0, none⟩), .int .i64 12] rfl am_ ?_; (with_reducible refine (spec_l1Cur_one.calls g s0_0 s0_1 s0_2 12 false t1047 t1048 w0 _ ?side1 ?side2 A3.out).mono ?_); (case side1 => exact kI_83 HI0.out); (case side2 => exact bs_ (IsS83.ge HI0.out)); rintro e w12 ⟨rfl, hi, hb, hk⟩; refine ⟨_, rfl, ?_⟩; have n0_ := A_ (KeepBut.trans hk_ hk (.inl rfl)); have n1_ := A_ (hb); have n2_ := A_ (hi); clear HK; clear HB; clear HI0; have HK := n0_; have HB := n1_; have HI0 := n2_; clear n0_ n1_ n2_; (try clear hb); (try clear hb2); (try clear hk); (try clear hi)) | ((with_reducible refine gate_callee (f := 90) rfl ?_); refine goesL_ (some 15) rfl rfl Try.func90 kr_ rfl #[.pointer (some ⟨g, 0, none⟩), .int .i64 a1] rfl am_ ?_; (with_reducible refine (spec_l1Cur_pick.calls g s0_0 t1047 t1048 a1 t1055 t1056 t1057 w0 _ ?side1 ?side2 A11.out).mono ?_); (case side1 => exact kI_83 HI0.out); (case side2 => exact bs_ (IsS83.ge HI0.out)); rintro e w13 ⟨rfl, hi, hb, hk⟩; refine ⟨_, rfl, ?_⟩; have n0_ := A_ (KeepBut.trans hk_ hk (.inl rfl)); have n1_ := A_ (hb); have n2_ := A_ (hi); clear HK; clear HB; clear HI0; have HK := n0_; have HB := n1_; have HI0 := n2_; clear n0_ n1_ n2_; (try clear hb); (try clear hb2); (try clear hk); (try clear hi)))
  go_ret
  exact ⟨ew_, kI_83 HI0.out, bs_ (IsS83.ge HI0.out), hk_⟩

/-! ### spec_DrawHarmlessDelay: function 47 -/
def spec_DrawHarmlessDelay.f (k : Nat) (l0 : List Int) : Option ((List (List Int)) × List Int × Int × Int) := (spec_l1Cur_planned.f k l0 0 0).bind fun bt1059 => ((spec_l1Cur_trainOf.f l0 bt1059.2.2.2.1 bt1059.2.2.2.2 (bt1059.1.length : Int)).bind fun bt1068 => (some (bt1059.1, bt1059.2.1, bt1059.2.2.1, bt1068.1)))
theorem spec_DrawHarmlessDelay.mono : ∀ a0 k, LeO (spec_DrawHarmlessDelay.f k a0) (spec_DrawHarmlessDelay.f (k + 1) a0) := by
 intro a0 k
 unfold spec_DrawHarmlessDelay.f
 repeat' first | (with_reducible first | exact spec_l1Cur_planned.mono _ _ _ _ | exact LeO.refl _ | exact LeO.none _ | refine LeO.ite ?_ ?_ | refine LeO.bind ?_ (fun _ => ?_)) | exact spec_l1Cur_planned.mono _ _ _ _ | exact LeO.none _ | refine LeO.ite ?_ ?_ | refine LeO.bind ?_ (fun _ => ?_)
set_option maxHeartbeats 8000000 in
set_option maxRecDepth 100000 in
theorem spec_DrawHarmlessDelay.calls (k : Nat) (A0 : Option Addr) (c0 : Nat) (l0 : List Int) (r1 : List (List Int)) (r2 : List Int) (r3 : Int) (r4 : Int) (w : World) (hr0 : Kd.C (Kd.int .u8) w A0 l0.length l0) (hc0 : l0.length ≤ c0) (h : spec_DrawHarmlessDelay.f k l0 = some (r1, r2, r3, r4)) :
 Calls Try.prog 47 #[.slice A0 l0.length c0] w fun e w' => ∃ v0_ v1_ : Value, e = .returned (.tuple #[v0_, v1_, .int .i64 r3, .int .i64 r4]) ∧ Kd.S (Kd.slice 3 (Kd.int .i64)) 23 w' w.heap.size (fun k_ => some k_ ≠ (v1_ : Value).ownBlock) v0_ r1 ∧ Kd.Q (Kd.int .i64) 3 w' w.heap.size (fun _ => True) v1_ r2 ∧ Below w.heap.size w w' := by
 have hu83 := Try.underlying83
 have HR0 := A_ hr0
 have HC0 := A_ hc0
 clear hr0 hc0
 have HB := A_ (Below.refl w.heap.size w)
 have H : ((spec_l1Cur_planned.f k l0 0 0).bind fun bt1059 => ((spec_l1Cur_trainOf.f l0 bt1059.2.2.2.1 bt1059.2.2.2.2 (bt1059.1.length : Int)).bind fun bt1068 => (some (bt1059.1, bt1059.2.1, bt1059.2.2.1, bt1068.1)))) = some (r1, r2, r3, r4) := h
 clear h
 obtain ⟨⟨t1059, t1062, t1065, t1066, t1067⟩, A20, H⟩ := Option.bind_eq_some_iff.mp H
 try dsimp only at H
 have A2 := A_ A20; clear A20
 obtain ⟨⟨t1068, t1069, t1070⟩, A30, H⟩ := Option.bind_eq_some_iff.mp H
 try dsimp only at H
 have A3 := A_ A30; clear A30
 simp only [Option.some.injEq, Prod.mk.injEq] at H
 obtain ⟨rfl, rfl, rfl, rfl⟩ := H
 go_enter Try.func47, Try.ntmps47
 go_wp2_with (first | ((with_reducible refine gate_dst (N := 12) rfl ?_); refine box_event ?hg (N := 12) ?hd (cs := #[.slice A0 l0.length c0, .int .i64 0, .int .u64 0]) (t := 83) ?hr ?_; (case hd => rfl); (case hg => rfl); (case hr => first | (go_simp; done) | (go_simp; rfl)); intro gb1058 hg w4 hbox hb; have n0_ := A_ (below_step bl_ hb); have n1_ := A_ ((by rw [hg]; exact (below_size bl_) : w.heap.size ≤ gb1058)); have n2_ := A_ ((by rw [hg]; exact (below_size bl_) : w.heap.size ≤ gb1058)); have n3_ := A_ ((show IsS83 w w4 gb1058 l0 0 0 from ⟨_, _, hbox, (by rw [hg]; exact (below_size bl_) : w.heap.size ≤ gb1058), HR0.out⟩)); clear HB; have HB := n0_; have GW1058 := n1_; have GE1058 := n2_; have HI1058 := n3_; clear n0_ n1_ n2_ n3_; clear hb hbox hg) | ((with_reducible refine gate_callee (f := 74) rfl ?_); refine goesL_ (some 15) rfl rfl Try.func74 kr_ rfl #[.pointer (some ⟨gb1058, 0, none⟩)] rfl am_ ?_; (with_reducible refine (spec_l1Cur_planned.calls k gb1058 l0 0 0 t1059 t1062 t1065 t1066 t1067 w _ ?side1 ?side2 A2.out).mono ?_); (case side1 => exact kI_83 HI1058.out); (case side2 => exact bs_ (IsS83.ge HI1058.out)); rintro e w5 ⟨v1060, v1063, rfl, ho0, ho1, hi, hb, hk⟩; refine ⟨_, rfl, ?_⟩; have n0_ := A_ (Kd.S_lower ho0 (below_size (bs_ (IsS83.ge HI1058.out)))); have n1_ := A_ (Kd.Q_lower ho1 (below_size (bs_ (IsS83.ge HI1058.out)))); have n2_ := A_ (hb); have n3_ := A_ (hi); clear HB; clear HI1058; have HO1061 := n0_; have HO1064 := n1_; have HB := n2_; have HI1058 := n3_; clear n0_ n1_ n2_ n3_; (try clear hb); (try clear hb2); (try clear hk); (try clear hi); (try clear ho0); (try clear ho1); obtain ⟨Ao6, co6, eo6⟩ := Kd.S_slice HO1061.out; subst eo6) | ((with_reducible refine gate_callee (f := 77) rfl ?_); refine goesL_ (some 25) rfl rfl Try.func77 kr_ rfl #[.pointer (some ⟨gb1058, 0, none⟩), .int .i64 (t1059.length : Int)] rfl am_ ?_; (with_reducible refine (spec_l1Cur_trainOf.calls gb1058 l0 t1066 t1067 (t1059.length : Int) t1068 t1069 t1070 w _ ?side1 ?side2 A3.out).mono ?_); (case side1 => exact kI_83 HI1058.out); (case side2 => exact bs_ (IsS83.ge HI1058.out)); rintro e w7 ⟨rfl, hi, hb, hk⟩; refine ⟨_, rfl, ?_⟩; have n0_ := A_ (Kd.S_mono (Kd.S_keep (IsS83.apartS (show IsS83 w _ gb1058 l0 t1066 t1067 from kI_83 HI1058.out) (kS_ HO1061.out) (by decide)) hk (fun _ h => h.2)) (fun _ h => h.1)); have n1_ := A_ (Kd.Q_mono (Kd.Q_keep (IsS83.apartQ (show IsS83 w _ gb1058 l0 t1066 t1067 from kI_83 HI1058.out) (kQ_ HO1064.out) (by decide)) hk (fun _ h => h.2)) (fun _ h => h.1)); have n2_ := A_ (hb); have n3_ := A_ (hi); clear HO1061; clear HO1064; clear HB; clear HI1058; have HO1061 := n0_; have HO1064 := n1_; have HB := n2_; have HI1058 := n3_; clear n0_ n1_ n2_ n3_; (try clear hb); (try clear hb2); (try clear hk); (try clear hi)))
 refine bodyPost_ret (results_list (rs := [.tmp 2, .tmp 3, .tmp 4, .tmp 5]) rfl (by simp) (.tmp (.tmp (.tmp (.tmp .nil))))) rfl ?_
 exact ⟨_, _, ew_, kS_ HO1061.out, kQ_ HO1064.out, bs_ (IsS83.ge HI1058.out)⟩

/-! ### spec_DrawTrainsReached: function 48 -/
def spec_DrawTrainsReached.f (k : Nat) (l0 : List Int) : Option ((List (List Int)) × List Int × Int × Int × Int) := (spec_l1Cur_planned.f k l0 0 0).bind fun bt1072 => ((spec_l1Cur_trainOf.f l0 bt1072.2.2.2.1 bt1072.2.2.2.2 (bt1072.1.length : Int)).bind fun bt1081 => ((spec_l1Cur_among.f l0 bt1081.2.1 bt1081.2.2 (([3, 0, 10001] : List Int))).bind fun bt1087 => ((spec_l1Cur_among.f l0 bt1087.2.1 bt1087.2.2 (([1, 2, 5, 10, 40, 10000, bt1087.1] : List Int))).bind fun bt1093 => (some (bt1072.1, bt1072.2.1, bt1072.2.2.1, bt1081.1, bt1093.1)))))
theorem spec_DrawTrainsReached.mono : ∀ a0 k, LeO (spec_DrawTrainsReached.f k a0) (spec_DrawTrainsReached.f (k + 1) a0) := by
 intro a0 k
 unfold spec_DrawTrainsReached.f
 repeat' first | (with_reducible first | exact spec_l1Cur_planned.mono _ _ _ _ | exact LeO.refl _ | exact LeO.none _ | refine LeO.ite ?_ ?_ | refine LeO.bind ?_ (fun _ => ?_)) | exact spec_l1Cur_planned.mono _ _ _ _ | exact LeO.none _ | refine LeO.ite ?_ ?_ | refine LeO.bind ?_ (fun _ => ?_)
set_option maxHeartbeats 8000000 in
set_option maxRecDepth 100000 in
theorem spec_DrawTrainsReached.calls (k : Nat) (A0 : Option Addr) (c0 : Nat) (l0 : List Int) (r1 : List (List Int)) (r2 : List Int) (r3 : Int) (r4 : Int) (r5 : Int) (w : World) (hr0 : Kd.C (Kd.int .u8) w A0 l0.length l0) (hc0 : l0.length ≤ c0) (h : spec_DrawTrainsReached.f k l0 = some (r1, r2, r3, r4, r5)) :
 Calls Try.prog 48 #[.slice A0 l0.length c0] w fun e w' => ∃ v0_ v1_ : Value, e = .returned (.tuple #[v0_, v1_, .int .i64 r3, .int .i64 r4, .int .i64 r5]) ∧ Kd.S (Kd.slice 3 (Kd.int .i64)) 23 w' w.heap.size (fun k_ => some k_ ≠ (v1_ : Value).ownBlock) v0_ r1 ∧ Kd.Q (Kd.int .i64) 3 w' w.heap.size (fun _ => True) v1_ r2 ∧ Below w.heap.size w w' := by
 have hu83 := Try.underlying83
 have HR0 := A_ hr0
 have HC0 := A_ hc0
 clear hr0 hc0
 have HB := A_ (Below.refl w.heap.size w)
 have H : ((spec_l1Cur_planned.f k l0 0 0).bind fun bt1072 => ((spec_l1Cur_trainOf.f l0 bt1072.2.2.2.1 bt1072.2.2.2.2 (bt1072.1.length : Int)).bind fun bt1081 => ((spec_l1Cur_among.f l0 bt1081.2.1 bt1081.2.2 (([3, 0, 10001] : List Int))).bind fun bt1087 => ((spec_l1Cur_among.f l0 bt1087.2.1 bt1087.2.2 (([1, 2, 5, 10, 40, 10000, bt1087.1] : List Int))).bind fun bt1093 => (some (bt1072.1, bt1072.2.1, bt1072.2.2.1, bt1081.1, bt1093.1)))))) = some (r1, r2, r3, r4, r5) := h
 clear h
 obtain ⟨⟨t1072, t1075, t1078, t1079, t1080⟩, A20, H⟩ := Option.bind_eq_some_iff.mp H
 try dsimp only at H
 have A2 := A_ A20; clear A20
 obtain ⟨⟨t1081, t1082, t1083⟩, A30, H⟩ := Option.bind_eq_some_iff.mp H
 try dsimp only at H
 have A3 := A_ A30; clear A30
 obtain ⟨y1084, hy1084⟩ : ∃ y_ : List Int, y_ = (([3, 0, 10001] : List Int)) := ⟨_, rfl⟩
 replace H : ((spec_l1Cur_among.f l0 t1082 t1083 y1084).bind fun bt1087 => ((spec_l1Cur_among.f l0 bt1087.2.1 bt1087.2.2 (([1, 2, 5, 10, 40, 10000, bt1087.1] : List Int))).bind fun bt1093 => (some (t1072, t1075, t1078, t1081, bt1093.1)))) = some (r1, r2, r3, r4, r5) := by first | (rw [hy1084]; with_reducible exact H) | (have H2_ := (Option.bind_some _ _).symm.trans H; rw [hy1084]; with_reducible exact H2_) | (have H2_ := (Option.bind_some _ _).symm.trans H; with_reducible exact H2_) | with_reducible exact H | (rw [hy1084]; exact H) | exact H
 have Ny1084 := A_ hy1084
 clear hy1084
 obtain ⟨⟨t1087, t1088, t1089⟩, A40, H⟩ := Option.bind_eq_some_iff.mp H
 try dsimp only at H
 have A4 := A_ A40; clear A40
 obtain ⟨y1090, hy1090⟩ : ∃ y_ : List Int, y_ = (([1, 2, 5, 10, 40, 10000, t1087] : List Int)) := ⟨_, rfl⟩
 replace H : ((spec_l1Cur_among.f l0 t1088 t1089 y1090).bind fun bt1093 => (some (t1072, t1075, t1078, t1081, bt1093.1))) = some (r1, r2, r3, r4, r5) := by first | (rw [hy1090]; with_reducible exact H) | (have H2_ := (Option.bind_some _ _).symm.trans H; rw [hy1090]; with_reducible exact H2_) | (have H2_ := (Option.bind_some _ _).symm.trans H; with_reducible exact H2_) | with_reducible exact H | (rw [hy1090]; exact H) | exact H
 have Ny1090 := A_ hy1090
 clear hy1090
 obtain ⟨⟨t1093, t1094, t1095⟩, A50, H⟩ := Option.bind_eq_some_iff.mp H
 try dsimp only at H
 have A5 := A_ A50; clear A50
 simp only [Option.some.injEq, Prod.mk.injEq] at H
 obtain ⟨rfl, rfl, rfl, rfl, rfl⟩ := H
 go_enter Try.func48, Try.ntmps48
 go_wp2_with (first | ((with_reducible refine gate_dst (N := 13) rfl ?_); refine box_event ?hg (N := 13) ?hd (cs := #[.slice A0 l0.length c0, .int .i64 0, .int .u64 0]) (t := 83) ?hr ?_; (case hd => rfl); (case hg => rfl); (case hr => first | (go_simp; done) | (go_simp; rfl)); intro gb1071 hg w6 hbox hb; have n0_ := A_ (below_step bl_ hb); have n1_ := A_ ((by rw [hg]; exact (below_size bl_) : w.heap.size ≤ gb1071)); have n2_ := A_ ((by rw [hg]; exact (below_size bl_) : w.heap.size ≤ gb1071)); have n3_ := A_ ((show IsS83 w w6 gb1071 l0 0 0 from ⟨_, _, hbox, (by rw [hg]; exact (below_size bl_) : w.heap.size ≤ gb1071), HR0.out⟩)); clear HB; have HB := n0_; have GW1071 := n1_; have GE1071 := n2_; have HI1071 := n3_; clear n0_ n1_ n2_ n3_; clear hb hbox hg) | ((with_reducible refine gate_callee (f := 74) rfl ?_); refine goesL_ (some 16) rfl rfl Try.func74 kr_ rfl #[.pointer (some ⟨gb1071, 0, none⟩)] rfl am_ ?_; (with_reducible refine (spec_l1Cur_planned.calls k gb1071 l0 0 0 t1072 t1075 t1078 t1079 t1080 w _ ?side1 ?side2 A2.out).mono ?_); (case side1 => exact kI_83 HI1071.out); (case side2 => exact bs_ (IsS83.ge HI1071.out)); rintro e w7 ⟨v1073, v1076, rfl, ho0, ho1, hi, hb, hk⟩; refine ⟨_, rfl, ?_⟩; have n0_ := A_ (Kd.S_lower ho0 (below_size (bs_ (IsS83.ge HI1071.out)))); have n1_ := A_ (Kd.Q_lower ho1 (below_size (bs_ (IsS83.ge HI1071.out)))); have n2_ := A_ (hb); have n3_ := A_ (hi); clear HB; clear HI1071; have HO1074 := n0_; have HO1077 := n1_; have HB := n2_; have HI1071 := n3_; clear n0_ n1_ n2_ n3_; (try clear hb); (try clear hb2); (try clear hk); (try clear hi); (try clear ho0); (try clear ho1); obtain ⟨Ao8, co8, eo8⟩ := Kd.S_slice HO1074.out; subst eo8) | ((with_reducible refine gate_callee (f := 77) rfl ?_); refine goesL_ (some 26) rfl rfl Try.func77 kr_ rfl #[.pointer (some ⟨gb1071, 0, none⟩), .int .i64 (t1072.length : Int)] rfl am_ ?_; (with_reducible refine (spec_l1Cur_trainOf.calls gb1071 l0 t1079 t1080 (t1072.length : Int) t1081 t1082 t1083 w _ ?side1 ?side2 A3.out).mono ?_); (case side1 => exact kI_83 HI1071.out); (case side2 => exact bs_ (IsS83.ge HI1071.out)); rintro e w9 ⟨rfl, hi, hb, hk⟩; refine ⟨_, rfl, ?_⟩; have n0_ := A_ (Kd.S_mono (Kd.S_keep (IsS83.apartS (show IsS83 w _ gb1071 l0 t1079 t1080 from kI_83 HI1071.out) (kS_ HO1074.out) (by decide)) hk (fun _ h => h.2)) (fun _ h => h.1)); have n1_ := A_ (Kd.Q_mono (Kd.Q_keep (IsS83.apartQ (show IsS83 w _ gb1071 l0 t1079 t1080 from kI_83 HI1071.out) (kQ_ HO1077.out) (by decide)) hk (fun _ h => h.2)) (fun _ h => h.1)); have n2_ := A_ (hb); have n3_ := A_ (hi); clear HO1074; clear HO1077; clear HB; clear HI1071; have HO1074 := n0_; have HO1077 := n1_; have HB := n2_; have HI1071 := n3_; clear n0_ n1_ n2_ n3_; (try clear hb); (try clear hb2); (try clear hk); (try clear hi)) | ((with_reducible refine gate_dst (N := 29) rfl ?_); refine Kd.R_lit (Kd.int .i64) _ 3 ?hg (N := 29) ?hd (xs := ([3, 0, 10001] : List Int)) (inner := [.int .i64 3, .int .i64 0, .int .i64 10001]) (ok := fun _ => True) (okp := fun _ => True) ?hr ?hp (fun _ hk => hk) trivial (Below.refl _ _) (Nat.le_refl _) (by simp) ?_; (case hd => rfl); (case hg => rfl); (case hr => first | (go_simp; done) | (go_simp; rfl)); (case hp => exact (Reps.one (show Kd.M (Kd.int .i64) _ _ _ 3 [.int .i64 3] from rfl) (Reps.one (show Kd.M (Kd.int .i64) _ _ _ 0 [.int .i64 0] from rfl) (Reps.one (show Kd.M (Kd.int .i64) _ _ _ 10001 [.int .i64 10001] from rfl) (Reps.none _ _))))); intro v1085 w10 ho11 hb hg_ hnew_; clear hg_ hnew_; (first | rw [← Ny1084.out] at ho11 | (simp only [Int.reduceToNat] at ho11; rw [← Ny1084.out] at ho11)); have n0_ := A_ (Kd.S_elder' (kS_ HO1074.out) (Kd.R_base ho11) hb); have n1_ := A_ (Kd.Q_elder' (kQ_ HO1077.out) (Kd.R_base ho11) hb); have n2_ := A_ (Kd.R_lower (Kd.R_new' ho11 (Kd.Q_lt (kQ_ HO1077.out))) (below_size (bs_ (IsS83.ge HI1071.out)))); have n3_ := A_ (IsS83.below (kI_83 HI1071.out) hb); have n4_ := A_ (below_step (bs_ (IsS83.ge HI1071.out)) hb); clear HO1074; clear HO1077; clear HI1071; clear HB; have HO1074 := n0_; have HO1077 := n1_; have HO1086 := n2_; have HI1071 := n3_; have HB := n4_; clear n0_ n1_ n2_ n3_ n4_; clear hb ho11; obtain ⟨Ao12, co12, eo12⟩ := Kd.R_slice HO1086.out; subst eo12) | ((with_reducible refine gate_callee (f := 76) rfl ?_); refine goesL_ (some 30) rfl rfl Try.func76 kr_ rfl #[.pointer (some ⟨gb1071, 0, none⟩), .slice Ao12 y1084.length co12] rfl am_ ?_; (with_reducible refine (spec_l1Cur_among.calls gb1071 l0 t1082 t1083 _ _ y1084 t1087 t1088 t1089 w _ ?side1 ?side2 ?side3 ?side4 ?side5 A4.out).mono ?_); (case side1 => exact kI_83 HI1071.out); (case side2 => exact bs_ (IsS83.ge HI1071.out)); (case side3 => exact kC_ ((Kd.R_reads' HO1086.out).2.2)); (case side4 => exact (Kd.R_reads' HO1086.out).2.1); (case side5 => exact far_slice (IsS83.own_ne HI1071.out HO1086.out (by decide))); rintro e w13 ⟨rfl, hi, hb, hk⟩; refine ⟨_, rfl, ?_⟩; have n0_ := A_ (Kd.S_mono (Kd.S_keep (IsS83.apartS (show IsS83 w _ gb1071 l0 t1082 t1083 from kI_83 HI1071.out) (kS_ HO1074.out) (by decide)) hk (fun _ h => h.2)) (fun _ h => h.1)); have n1_ := A_ (Kd.Q_mono (Kd.Q_keep (IsS83.apartQ (show IsS83 w _ gb1071 l0 t1082 t1083 from kI_83 HI1071.out) (kQ_ HO1077.out) (by decide)) hk (fun _ h => h.2)) (fun _ h => h.1)); have n2_ := A_ (Kd.R_mono (Kd.R_keep (IsS83.apart (show IsS83 w _ gb1071 l0 t1082 t1083 from kI_83 HI1071.out) (kR_ HO1086.out) (by decide)) hk (fun _ h => h.2)) (fun _ h => h.1)); have n3_ := A_ (hb); have n4_ := A_ (hi); clear HO1074; clear HO1077; clear HO1086; clear HB; clear HI1071; have HO1074 := n0_; have HO1077 := n1_; have HO1086 := n2_; have HB := n3_; have HI1071 := n4_; clear n0_ n1_ n2_ n3_ n4_; (try clear hb); (try clear hb2); (try clear hk); (try clear hi)) | ((with_reducible refine gate_dst (N := 31) rfl ?_); refine Kd.R_lit (Kd.int .i64) _ 3 ?hg (N := 31) ?hd (xs := ([1, 2, 5, 10, 40, 10000, t1087] : List Int)) (inner := [.int .i64 1, .int .i64 2, .int .i64 5, .int .i64 10, .int .i64 40, .int .i64 10000, .int .i64 t1087]) (ok := fun _ => True) (okp := fun _ => True) ?hr ?hp (fun _ hk => hk) trivial (Below.refl _ _) (Nat.le_refl _) (by simp) ?_; (case hd => rfl); (case hg => rfl); (case hr => first | (go_simp; done) | (go_simp; rfl)); (case hp => exact (Reps.one (show Kd.M (Kd.int .i64) _ _ _ 1 [.int .i64 1] from rfl) (Reps.one (show Kd.M (Kd.int .i64) _ _ _ 2 [.int .i64 2] from rfl) (Reps.one (show Kd.M (Kd.int .i64) _ _ _ 5 [.int .i64 5] from rfl) (Reps.one (show Kd.M (Kd.int .i64) _ _ _ 10 [.int .i64 10] from rfl) (Reps.one (show Kd.M (Kd.int .i64) _ _ _ 40 [.int .i64 40] from rfl) (Reps.one (show Kd.M (Kd.int .i64) _ _ _ 10000 [.int .i64 10000] from rfl) (Reps.one (show Kd.M (Kd.int .i64) _ _ _ t1087 [.int .i64 t1087] from rfl) (Reps.none _ _))))))))); intro v1091 w14 ho15 hb hg_ hnew_; clear hg_ hnew_; (first | rw [← Ny1090.out] at ho15 | (simp only [Int.reduceToNat] at ho15; rw [← Ny1090.out] at ho15)); have n0_ := A_ (Kd.S_elder' (kS_ HO1074.out) (Kd.R_base ho15) hb); have n1_ := A_ (Kd.Q_elder' (kQ_ HO1077.out) (Kd.R_base ho15) hb); have n2_ := A_ (Kd.R_elder' (kR_ HO1086.out) (Kd.R_base ho15) hb); have n3_ := A_ (Kd.R_lower (Kd.R_new' (Kd.R_new' ho15 (Kd.Q_lt (kQ_ HO1077.out))) (Kd.R_lt (kR_ HO1086.out))) (below_size (bs_ (IsS83.ge HI1071.out)))); have n4_ := A_ (IsS83.below (kI_83 HI1071.out) hb); have n5_ := A_ (below_step (bs_ (IsS83.ge HI1071.out)) hb); clear HO1074; clear HO1077; clear HO1086; clear HI1071; clear HB; have HO1074 := n0_; have HO1077 := n1_; have HO1086 := n2_; have HO1092 := n3_; have HI1071 := n4_; have HB := n5_; clear n0_ n1_ n2_ n3_ n4_ n5_; clear hb ho15; obtain ⟨Ao16, co16, eo16⟩ := Kd.R_slice HO1092.out; subst eo16) | ((with_reducible refine gate_callee (f := 76) rfl ?_); refine goesL_ (some 32) rfl rfl Try.func76 kr_ rfl #[.pointer (some ⟨gb1071, 0, none⟩), .slice Ao16 y1090.length co16] rfl am_ ?_; (with_reducible refine (spec_l1Cur_among.calls gb1071 l0 t1088 t1089 _ _ y1090 t1093 t1094 t1095 w _ ?side1 ?side2 ?side3 ?side4 ?side5 A5.out).mono ?_); (case side1 => exact kI_83 HI1071.out); (case side2 => exact bs_ (IsS83.ge HI1071.out)); (case side3 => exact kC_ ((Kd.R_reads' HO1092.out).2.2)); (case side4 => exact (Kd.R_reads' HO1092.out).2.1); (case side5 => exact far_slice (IsS83.own_ne HI1071.out HO1092.out (by decide))); rintro e w17 ⟨rfl, hi, hb, hk⟩; refine ⟨_, rfl, ?_⟩; have n0_ := A_ (Kd.S_mono (Kd.S_keep (IsS83.apartS (show IsS83 w _ gb1071 l0 t1088 t1089 from kI_83 HI1071.out) (kS_ HO1074.out) (by decide)) hk (fun _ h => h.2)) (fun _ h => h.1)); have n1_ := A_ (Kd.Q_mono (Kd.Q_keep (IsS83.apartQ (show IsS83 w _ gb1071 l0 t1088 t1089 from kI_83 HI1071.out) (kQ_ HO1077.out) (by decide)) hk (fun _ h => h.2)) (fun _ h => h.1)); have n2_ := A_ (Kd.R_mono (Kd.R_keep (IsS83.apart (show IsS83 w _ gb1071 l0 t1088 t1089 from kI_83 HI1071.out) (kR_ HO1086.out) (by decide)) hk (fun _ h => h.2)) (fun _ h => h.1)); have n3_ := A_ (Kd.R_mono (Kd.R_keep (IsS83.apart (show IsS83 w _ gb1071 l0 t1088 t1089 from kI_83 HI1071.out) (kR_ HO1092.out) (by decide)) hk (fun _ h => h.2)) (fun _ h => h.1)); have n4_ := A_ (hb); have n5_ := A_ (hi); clear HO1074; clear HO1077; clear HO1086; clear HO1092; clear HB; clear HI1071; have HO1074 := n0_; have HO1077 := n1_; have HO1086 := n2_; have HO1092 := n3_; have HB := n4_; have HI1071 := n5_; clear n0_ n1_ n2_ n3_ n4_ n5_; (try clear hb); (try clear hb2); (try clear hk); (try clear hi)))
 refine bodyPost_ret (results_list (rs := [.tmp 2, .tmp 3, .tmp 4, .tmp 5, .tmp 6]) rfl (by simp) (.tmp (.tmp (.tmp (.tmp (.tmp .nil)))))) rfl ?_
 exact ⟨_, _, ew_, by (with_reducible repeat (first | apply Kd.S_alloc | apply Kd.S_drewN | apply Kd.S_drew)); exact Kd.S_mono HO1074.out (fun _ hk => hk.1.1), by (with_reducible repeat (first | apply Kd.Q_alloc | apply Kd.Q_drewN | apply Kd.Q_drew)); exact Kd.Q_mono HO1077.out (fun _ hk => trivial), bs_ (IsS83.ge HI1071.out)⟩


end Go.Proofs.Ytebjiooojkhkpaa.X
