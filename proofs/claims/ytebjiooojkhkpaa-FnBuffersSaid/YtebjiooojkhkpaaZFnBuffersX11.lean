-- Shaken out of the printed texts.
import Derived.Test.YtebjiooojkhkpaaZFnBuffersWBX0
import Derived.Test.YtebjiooojkhkpaaZFnBuffersQ
import Derived.Test.YtebjiooojkhkpaaZFnBuffersX0
import Derived.Test.YtebjiooojkhkpaaZFnBuffersX2
import Derived.Test.YtebjiooojkhkpaaZFnBuffersX3
import Derived.Test.YtebjiooojkhkpaaZFnBuffersX4
import Derived.Test.YtebjiooojkhkpaaZFnBuffersX5
import Derived.Test.YtebjiooojkhkpaaZFnBuffersX6
import Derived.Test.YtebjiooojkhkpaaZFnBuffersX9
import Derived.Test.YtebjiooojkhkpaaZFnBuffersX10
namespace Go.Proofs.Ytebjiooojkhkpaa.X
open Go.RowKit Go.Proofs.YtebjiooojkhkpaaW.PrintWords Go.Proofs.YtebjiooojkhkpaaW.PrintLast Go.Proofs.YtebjiooojkhkpaaW.PrintMore
attribute [local go_sem] max2_int min2_int max_two min_two max_three min_three max_four min_four   -- for this text's walks alone
set_option linter.unusedVariables false
set_option linter.unusedSimpArgs false

/-! ### laws_FnBuffers: function 13 -/
mutual
def laws_FnBuffers.j0 : Nat → List Int → List (List Int) → List Int → Int → Bool → List (List Int) → Int → Int → Int → Bool → Option (Bool)
  | 0, _, _, _, _, _, _, _, _, _, _ => none
  | k + 1, x1, x5, x6, x7, x9, x10, x12, x13, x18, x134 => if x134 = true then (some false) else (if x9 = true then (laws_FnBuffers.l0 k x1 x5 x6 x7 x10 x12 x13 x18 x10 (x10.length : Int) 0) else (laws_FnBuffers.j2 k x1))
def laws_FnBuffers.j2 : Nat → List Int → Option (Bool)
  | 0, _ => none
  | k + 1, x1 => (spec_DrawHarmlessDelay.f k x1).bind fun bt1150 => ((impl_HarmlessDelay.f k bt1150.1 bt1150.2.1 bt1150.2.2.1 bt1150.2.2.2).bind fun bt1158 => ((spec_HarmlessDelay.f k bt1150.1 bt1150.2.1 bt1150.2.2.1 bt1150.2.2.2).bind fun bt1160 => (if (bt1158.2 != bt1160.2) = true then (laws_FnBuffers.j3 k x1 bt1150.1 bt1150.2.1 bt1150.2.2.1 bt1150.2.2.2 bt1158.2 bt1160.1 true) else (laws_FnBuffers.j3 k x1 bt1150.1 bt1150.2.1 bt1150.2.2.1 bt1150.2.2.2 bt1158.2 bt1160.1 (bt1158.1 != bt1160.1)))))
def laws_FnBuffers.j3 : Nat → List Int → List (List Int) → List Int → Int → Int → Bool → Int → Bool → Option (Bool)
  | 0, _, _, _, _, _, _, _, _ => none
  | k + 1, x1, x26, x27, x28, x29, x31, x32, x216 => if x216 = true then (some false) else (if x31 = true then (if 0 ≤ (x26.length : Int) then (if ((x26.length : Int) : Int).toNat ≤ 35184372088832 then ((some (List.replicate ((x26.length : Int) : Int).toNat 0 : List Int)).bind fun y1162 => (if 0 ≤ x29 then (if x29 < (y1162.length : Int) then ((impl_NextDelays.f k x26 x27 x28 (y1162.set (x29 : Int).toNat x32)).bind fun bt1166 => (if bt1166.2 = true then (laws_FnBuffers.l1 k x1 x29 bt1166.1 (bt1166.1.length : Int) 0) else (some false))) else (none)) else (none))) else (none)) else (none)) else (laws_FnBuffers.j5 k x1))
def laws_FnBuffers.j5 : Nat → List Int → Option (Bool)
  | 0, _ => none
  | k + 1, x1 => (spec_DrawTrainsReached.f k x1).bind fun bt1171 => ((impl_TrainsReached.f k bt1171.1 bt1171.2.1 bt1171.2.2.1 bt1171.2.2.2.1 bt1171.2.2.2.2).bind fun bt1180 => ((spec_TrainsReached.f k bt1171.1 bt1171.2.1 bt1171.2.2.1 bt1171.2.2.2.1 bt1171.2.2.2.2).bind fun bt1184 => ((spec_DrawBufferOf.f k x1).bind fun bt1188 => ((impl_BufferOf.f k bt1188.1 bt1188.2.1 bt1188.2.2.1 bt1188.2.2.2.1 bt1188.2.2.2.2).bind fun bt1197 => ((spec_BufferOf.f k bt1188.1 bt1188.2.1 bt1188.2.2.1 bt1188.2.2.2.1 bt1188.2.2.2.2).bind fun bt1199 => (if (bt1180.2 == bt1184.2) = true then ((laws_qInts.f k bt1180.1 bt1184.1).bind fun t1201 => (if t1201 = true then (if (bt1197.2 == bt1199.2) = true then (some (bt1197.1 == bt1199.1)) else (some false)) else (some false))) else (some false)))))))
def laws_FnBuffers.l1 : Nat → List Int → Int → List Int → Int → Int → Option (Bool)
  | 0, _, _, _, _, _ => none
  | k + 1, x1, x29, x235, x236, x237 => if x237 < x236 then (if 0 ≤ x237 then (if x237 < (x235.length : Int) then (if x237 = x29 then (laws_FnBuffers.l1 k x1 x29 x235 x236 (wrap64 (x237 + 1))) else (if (rd x235 x237) > 0 then (some false) else (laws_FnBuffers.l1 k x1 x29 x235 x236 (wrap64 (x237 + 1))))) else (none)) else (none)) else (laws_FnBuffers.j5 k x1)
def laws_FnBuffers.l0 : Nat → List Int → List (List Int) → List Int → Int → List (List Int) → Int → Int → Int → List (List Int) → Int → Int → Option (Bool)
  | 0, _, _, _, _, _, _, _, _, _, _, _ => none
  | k + 1, x1, x5, x6, x7, x10, x12, x13, x18, x136, x137, x138 => if x138 < x137 then (if 0 ≤ x138 then (if x138 < (x136.length : Int) then (if 0 < ((rd_L1 x136 x138).length : Int) then (if 1 < ((rd_L1 x136 x138).length : Int) then ((impl_BufferOf.f k x5 x6 x7 (rd (rd_L1 x136 x138) 0) (rd (rd_L1 x136 x138) 1)).bind fun bt1146 => (if bt1146.2 = true then (if bt1146.1 = 0 then (laws_FnBuffers.l0 k x1 x5 x6 x7 x10 x12 x13 x18 x136 x137 (wrap64 (x138 + 1))) else (some false)) else (some false))) else (none)) else (none)) else (none)) else (none)) else ((impl_BufferOf.f k x5 x6 x7 x12 x13).bind fun bt1148 => (if bt1148.2 = true then (if bt1148.1 = x18 then (if ((x18 == 0) != (decide ((x10.length : Int) > 0))) = true then (some false) else (laws_FnBuffers.j2 k x1)) else (some false)) else (some false)))
end
def laws_FnBuffers.f (k : Nat) (l0 : List Int) (l1 : List Int) : Option (Bool) := if (wrap64 ((l0.length : Int) + (l1.length : Int))) > 1048576 then (some true) else ((spec_DrawCriticalWaits.f k l0).bind fun bt1119 => ((impl_CriticalWaits.f k bt1119.1 bt1119.2.1 bt1119.2.2).bind fun bt1126 => ((spec_CriticalWaits.f k bt1119.1 bt1119.2.1 bt1119.2.2).bind fun bt1130 => ((impl_LeastBuffer.f k bt1119.1 bt1119.2.1 bt1119.2.2).bind fun bt1134 => ((spec_LeastBuffer.f k bt1119.1 bt1119.2.1 bt1119.2.2).bind fun bt1138 => (if (bt1126.2 != bt1130.2) = true then (laws_FnBuffers.j0 k l1 bt1119.1 bt1119.2.1 bt1119.2.2 bt1126.2 bt1130.1 bt1134.1 bt1134.2.1 bt1138.2.2.1 true) else ((laws_qLists.f k bt1126.1 bt1130.1).bind fun t1142 => (if t1142 = true then (if (bt1134.2.2.2 != bt1138.2.2.2) = true then (laws_FnBuffers.j0 k l1 bt1119.1 bt1119.2.1 bt1119.2.2 bt1126.2 bt1130.1 bt1134.1 bt1134.2.1 bt1138.2.2.1 true) else (if bt1134.1 = bt1138.1 then (if bt1134.2.1 = bt1138.2.1 then (if bt1134.2.2.1 = bt1138.2.2.1 then (laws_FnBuffers.j0 k l1 bt1119.1 bt1119.2.1 bt1119.2.2 bt1126.2 bt1130.1 bt1134.1 bt1134.2.1 bt1138.2.2.1 (bt1134.2.2.2 != bt1126.2)) else (laws_FnBuffers.j0 k l1 bt1119.1 bt1119.2.1 bt1119.2.2 bt1126.2 bt1130.1 bt1134.1 bt1134.2.1 bt1138.2.2.1 true)) else (laws_FnBuffers.j0 k l1 bt1119.1 bt1119.2.1 bt1119.2.2 bt1126.2 bt1130.1 bt1134.1 bt1134.2.1 bt1138.2.2.1 true)) else (laws_FnBuffers.j0 k l1 bt1119.1 bt1119.2.1 bt1119.2.2 bt1126.2 bt1130.1 bt1134.1 bt1134.2.1 bt1138.2.2.1 true))) else (laws_FnBuffers.j0 k l1 bt1119.1 bt1119.2.1 bt1119.2.2 bt1126.2 bt1130.1 bt1134.1 bt1134.2.1 bt1138.2.2.1 true)))))))))
theorem laws_FnBuffers.mono_l : ∀ k, (∀ y0 y1 y2 y3 y4 y5 y6 y7 y8 y9, LeO (laws_FnBuffers.j0 k y0 y1 y2 y3 y4 y5 y6 y7 y8 y9) (laws_FnBuffers.j0 (k + 1) y0 y1 y2 y3 y4 y5 y6 y7 y8 y9)) ∧ (∀ y0, LeO (laws_FnBuffers.j2 k y0) (laws_FnBuffers.j2 (k + 1) y0)) ∧ (∀ y0 y1 y2 y3 y4 y5 y6 y7, LeO (laws_FnBuffers.j3 k y0 y1 y2 y3 y4 y5 y6 y7) (laws_FnBuffers.j3 (k + 1) y0 y1 y2 y3 y4 y5 y6 y7)) ∧ (∀ y0, LeO (laws_FnBuffers.j5 k y0) (laws_FnBuffers.j5 (k + 1) y0)) ∧ (∀ y0 y1 y2 y3 y4, LeO (laws_FnBuffers.l1 k y0 y1 y2 y3 y4) (laws_FnBuffers.l1 (k + 1) y0 y1 y2 y3 y4)) ∧ (∀ y0 y1 y2 y3 y4 y5 y6 y7 y8 y9 y10, LeO (laws_FnBuffers.l0 k y0 y1 y2 y3 y4 y5 y6 y7 y8 y9 y10) (laws_FnBuffers.l0 (k + 1) y0 y1 y2 y3 y4 y5 y6 y7 y8 y9 y10))
  | 0 => ⟨fun _ _ _ _ _ _ _ _ _ _ r h => by simp [laws_FnBuffers.j0] at h, fun _ r h => by simp [laws_FnBuffers.j2] at h, fun _ _ _ _ _ _ _ _ r h => by simp [laws_FnBuffers.j3] at h, fun _ r h => by simp [laws_FnBuffers.j5] at h, fun _ _ _ _ _ r h => by simp [laws_FnBuffers.l1] at h, fun _ _ _ _ _ _ _ _ _ _ _ r h => by simp [laws_FnBuffers.l0] at h⟩
  | k + 1 => by
    obtain ⟨ih0, ih1, ih2, ih3, ih4, ih5⟩ := laws_FnBuffers.mono_l k
    refine ⟨?_, ?_, ?_, ?_, ?_, ?_⟩
    all_goals (intros; first | unfold laws_FnBuffers.j0 | unfold laws_FnBuffers.j2 | unfold laws_FnBuffers.j3 | unfold laws_FnBuffers.j5 | unfold laws_FnBuffers.l1 | unfold laws_FnBuffers.l0)
    all_goals (repeat' first | (with_reducible first | exact ih0 _ _ _ _ _ _ _ _ _ _ | exact ih1 _ | exact ih2 _ _ _ _ _ _ _ _ | exact ih3 _ | exact ih4 _ _ _ _ _ | exact ih5 _ _ _ _ _ _ _ _ _ _ _ | exact impl_BufferOf.mono _ _ _ _ _ _ | exact impl_CriticalWaits.mono _ _ _ _ | exact impl_HarmlessDelay.mono _ _ _ _ _ | exact impl_LeastBuffer.mono _ _ _ _ | exact impl_NextDelays.mono _ _ _ _ _ | exact impl_TrainsReached.mono _ _ _ _ _ _ | exact laws_qInts.mono _ _ _ | exact laws_qLists.mono _ _ _ | exact spec_BufferOf.mono _ _ _ _ _ _ | exact spec_CriticalWaits.mono _ _ _ _ | exact spec_DrawBufferOf.mono _ _ | exact spec_DrawCriticalWaits.mono _ _ | exact spec_DrawHarmlessDelay.mono _ _ | exact spec_DrawTrainsReached.mono _ _ | exact spec_HarmlessDelay.mono _ _ _ _ _ | exact spec_LeastBuffer.mono _ _ _ _ | exact spec_TrainsReached.mono _ _ _ _ _ _ | exact LeO.refl _ | exact LeO.none _ | refine LeO.ite ?_ ?_ | refine LeO.bind ?_ (fun _ => ?_)) | exact ih0 _ _ _ _ _ _ _ _ _ _ | exact ih1 _ | exact ih2 _ _ _ _ _ _ _ _ | exact ih3 _ | exact ih4 _ _ _ _ _ | exact ih5 _ _ _ _ _ _ _ _ _ _ _ | exact impl_BufferOf.mono _ _ _ _ _ _ | exact impl_CriticalWaits.mono _ _ _ _ | exact impl_HarmlessDelay.mono _ _ _ _ _ | exact impl_LeastBuffer.mono _ _ _ _ | exact impl_NextDelays.mono _ _ _ _ _ | exact impl_TrainsReached.mono _ _ _ _ _ _ | exact laws_qInts.mono _ _ _ | exact laws_qLists.mono _ _ _ | exact spec_BufferOf.mono _ _ _ _ _ _ | exact spec_CriticalWaits.mono _ _ _ _ | exact spec_DrawBufferOf.mono _ _ | exact spec_DrawCriticalWaits.mono _ _ | exact spec_DrawHarmlessDelay.mono _ _ | exact spec_DrawTrainsReached.mono _ _ | exact spec_HarmlessDelay.mono _ _ _ _ _ | exact spec_LeastBuffer.mono _ _ _ _ | exact spec_TrainsReached.mono _ _ _ _ _ _ | exact LeO.none _ | refine LeO.ite ?_ ?_ | refine LeO.bind ?_ (fun _ => ?_))
theorem laws_FnBuffers.mono : ∀ a0 a1 k, LeO (laws_FnBuffers.f k a0 a1) (laws_FnBuffers.f (k + 1) a0 a1) := by
 intro a0 a1 k
 obtain ⟨ih0, ih1, ih2, ih3, ih4, ih5⟩ := laws_FnBuffers.mono_l k
 unfold laws_FnBuffers.f
 repeat' first | (with_reducible first | exact ih0 _ _ _ _ _ _ _ _ _ _ | exact ih1 _ | exact ih2 _ _ _ _ _ _ _ _ | exact ih3 _ | exact ih4 _ _ _ _ _ | exact ih5 _ _ _ _ _ _ _ _ _ _ _ | exact impl_BufferOf.mono _ _ _ _ _ _ | exact impl_CriticalWaits.mono _ _ _ _ | exact impl_HarmlessDelay.mono _ _ _ _ _ | exact impl_LeastBuffer.mono _ _ _ _ | exact impl_NextDelays.mono _ _ _ _ _ | exact impl_TrainsReached.mono _ _ _ _ _ _ | exact laws_qInts.mono _ _ _ | exact laws_qLists.mono _ _ _ | exact spec_BufferOf.mono _ _ _ _ _ _ | exact spec_CriticalWaits.mono _ _ _ _ | exact spec_DrawBufferOf.mono _ _ | exact spec_DrawCriticalWaits.mono _ _ | exact spec_DrawHarmlessDelay.mono _ _ | exact spec_DrawTrainsReached.mono _ _ | exact spec_HarmlessDelay.mono _ _ _ _ _ | exact spec_LeastBuffer.mono _ _ _ _ | exact spec_TrainsReached.mono _ _ _ _ _ _ | exact LeO.refl _ | exact LeO.none _ | refine LeO.ite ?_ ?_ | refine LeO.bind ?_ (fun _ => ?_)) | exact ih0 _ _ _ _ _ _ _ _ _ _ | exact ih1 _ | exact ih2 _ _ _ _ _ _ _ _ | exact ih3 _ | exact ih4 _ _ _ _ _ | exact ih5 _ _ _ _ _ _ _ _ _ _ _ | exact impl_BufferOf.mono _ _ _ _ _ _ | exact impl_CriticalWaits.mono _ _ _ _ | exact impl_HarmlessDelay.mono _ _ _ _ _ | exact impl_LeastBuffer.mono _ _ _ _ | exact impl_NextDelays.mono _ _ _ _ _ | exact impl_TrainsReached.mono _ _ _ _ _ _ | exact laws_qInts.mono _ _ _ | exact laws_qLists.mono _ _ _ | exact spec_BufferOf.mono _ _ _ _ _ _ | exact spec_CriticalWaits.mono _ _ _ _ | exact spec_DrawBufferOf.mono _ _ | exact spec_DrawCriticalWaits.mono _ _ | exact spec_DrawHarmlessDelay.mono _ _ | exact spec_DrawTrainsReached.mono _ _ | exact spec_HarmlessDelay.mono _ _ _ _ _ | exact spec_LeastBuffer.mono _ _ _ _ | exact spec_TrainsReached.mono _ _ _ _ _ _ | exact LeO.none _ | refine LeO.ite ?_ ?_ | refine LeO.bind ?_ (fun _ => ?_)
def laws_FnBuffers.T14 : Bool × List (List Nat × List Nat) := (true, [([], []), ([], []), ([], []), ([], []), ([3], [3]), ([4], [4]), ([], []), ([6], [6]), ([7], [7]), ([0, 1, 2, 5, 8], [0, 1, 2, 5, 8]), ([9], [9]), ([10], [10]), ([10], [10]), ([11, 9, 0, 1, 2, 3, 4, 5, 6, 7, 8, 9, 10, 11], [11]), ([12, 13, 0, 1, 2, 3, 4, 5, 6, 7, 8, 9, 10, 11, 12, 13], [12])])
def laws_FnBuffers.B14 : List Nat := [0, 0, 0, 0, 8, 24, 0, 64, 192, 511, 1023, 2047, 2047, 4095, 16383]
theorem laws_FnBuffers.tab14 : rtab .any (opsOf Try.f13 14) = laws_FnBuffers.T14 := by kernel_rfl
theorem laws_FnBuffers.bits14 : waitsOk laws_FnBuffers.T14.2 laws_FnBuffers.B14 = true := by kernel_rfl
set_option maxHeartbeats 8000000 in
set_option maxRecDepth 100000 in
theorem laws_FnBuffers.calls (k : Nat) (A0 : Option Addr) (c0 : Nat) (l0 : List Int) (A1 : Option Addr) (c1 : Nat) (l1 : List Int) (r : Bool) (w : World) (hr0 : Kd.C (Kd.int .u8) w A0 l0.length l0) (hc0 : l0.length ≤ c0) (hr1 : Kd.C (Kd.int .u8) w A1 l1.length l1) (hc1 : l1.length ≤ c1) (h : laws_FnBuffers.f k l0 l1 = some r) :
 Calls Try.prog 13 #[.slice A0 l0.length c0, .slice A1 l1.length c1] w fun e w' => e = .returned (.bool r) ∧ Below w.heap.size w w' := by
 have HR0 := A_ hr0
 have HC0 := A_ hc0
 clear hr0 hc0
 have HR1 := A_ hr1
 have HC1 := A_ hc1
 clear hr1 hc1
 have HB := A_ (Below.refl w.heap.size w)
 have H : (if (wrap64 ((l0.length : Int) + (l1.length : Int))) > 1048576 then (some true) else ((spec_DrawCriticalWaits.f k l0).bind fun bt1119 => ((impl_CriticalWaits.f k bt1119.1 bt1119.2.1 bt1119.2.2).bind fun bt1126 => ((spec_CriticalWaits.f k bt1119.1 bt1119.2.1 bt1119.2.2).bind fun bt1130 => ((impl_LeastBuffer.f k bt1119.1 bt1119.2.1 bt1119.2.2).bind fun bt1134 => ((spec_LeastBuffer.f k bt1119.1 bt1119.2.1 bt1119.2.2).bind fun bt1138 => (if (bt1126.2 != bt1130.2) = true then (laws_FnBuffers.j0 k l1 bt1119.1 bt1119.2.1 bt1119.2.2 bt1126.2 bt1130.1 bt1134.1 bt1134.2.1 bt1138.2.2.1 true) else ((laws_qLists.f k bt1126.1 bt1130.1).bind fun t1142 => (if t1142 = true then (if (bt1134.2.2.2 != bt1138.2.2.2) = true then (laws_FnBuffers.j0 k l1 bt1119.1 bt1119.2.1 bt1119.2.2 bt1126.2 bt1130.1 bt1134.1 bt1134.2.1 bt1138.2.2.1 true) else (if bt1134.1 = bt1138.1 then (if bt1134.2.1 = bt1138.2.1 then (if bt1134.2.2.1 = bt1138.2.2.1 then (laws_FnBuffers.j0 k l1 bt1119.1 bt1119.2.1 bt1119.2.2 bt1126.2 bt1130.1 bt1134.1 bt1134.2.1 bt1138.2.2.1 (bt1134.2.2.2 != bt1126.2)) else (laws_FnBuffers.j0 k l1 bt1119.1 bt1119.2.1 bt1119.2.2 bt1126.2 bt1130.1 bt1134.1 bt1134.2.1 bt1138.2.2.1 true)) else (laws_FnBuffers.j0 k l1 bt1119.1 bt1119.2.1 bt1119.2.2 bt1126.2 bt1130.1 bt1134.1 bt1134.2.1 bt1138.2.2.1 true)) else (laws_FnBuffers.j0 k l1 bt1119.1 bt1119.2.1 bt1119.2.2 bt1126.2 bt1130.1 bt1134.1 bt1134.2.1 bt1138.2.2.1 true))) else (laws_FnBuffers.j0 k l1 bt1119.1 bt1119.2.1 bt1119.2.2 bt1126.2 bt1130.1 bt1134.1 bt1134.2.1 bt1138.2.2.1 true)))))))))) = some r := h
 clear h
 by_cases c3 : (wrap64 ((l0.length : Int) + (l1.length : Int))) > 1048576
 ·
  rw [if_pos c3] at H
  have c3b0 := decide_eq_true c3
  clear c3
  obtain rfl := Option.some.inj H
  go_enter Try.func13, Try.ntmps13
  go_wp2
  go_ret
  exact ⟨ew_, bl_⟩
 ·
  as_aux_lemma =>
  rw [if_neg c3] at H
  have c3b0 := decide_eq_false c3
  clear c3
  obtain ⟨⟨t1119, t1120, t1121⟩, A40, H⟩ := Option.bind_eq_some_iff.mp H
  try dsimp only at H
  have A4 := A_ A40; clear A40
  obtain ⟨⟨t1126, t1127⟩, A50, H⟩ := Option.bind_eq_some_iff.mp H
  try dsimp only at H
  have A5 := A_ A50; clear A50
  obtain ⟨⟨t1130, t1131⟩, A60, H⟩ := Option.bind_eq_some_iff.mp H
  try dsimp only at H
  have A6 := A_ A60; clear A60
  obtain ⟨⟨t1134, t1135, t1136, t1137⟩, A70, H⟩ := Option.bind_eq_some_iff.mp H
  try dsimp only at H
  have A7 := A_ A70; clear A70
  obtain ⟨⟨t1138, t1139, t1140, t1141⟩, A80, H⟩ := Option.bind_eq_some_iff.mp H
  try dsimp only at H
  have A8 := A_ A80; clear A80
  have HC9 := A_ H
  clear H
  go_enter Try.func13, Try.ntmps13
  go_upto_region 8 with (first | ((with_reducible refine gate_callee (f := 45) rfl ?_); refine goesL_ (some 65) rfl rfl Try.func45 kr_ rfl #[.slice A0 l0.length c0] rfl am_ ?_; (with_reducible refine (spec_DrawCriticalWaits.calls k _ _ l0 t1119 t1120 t1121 _ ?side1 ?side2 A4.out).mono ?_); (case side1 => exact kC_ HR0.out); (case side2 => exact HC0.out); rintro e w10 ⟨v1122, v1124, rfl, ho0, ho1, hb⟩; refine ⟨_, rfl, ?_⟩; have n0_ := A_ (Kd.S_lower ho0 (below_size bl_)); have n1_ := A_ (Kd.Q_lower ho1 (below_size bl_)); have n2_ := A_ (below_step bl_ hb); clear HB; have HO1123 := n0_; have HO1125 := n1_; have HB := n2_; clear n0_ n1_ n2_; (try clear hb); (try clear hb2); (try clear hk); (try clear hi); (try clear ho0); (try clear ho1); obtain ⟨Ao11, co11, eo11⟩ := Kd.S_slice HO1123.out; subst eo11; obtain ⟨Ao12, co12, eo12, _⟩ := Kd.Q_slice HO1125.out; subst eo12) | ((with_reducible refine gate_callee (f := 26) rfl ?_); refine goesL_ (some 73) rfl rfl Try.func26 kr_ rfl #[.slice Ao11 t1119.length co11, .slice Ao12 t1120.length co12, .int .i64 t1121] rfl am_ ?_; (with_reducible refine (impl_CriticalWaits.calls k _ _ t1119 _ _ t1120 t1121 t1126 t1127 _ ?side1 ?side2 ?side3 ?side4 A5.out).mono ?_); (case side1 => exact kC_ ((Kd.S_reads' HO1123.out).2.2)); (case side2 => exact (Kd.S_reads' HO1123.out).2.1); (case side3 => exact kC_ ((Kd.Q_reads' HO1125.out).2.2)); (case side4 => exact (Kd.Q_reads' HO1125.out).2.1); rintro e w13 ⟨v1128, rfl, ho0, hb⟩; refine ⟨_, rfl, ?_⟩; have n0_ := A_ (Kd.S_elder' (kS_ HO1123.out) (Kd.S_base ho0) hb); have n1_ := A_ (Kd.Q_below (kQ_ HO1125.out) hb); have n2_ := A_ (Kd.S_lower (Kd.S_new' (Kd.S_new' ho0 (Kd.S_lt (kS_ HO1123.out))) (Kd.Q_lt (kQ_ HO1125.out))) (below_size bl_)); have n3_ := A_ (below_step bl_ hb); clear HO1123; clear HO1125; clear HB; have HO1123 := n0_; have HO1125 := n1_; have HO1129 := n2_; have HB := n3_; clear n0_ n1_ n2_ n3_; (try clear hb); (try clear hb2); (try clear hk); (try clear hi); (try clear ho0)) | ((with_reducible refine gate_callee (f := 25) rfl ?_); refine goesL_ (some 80) rfl rfl Try.func25 kr_ rfl #[.slice Ao11 t1119.length co11, .slice Ao12 t1120.length co12, .int .i64 t1121] rfl am_ ?_; (with_reducible refine (spec_CriticalWaits.calls k _ _ t1119 _ _ t1120 t1121 t1130 t1131 _ ?side1 ?side2 ?side3 ?side4 A6.out).mono ?_); (case side1 => exact kC_ ((Kd.S_reads' HO1123.out).2.2)); (case side2 => exact (Kd.S_reads' HO1123.out).2.1); (case side3 => exact kC_ ((Kd.Q_reads' HO1125.out).2.2)); (case side4 => exact (Kd.Q_reads' HO1125.out).2.1); rintro e w14 ⟨v1132, rfl, ho0, hb⟩; refine ⟨_, rfl, ?_⟩; have n0_ := A_ (Kd.S_elder' (kS_ HO1123.out) (Kd.S_base ho0) hb); have n1_ := A_ (Kd.Q_below (kQ_ HO1125.out) hb); have n2_ := A_ (Kd.S_elder' (kS_ HO1129.out) (Kd.S_base ho0) hb); have n3_ := A_ (Kd.S_lower (Kd.S_new' (Kd.S_new' (Kd.S_new' ho0 (Kd.S_lt (kS_ HO1123.out))) (Kd.Q_lt (kQ_ HO1125.out))) (Kd.S_lt (kS_ HO1129.out))) (below_size bl_)); have n4_ := A_ (below_step bl_ hb); clear HO1123; clear HO1125; clear HO1129; clear HB; have HO1123 := n0_; have HO1125 := n1_; have HO1129 := n2_; have HO1133 := n3_; have HB := n4_; clear n0_ n1_ n2_ n3_ n4_; (try clear hb); (try clear hb2); (try clear hk); (try clear hi); (try clear ho0)) | ((with_reducible refine gate_callee (f := 24) rfl ?_); refine goesL_ (some 87) rfl rfl Try.func24 kr_ rfl #[.slice Ao11 t1119.length co11, .slice Ao12 t1120.length co12, .int .i64 t1121] rfl am_ ?_; (with_reducible refine (impl_LeastBuffer.calls k _ _ t1119 _ _ t1120 t1121 t1134 t1135 t1136 t1137 _ ?side1 ?side2 ?side3 ?side4 A7.out).mono ?_); (case side1 => exact kC_ ((Kd.S_reads' HO1123.out).2.2)); (case side2 => exact (Kd.S_reads' HO1123.out).2.1); (case side3 => exact kC_ ((Kd.Q_reads' HO1125.out).2.2)); (case side4 => exact (Kd.Q_reads' HO1125.out).2.1); rintro e w15 ⟨rfl, hb⟩; refine ⟨_, rfl, ?_⟩; have n0_ := A_ (Kd.S_below (kS_ HO1123.out) hb); have n1_ := A_ (Kd.Q_below (kQ_ HO1125.out) hb); have n2_ := A_ (Kd.S_below (kS_ HO1129.out) hb); have n3_ := A_ (Kd.S_below (kS_ HO1133.out) hb); have n4_ := A_ (below_step bl_ hb); clear HO1123; clear HO1125; clear HO1129; clear HO1133; clear HB; have HO1123 := n0_; have HO1125 := n1_; have HO1129 := n2_; have HO1133 := n3_; have HB := n4_; clear n0_ n1_ n2_ n3_ n4_; (try clear hb); (try clear hb2); (try clear hk); (try clear hi)) | ((with_reducible refine gate_callee (f := 23) rfl ?_); refine goesL_ (some 96) rfl rfl Try.func23 kr_ rfl #[.slice Ao11 t1119.length co11, .slice Ao12 t1120.length co12, .int .i64 t1121] rfl am_ ?_; (with_reducible refine (spec_LeastBuffer.calls k _ _ t1119 _ _ t1120 t1121 t1138 t1139 t1140 t1141 _ ?side1 ?side2 ?side3 ?side4 A8.out).mono ?_); (case side1 => exact kC_ ((Kd.S_reads' HO1123.out).2.2)); (case side2 => exact (Kd.S_reads' HO1123.out).2.1); (case side3 => exact kC_ ((Kd.Q_reads' HO1125.out).2.2)); (case side4 => exact (Kd.Q_reads' HO1125.out).2.1); rintro e w' ⟨rfl, ⟨nd, rfl⟩⟩; refine ⟨_, rfl, ?_⟩))
  (try simp only [Act.put, List.setIfInBounds_toArray, List.set_cons_zero, List.set_cons_succ])
  go_cut [134] (fun v134 wc => ∃ (kq : Nat) (x134_8 : Bool), v134 = .bool x134_8 ∧ Aside0 (laws_FnBuffers.j0 kq l1 t1119 t1120 t1121 t1127 t1130 t1134 t1135 t1140 x134_8 = some r) ∧ Aside0 (kq ≤ k) ∧ Aside0 (Kd.S (Kd.slice 3 (Kd.int .i64)) 23 wc w.heap.size (fun k_ => some k_ ≠ ((.slice Ao12 t1120.length co12) : Value).ownBlock ∧ some k_ ≠ (v1132 : Value).ownBlock) (.slice Ao11 t1119.length co11) t1119) ∧ Aside0 (Kd.Q (Kd.int .i64) 3 wc w.heap.size (fun _ => True) (.slice Ao12 t1120.length co12) t1120) ∧ Aside0 (Kd.S (Kd.slice 3 (Kd.int .i64)) 23 wc w.heap.size (fun k_ => some k_ ≠ ((.slice Ao11 t1119.length co11) : Value).ownBlock ∧ some k_ ≠ ((.slice Ao12 t1120.length co12) : Value).ownBlock) v1132 t1130) ∧ Aside0 (Below w.heap.size w wc))
  case first =>
   have H := HC9.out
   clear HC9
   by_cases c16 : (t1127 != t1131) = true
   ·
    rw [if_pos c16] at H
    have c16b0 : (t1127 != t1131) = true := c16
    (try (have c16b1 : decide (t1127 = t1131) = false := by simpa using c16))
    (try (have c16b2 : (t1127 == t1131) = false := by simpa using c16))
    (try (have c16b3 : ¬ (t1127 = t1131) := by simpa using c16))
    clear c16
    (first | rw [c16b0] | (simp only [i64_w, i32_w]; rw [c16b0]) | skip)
    have H' := A_ H; clear H
    go_wp2
    go_meet
    case rel => exact ⟨_, (true), es_, H', ⟨by first | omega | exact Nat.le_refl _⟩, ⟨by (with_reducible repeat (first | apply Kd.S_alloc | apply Kd.S_drewN | apply Kd.S_drew)); exact Kd.S_mono HO1123.out (fun _ hk => ⟨hk.1.1, hk.2⟩)⟩, ⟨kQ_ HO1125.out⟩, ⟨by (with_reducible repeat (first | apply Kd.S_alloc | apply Kd.S_drewN | apply Kd.S_drew)); exact Kd.S_mono HO1133.out (fun _ hk => ⟨hk.1.1.2, hk.1.2⟩)⟩, ⟨bl_⟩⟩
   ·
    as_aux_lemma =>
    rw [if_neg c16] at H
    have c16b0 : (t1127 != t1131) = false := by simpa using c16
    (try (have c16b1 : decide (t1127 = t1131) = true := by simpa using c16))
    (try (have c16b2 : (t1127 == t1131) = true := by simpa using c16))
    clear c16
    (first | rw [c16b0] | (simp only [i64_w, i32_w]; rw [c16b0]) | skip)
    obtain ⟨t1142, A170, H⟩ := Option.bind_eq_some_iff.mp H
    try dsimp only at H
    have A17 := A_ A170; clear A170
    by_cases c18 : t1142 = true
    ·
     as_aux_lemma =>
     subst c18
     rw [if_pos rfl] at H
     by_cases c19 : (t1137 != t1141) = true
     ·
      rw [if_pos c19] at H
      have c19b0 : (t1137 != t1141) = true := c19
      (try (have c19b1 : decide (t1137 = t1141) = false := by simpa using c19))
      (try (have c19b2 : (t1137 == t1141) = false := by simpa using c19))
      (try (have c19b3 : ¬ (t1137 = t1141) := by simpa using c19))
      clear c19
      have H' := A_ H; clear H
      obtain ⟨Ao20, co20, eo20⟩ := Kd.S_slice HO1129.out
      subst eo20
      obtain ⟨Ao21, co21, eo21⟩ := Kd.S_slice HO1133.out
      subst eo21
      go_wp2_with (first | (go_at_call 46; (with_reducible refine (laws_qLists.calls k _ _ t1126 _ _ t1130 true _ ?side1 ?side2 ?side3 ?side4 A17.out).mono ?_); (case side1 => exact kC_ ((Kd.S_reads' HO1129.out).2.2)); (case side2 => exact (Kd.S_reads' HO1129.out).2.1); (case side3 => exact kC_ ((Kd.S_reads' HO1133.out).2.2)); (case side4 => exact (Kd.S_reads' HO1133.out).2.1); rintro e w' ⟨rfl, ⟨nd, rfl⟩⟩))
      go_meet
      case rel => exact ⟨_, (true), es_, H', ⟨by first | omega | exact Nat.le_refl _⟩, ⟨by (with_reducible repeat (first | apply Kd.S_alloc | apply Kd.S_drewN | apply Kd.S_drew)); exact Kd.S_mono HO1123.out (fun _ hk => ⟨hk.1.1, hk.2⟩)⟩, ⟨kQ_ HO1125.out⟩, ⟨by (with_reducible repeat (first | apply Kd.S_alloc | apply Kd.S_drewN | apply Kd.S_drew)); exact Kd.S_mono HO1133.out (fun _ hk => ⟨hk.1.1.2, hk.1.2⟩)⟩, ⟨bl_⟩⟩
     ·
      as_aux_lemma =>
      rw [if_neg c19] at H
      have c19b0 : (t1137 != t1141) = false := by simpa using c19
      (try (have c19b1 : decide (t1137 = t1141) = true := by simpa using c19))
      (try (have c19b2 : (t1137 == t1141) = true := by simpa using c19))
      clear c19
      by_cases c22 : t1134 = t1138
      ·
       as_aux_lemma =>
       rw [if_pos c22] at H
       have c22b0 : (t1134 == t1138) = true := beq_iff_eq.mpr c22
       have c22b1 : (t1134 != t1138) = false := bne_eq_false_iff_eq.mpr c22
       clear c22
       by_cases c23 : t1135 = t1139
       ·
        rw [if_pos c23] at H
        have c23b0 : (t1135 == t1139) = true := beq_iff_eq.mpr c23
        have c23b1 : (t1135 != t1139) = false := bne_eq_false_iff_eq.mpr c23
        clear c23
        by_cases c24 : t1136 = t1140
        ·
         rw [if_pos c24] at H
         have c24b0 : (t1136 == t1140) = true := beq_iff_eq.mpr c24
         have c24b1 : (t1136 != t1140) = false := bne_eq_false_iff_eq.mpr c24
         clear c24
         have H' := A_ H; clear H
         obtain ⟨Ao25, co25, eo25⟩ := Kd.S_slice HO1129.out
         subst eo25
         obtain ⟨Ao26, co26, eo26⟩ := Kd.S_slice HO1133.out
         subst eo26
         go_wp2_with (first | (go_at_call 46; (with_reducible refine (laws_qLists.calls k _ _ t1126 _ _ t1130 true _ ?side1 ?side2 ?side3 ?side4 A17.out).mono ?_); (case side1 => exact kC_ ((Kd.S_reads' HO1129.out).2.2)); (case side2 => exact (Kd.S_reads' HO1129.out).2.1); (case side3 => exact kC_ ((Kd.S_reads' HO1133.out).2.2)); (case side4 => exact (Kd.S_reads' HO1133.out).2.1); rintro e w' ⟨rfl, ⟨nd, rfl⟩⟩))
         go_meet
         case rel => exact ⟨_, ((t1137 != t1127)), es_, H', ⟨by first | omega | exact Nat.le_refl _⟩, ⟨by (with_reducible repeat (first | apply Kd.S_alloc | apply Kd.S_drewN | apply Kd.S_drew)); exact Kd.S_mono HO1123.out (fun _ hk => ⟨hk.1.1, hk.2⟩)⟩, ⟨kQ_ HO1125.out⟩, ⟨by (with_reducible repeat (first | apply Kd.S_alloc | apply Kd.S_drewN | apply Kd.S_drew)); exact Kd.S_mono HO1133.out (fun _ hk => ⟨hk.1.1.2, hk.1.2⟩)⟩, ⟨bl_⟩⟩
        ·
         rw [if_neg c24] at H
         have c24b0 : (t1136 == t1140) = false := beq_eq_false_iff_ne.mpr c24
         have c24b1 : (t1136 != t1140) = true := bne_iff_ne.mpr c24
         have H' := A_ H; clear H
         obtain ⟨Ao27, co27, eo27⟩ := Kd.S_slice HO1129.out
         subst eo27
         obtain ⟨Ao28, co28, eo28⟩ := Kd.S_slice HO1133.out
         subst eo28
         go_wp2_with (first | (go_at_call 46; (with_reducible refine (laws_qLists.calls k _ _ t1126 _ _ t1130 true _ ?side1 ?side2 ?side3 ?side4 A17.out).mono ?_); (case side1 => exact kC_ ((Kd.S_reads' HO1129.out).2.2)); (case side2 => exact (Kd.S_reads' HO1129.out).2.1); (case side3 => exact kC_ ((Kd.S_reads' HO1133.out).2.2)); (case side4 => exact (Kd.S_reads' HO1133.out).2.1); rintro e w' ⟨rfl, ⟨nd, rfl⟩⟩))
         go_meet
         case rel => exact ⟨_, (true), es_, H', ⟨by first | omega | exact Nat.le_refl _⟩, ⟨by (with_reducible repeat (first | apply Kd.S_alloc | apply Kd.S_drewN | apply Kd.S_drew)); exact Kd.S_mono HO1123.out (fun _ hk => ⟨hk.1.1, hk.2⟩)⟩, ⟨kQ_ HO1125.out⟩, ⟨by (with_reducible repeat (first | apply Kd.S_alloc | apply Kd.S_drewN | apply Kd.S_drew)); exact Kd.S_mono HO1133.out (fun _ hk => ⟨hk.1.1.2, hk.1.2⟩)⟩, ⟨bl_⟩⟩
       ·
        rw [if_neg c23] at H
        have c23b0 : (t1135 == t1139) = false := beq_eq_false_iff_ne.mpr c23
        have c23b1 : (t1135 != t1139) = true := bne_iff_ne.mpr c23
        have H' := A_ H; clear H
        obtain ⟨Ao29, co29, eo29⟩ := Kd.S_slice HO1129.out
        subst eo29
        obtain ⟨Ao30, co30, eo30⟩ := Kd.S_slice HO1133.out
        subst eo30
        go_wp2_with (first | (go_at_call 46; (with_reducible refine (laws_qLists.calls k _ _ t1126 _ _ t1130 true _ ?side1 ?side2 ?side3 ?side4 A17.out).mono ?_); (case side1 => exact kC_ ((Kd.S_reads' HO1129.out).2.2)); (case side2 => exact (Kd.S_reads' HO1129.out).2.1); (case side3 => exact kC_ ((Kd.S_reads' HO1133.out).2.2)); (case side4 => exact (Kd.S_reads' HO1133.out).2.1); rintro e w' ⟨rfl, ⟨nd, rfl⟩⟩))
        go_meet
        case rel => exact ⟨_, (true), es_, H', ⟨by first | omega | exact Nat.le_refl _⟩, ⟨by (with_reducible repeat (first | apply Kd.S_alloc | apply Kd.S_drewN | apply Kd.S_drew)); exact Kd.S_mono HO1123.out (fun _ hk => ⟨hk.1.1, hk.2⟩)⟩, ⟨kQ_ HO1125.out⟩, ⟨by (with_reducible repeat (first | apply Kd.S_alloc | apply Kd.S_drewN | apply Kd.S_drew)); exact Kd.S_mono HO1133.out (fun _ hk => ⟨hk.1.1.2, hk.1.2⟩)⟩, ⟨bl_⟩⟩
      ·
       rw [if_neg c22] at H
       have c22b0 : (t1134 == t1138) = false := beq_eq_false_iff_ne.mpr c22
       have c22b1 : (t1134 != t1138) = true := bne_iff_ne.mpr c22
       have H' := A_ H; clear H
       obtain ⟨Ao31, co31, eo31⟩ := Kd.S_slice HO1129.out
       subst eo31
       obtain ⟨Ao32, co32, eo32⟩ := Kd.S_slice HO1133.out
       subst eo32
       go_wp2_with (first | (go_at_call 46; (with_reducible refine (laws_qLists.calls k _ _ t1126 _ _ t1130 true _ ?side1 ?side2 ?side3 ?side4 A17.out).mono ?_); (case side1 => exact kC_ ((Kd.S_reads' HO1129.out).2.2)); (case side2 => exact (Kd.S_reads' HO1129.out).2.1); (case side3 => exact kC_ ((Kd.S_reads' HO1133.out).2.2)); (case side4 => exact (Kd.S_reads' HO1133.out).2.1); rintro e w' ⟨rfl, ⟨nd, rfl⟩⟩))
       go_meet
       case rel => exact ⟨_, (true), es_, H', ⟨by first | omega | exact Nat.le_refl _⟩, ⟨by (with_reducible repeat (first | apply Kd.S_alloc | apply Kd.S_drewN | apply Kd.S_drew)); exact Kd.S_mono HO1123.out (fun _ hk => ⟨hk.1.1, hk.2⟩)⟩, ⟨kQ_ HO1125.out⟩, ⟨by (with_reducible repeat (first | apply Kd.S_alloc | apply Kd.S_drewN | apply Kd.S_drew)); exact Kd.S_mono HO1133.out (fun _ hk => ⟨hk.1.1.2, hk.1.2⟩)⟩, ⟨bl_⟩⟩
    ·
     replace c18 := Bool.eq_false_iff.mpr c18
     subst c18
     rw [if_neg (show ¬ (false = true) by decide)] at H
     have H' := A_ H; clear H
     obtain ⟨Ao33, co33, eo33⟩ := Kd.S_slice HO1129.out
     subst eo33
     obtain ⟨Ao34, co34, eo34⟩ := Kd.S_slice HO1133.out
     subst eo34
     go_wp2_with (first | (go_at_call 46; (with_reducible refine (laws_qLists.calls k _ _ t1126 _ _ t1130 false _ ?side1 ?side2 ?side3 ?side4 A17.out).mono ?_); (case side1 => exact kC_ ((Kd.S_reads' HO1129.out).2.2)); (case side2 => exact (Kd.S_reads' HO1129.out).2.1); (case side3 => exact kC_ ((Kd.S_reads' HO1133.out).2.2)); (case side4 => exact (Kd.S_reads' HO1133.out).2.1); rintro e w' ⟨rfl, ⟨nd, rfl⟩⟩))
     go_meet
     case rel => exact ⟨_, (true), es_, H', ⟨by first | omega | exact Nat.le_refl _⟩, ⟨by (with_reducible repeat (first | apply Kd.S_alloc | apply Kd.S_drewN | apply Kd.S_drew)); exact Kd.S_mono HO1123.out (fun _ hk => ⟨hk.1.1, hk.2⟩)⟩, ⟨kQ_ HO1125.out⟩, ⟨by (with_reducible repeat (first | apply Kd.S_alloc | apply Kd.S_drewN | apply Kd.S_drew)); exact Kd.S_mono HO1133.out (fun _ hk => ⟨hk.1.1.2, hk.1.2⟩)⟩, ⟨bl_⟩⟩
  case rest =>
   clear HC9
   (try clear c1); (try clear c2); (try clear p2); (try clear c3); (try clear c3b0); (try clear c4); (try clear p6); (try clear c13); (try clear c16); (try clear c16b0); (try clear c16b1); (try clear c16b2); (try clear c18); (try clear c19); (try clear c19b0); (try clear c19b1); (try clear c19b2); (try clear c22); (try clear c22b0); (try clear c22b1); (try clear c23); (try clear c23b0); (try clear c23b1); (try clear c24); (try clear c24b0); (try clear c24b1); (try clear c25); (try clear c26)
   obtain ⟨kq, x134_8, rfl, HA, HJ8, HO_5, HO_6, HO_10, HB⟩ := hcut
   cases kq with
   | zero => exact absurd HA.out (by simp [laws_FnBuffers.j0])
   | succ kj8 =>
    have H := HA.out
    clear HA
    simp only [laws_FnBuffers.j0] at H
    by_cases c35 : x134_8 = true
    ·
     subst c35
     rw [if_pos rfl] at H
     obtain rfl := Option.some.inj H
     go_wp2
     go_ret
     exact ⟨ew_, bl_⟩
    ·
     as_aux_lemma =>
     replace c35 := Bool.eq_false_iff.mpr c35
     subst c35
     rw [if_neg (show ¬ (false = true) by decide)] at H
     have HC36 := A_ H
     clear H
     go_upto_if 135 with (fail)
     go_cut [] (fun wc => ∃ (kq : Nat), Aside0 (laws_FnBuffers.j2 kq l1 = some r) ∧ Aside0 (kq ≤ kj8) ∧ Aside0 (Below w.heap.size w wc))
     case first =>
      have H := HC36.out
      clear HC36
      by_cases c37 : t1127 = true
      ·
       as_aux_lemma =>
       subst c37
       rw [if_pos rfl] at H
       have H' := A_ H; clear H
       obtain ⟨Ao38, co38, eo38⟩ := Kd.S_slice HO_10.out
       subst eo38
       go_wp2
       go_loopg [138] kj8 (fun kq v138 w' => ∃ (x138_2 : Int), v138 = .int .i64 x138_2 ∧ Aside0 (laws_FnBuffers.l0 kq l1 t1119 t1120 t1121 t1130 t1134 t1135 t1140 t1130 (t1130.length : Int) x138_2 = some r) ∧ Aside0 (kq ≤ kj8) ∧ Aside0 (Kd.S (Kd.slice 3 (Kd.int .i64)) 23 w' w.heap.size (fun k_ => some k_ ≠ ((.slice Ao12 t1120.length co12) : Value).ownBlock ∧ some k_ ≠ ((.slice Ao38 t1130.length co38) : Value).ownBlock ∧ some k_ ≠ ((.slice Ao38 t1130.length co38) : Value).ownBlock) (.slice Ao11 t1119.length co11) t1119) ∧ Aside0 (Kd.Q (Kd.int .i64) 3 w' w.heap.size (fun _ => True) (.slice Ao12 t1120.length co12) t1120) ∧ Aside0 (Kd.S (Kd.slice 3 (Kd.int .i64)) 23 w' w.heap.size (fun k_ => some k_ ≠ ((.slice Ao11 t1119.length co11) : Value).ownBlock ∧ some k_ ≠ ((.slice Ao12 t1120.length co12) : Value).ownBlock) (.slice Ao38 t1130.length co38) t1130) ∧ Aside0 (Kd.S (Kd.slice 3 (Kd.int .i64)) 23 w' w.heap.size (fun k_ => some k_ ≠ ((.slice Ao11 t1119.length co11) : Value).ownBlock ∧ some k_ ≠ ((.slice Ao12 t1120.length co12) : Value).ownBlock) (.slice Ao38 t1130.length co38) t1130) ∧ Aside0 (Below w.heap.size w w'))
       case atStart => exact ⟨(0), es_, H', ⟨Nat.le_refl _⟩, ⟨by (with_reducible repeat (first | apply Kd.S_alloc | apply Kd.S_drewN | apply Kd.S_drew)); exact Kd.S_mono HO_5.out (fun _ hk => ⟨hk.1, ⟨hk.2, hk.2⟩⟩)⟩, ⟨kQ_ HO_6.out⟩, ⟨kS_ HO_10.out⟩, ⟨kS_ HO_10.out⟩, ⟨bl_⟩⟩
       case round =>
        clear H'
        (try clear c1); (try clear c2); (try clear p2); (try clear c3); (try clear c3b0); (try clear c4); (try clear p6); (try clear c13); (try clear c16); (try clear c16b0); (try clear c16b1); (try clear c16b2); (try clear c18); (try clear c19); (try clear c19b0); (try clear c19b1); (try clear c19b2); (try clear c22); (try clear c22b0); (try clear c22b1); (try clear c23); (try clear c23b0); (try clear c23b1); (try clear c24); (try clear c24b0); (try clear c24b1); (try clear c25); (try clear c26); (try clear c35); (try clear c37); (try clear p2); (try clear p6)
        obtain ⟨x138_2, rfl, HA, HK2, HO_5, HO_6, HO_10, HO_136, HB⟩ := hrel
        cases gk with
        | zero => exact absurd HA.out (by simp [laws_FnBuffers.l0])
        | succ k2 =>
         have H := HA.out
         clear HA
         simp only [laws_FnBuffers.l0] at H
         by_cases c39 : x138_2 < (t1130.length : Int)
         ·
          as_aux_lemma =>
          rw [if_pos c39] at H
          have c39b0 := decide_eq_true c39
          clear c39
          (first | rw [c39b0] | (simp only [i64_w, i32_w]; rw [c39b0]) | skip)
          by_cases c40 : 0 ≤ x138_2
          ·
           as_aux_lemma =>
           rw [if_pos c40] at H
           have c40b0 := decide_eq_true c40
           clear c40
           by_cases c41 : x138_2 < (t1130.length : Int)
           ·
            as_aux_lemma =>
            rw [if_pos c41] at H
            have c41b0 := decide_eq_true c41
            clear c41
            by_cases c42 : 0 < ((rd_L1 t1130 x138_2).length : Int)
            ·
             as_aux_lemma =>
             rw [if_pos c42] at H
             have c42b0 := decide_eq_true c42
             have c42b1 : decide (0 < (rd_L1 t1130 x138_2).length) = true := decide_eq_true (by omega)
             clear c42
             by_cases c43 : 1 < ((rd_L1 t1130 x138_2).length : Int)
             ·
              as_aux_lemma =>
              rw [if_pos c43] at H
              have c43b0 := decide_eq_true c43
              have c43b1 : decide (1 < (rd_L1 t1130 x138_2).length) = true := decide_eq_true (by omega)
              clear c43
              obtain ⟨⟨t1146, t1147⟩, A440, H⟩ := Option.bind_eq_some_iff.mp H
              try dsimp only at H
              have A44 := A_ A440; clear A440
              by_cases c45 : t1147 = true
              ·
               as_aux_lemma =>
               subst c45
               rw [if_pos rfl] at H
               by_cases c46 : t1146 = 0
               ·
                as_aux_lemma =>
                rw [if_pos c46] at H
                have c46b0 : (t1146 == 0) = true := beq_iff_eq.mpr c46
                have c46b1 : (t1146 != 0) = false := bne_eq_false_iff_eq.mpr c46
                clear c46
                have H' := A_ H; clear H
                have p1143 : 0 ≤ (x138_2 : Int) := od_
                have q1143 : x138_2 < (t1130.length : Int) := od_
                obtain ⟨ad1143, A1143_0, c1143_0, e1143, hx1143_0, hl1143_0, hi1143_0⟩ := at_L1 (Kd.S_reads' HO_136.out).2.2 x138_2 p1143 q1143
                cases e1143
                obtain ⟨ce1143, hce1143, hMe1143, hcc1143⟩ := Kd.S_get HO_136.out [] x138_2 p1143 (by first | exact q1143 | exact od_ | (have e_ := (Kd.S_reads' HO_136.out).1; omega))
                obtain ⟨ve1143_0, rfl, ge1143_0⟩ := hMe1143
                have hv1143_0 := hcc1143 0 _ rfl
                rw [Nat.add_zero, show ((Kd.slice 3 (Kd.int .i64))).sz = 1 from rfl, Nat.mul_one] at hv1143_0
                replace hv1143_0 := Option.some.inj (hv1143_0.symm.trans hx1143_0)
                rw [hv1143_0] at ge1143_0
                have HL1143_0 := A_ (show Kd.R (Kd.int .i64) 3 _ _ _ _ (rd_L1 t1130 x138_2) from ge1143_0)
                clear hv1143_0 ge1143_0
                clear hcc1143 hce1143
                have HR1143_0 := A_ hi1143_0
                have HC1143_0 := A_ hl1143_0
                clear hi1143_0 hl1143_0
                replace p1143 := eq_true p1143
                replace q1143 := eq_true q1143
                try go_wp2
                have n0_ := A_ (Kd.S_drew HO_5.out)
                have n1_ := A_ (Kd.Q_drew HO_6.out)
                have n2_ := A_ (Kd.S_drew HO_10.out)
                have n3_ := A_ (Kd.S_drew HO_136.out)
                have n4_ := A_ (Kd.R_drew HL1143_0.out)
                have n5_ := A_ (Kd.C_drew HR1143_0.out)
                have n6_ := A_ (below_drew1 HB.out)
                clear HO_5
                clear HO_6
                clear HO_10
                clear HO_136
                clear HL1143_0
                clear HR1143_0
                clear HB
                have HO_5 := n0_
                have HO_6 := n1_
                have HO_10 := n2_
                have HO_136 := n3_
                have HL1143_0 := n4_
                have HR1143_0 := n5_
                have HB := n6_
                clear n0_ n1_ n2_ n3_ n4_ n5_ n6_
                have p1144 : 0 ≤ (0 : Int) := (by omega)
                have q1144 : 0 < ((rd_L1 t1130 x138_2).length : Int) := od_
                obtain ⟨ad1144, e1144, hx1144_0⟩ := Kd.at_int (by repeat (first | (with_reducible exact HR1143_0.out) | (with_reducible refine Kd.C_alloc ?_ _) | (with_reducible refine Kd.C_drewN ?_ _) | (with_reducible refine Kd.C_drew ?_) | exact HR1143_0.out)) 0 p1144 q1144
                cases e1144
                have qi1144 : (0 < (rd_L1 t1130 x138_2).length) = True := eq_true (by omega)
                (try rw [show ((0 : Int)).toNat = 0 from rfl] at hx1144_0)
                (try rw [Addr.add_zero'] at hx1144_0)
                replace p1144 := eq_true p1144
                replace q1144 := eq_true q1144
                have p1145 : 0 ≤ (1 : Int) := (by omega)
                have q1145 : 1 < ((rd_L1 t1130 x138_2).length : Int) := od_
                obtain ⟨ad1145, e1145, hx1145_0⟩ := Kd.at_int (by repeat (first | (with_reducible exact HR1143_0.out) | (with_reducible refine Kd.C_alloc ?_ _) | (with_reducible refine Kd.C_drewN ?_ _) | (with_reducible refine Kd.C_drew ?_) | exact HR1143_0.out)) 1 p1145 q1145
                obtain rfl : ad1144 = ad1145 := (by injection e1145)
                (try simp only [show (1 : Int).toNat = 1 from rfl, Nat.reduceMul, Nat.reduceEqDiff, Go.Addr.add, ↓reduceIte] at hx1145_0)
                have qi1145 : (1 < (rd_L1 t1130 x138_2).length) = True := eq_true (by omega)
                (try rw [show ((1 : Int)).toNat = 1 from rfl] at hx1145_0)
                replace p1145 := eq_true p1145
                replace q1145 := eq_true q1145
                refine start_ (n := 15) (S := fun w' => w'.cell? ad1144 = some (.int .i64 (rd (rd_L1 t1130 x138_2) 0)) ∧ w'.cell? ⟨ad1144.block, ad1144.off + 1, none⟩ = some (.int .i64 (rd (rd_L1 t1130 x138_2) 1))) (ds := []) #[false, false, false, false, false, false, false, false, false, false, false, false, false, false, false] kr_ rfl rfl ⟨hx1144_0, hx1145_0⟩ (fun hHeld => ?_); refine with_tabW laws_FnBuffers.tab14 laws_FnBuffers.bits14 (fun HT_ HW_ => ?_)
                generalize wr.drew = w47 at HO_5 HO_6 HO_10 HO_136 HL1143_0 HR1143_0 HB hx1144_0 hx1145_0 hHeld ⊢
                refine pure_ (i := 0) (N := some 143) (v := ?_) (a' := ?_) #[true, false, false, false, false, false, false, false, false, false, false, false, false, false, false] rfl rfl (any_of HT_.out kr_) (fun _ _ _ h => h) (Or.inl ⟨by rfl, ?_⟩) ?_ ?_
                rotate_left
                ·
                 intro w'
                 go_simp
                 with_reducible rfl
                rotate_left
                ·
                 simp only [Act.put, List.setIfInBounds_toArray, List.set_cons_zero, List.set_cons_succ, i64_w, i32_w]
                 rfl
                refine pure_ (i := 1) (N := some 144) (v := ?_) (a' := ?_) #[true, true, false, false, false, false, false, false, false, false, false, false, false, false, false] rfl rfl (any_of HT_.out kr_) (fun _ _ _ h => h) (Or.inl ⟨by rfl, ?_⟩) ?_ ?_
                rotate_left
                ·
                 intro w'
                 go_simp
                 with_reducible rfl
                rotate_left
                ·
                 simp only [Act.put, List.setIfInBounds_toArray, List.set_cons_zero, List.set_cons_succ, i64_w, i32_w]
                 rfl
                refine pure_ (i := 2) (N := some 145) (v := ?_) (a' := ?_) #[true, true, true, false, false, false, false, false, false, false, false, false, false, false, false] rfl rfl (any_of HT_.out kr_) (fun _ _ _ h => h) (Or.inl ⟨by rfl, ?_⟩) ?_ ?_
                rotate_left
                ·
                 intro w'
                 go_simp
                 with_reducible rfl
                rotate_left
                ·
                 simp only [Act.put, List.setIfInBounds_toArray, List.set_cons_zero, List.set_cons_succ, i64_w, i32_w]
                 rfl
                refine pure_ (i := 3) (N := some 146) (v := ?_) (a' := ?_) #[true, true, true, true, false, false, false, false, false, false, false, false, false, false, false] rfl rfl (any_of HT_.out kr_) (fun _ _ _ h => h) (Or.inl ⟨by rfl, ?_⟩) ?_ ?_
                rotate_left
                ·
                 intro w'
                 go_simp
                 with_reducible rfl
                rotate_left
                ·
                 simp only [Act.put, List.setIfInBounds_toArray, List.set_cons_zero, List.set_cons_succ, i64_w, i32_w]
                 rfl
                refine pure_ (i := 4) (N := some 147) (v := ?_) (a' := ?_) #[true, true, true, true, true, false, false, false, false, false, false, false, false, false, false] rfl rfl (any_of HT_.out kr_) (fun _ _ _ h => h) (Or.inl ⟨by rfl, ?_⟩) ?_ ?_
                rotate_left
                ·
                 intro w'
                 go_simp
                 with_reducible rfl
                rotate_left
                ·
                 simp only [Act.put, List.setIfInBounds_toArray, List.set_cons_zero, List.set_cons_succ, i64_w, i32_w]
                 rfl
                refine pure_ (i := 6) (N := some 149) (v := ?_) (a' := ?_) #[true, true, true, true, true, false, true, false, false, false, false, false, false, false, false] rfl rfl (any_of HT_.out kr_) (fun _ _ _ h => h) (Or.inl ⟨by rfl, ?_⟩) ?_ ?_
                rotate_left
                ·
                 intro w'
                 go_simp
                 with_reducible rfl
                rotate_left
                ·
                 simp only [Act.put, List.setIfInBounds_toArray, List.set_cons_zero, List.set_cons_succ, i64_w, i32_w]
                 rfl
                refine pure_ (i := 7) (N := some 150) (v := ?_) (a' := ?_) #[true, true, true, true, true, false, true, true, false, false, false, false, false, false, false] rfl rfl (any_of HT_.out kr_) (fun _ _ _ h => h) (Or.inl ⟨by rfl, ?_⟩) ?_ ?_
                rotate_left
                ·
                 intro w'
                 go_simp
                 with_reducible rfl
                rotate_left
                ·
                 simp only [Act.put, List.setIfInBounds_toArray, List.set_cons_zero, List.set_cons_succ, i64_w, i32_w]
                 rfl
                refine take_ (i := 5) (N := some 148) (v := ?_) (a' := ?_) #[true, true, true, true, true, true, true, true, false, false, false, false, false, false, false] rfl rfl (take_ofW HT_.out HW_.out kr_) (fun _ _ _ h => h) (Or.inl ⟨by rfl, ?_⟩) hHeld ?_ ?_
                rotate_left
                ·
                 rintro w' ⟨s0, s1⟩
                 go_simp
                 with_reducible rfl
                rotate_left
                ·
                 simp only [Act.put, List.setIfInBounds_toArray, List.set_cons_zero, List.set_cons_succ, i64_w, i32_w]
                 rfl
                refine take_ (i := 8) (N := some 151) (v := ?_) (a' := ?_) #[true, true, true, true, true, true, true, true, true, false, false, false, false, false, false] rfl rfl (take_ofW HT_.out HW_.out kr_) (fun _ _ _ h => h) (Or.inl ⟨by rfl, ?_⟩) hHeld ?_ ?_
                rotate_left
                ·
                 rintro w' ⟨s0, s1⟩
                 go_simp
                 with_reducible rfl
                rotate_left
                ·
                 simp only [Act.put, List.setIfInBounds_toArray, List.set_cons_zero, List.set_cons_succ, i64_w, i32_w]
                 rfl
                refine one_ (i := 9) (N := some 152) #[true, true, true, true, true, true, true, true, true, true, false, false, false, false, false] rfl rfl (one_of HT_.out kr_) (by decide) (fun K hK => ?_)
                refine goes_ Try.func18 kr_ rfl #[.slice Ao11 t1119.length co11, .slice Ao12 t1120.length co12, .int .i64 t1121, .int .i64 (rd (rd_L1 t1130 x138_2) 0), .int .i64 (rd (rd_L1 t1130 x138_2) 1)] (by rfl) rfl rfl am_ ?_
                with_reducible refine (impl_BufferOf.calls k2 _ _ t1119 _ _ t1120 t1121 (rd (rd_L1 t1130 x138_2) 0) (rd (rd_L1 t1130 x138_2) 1) t1146 true _ ?side1 ?side2 ?side3 ?side4 A44.out).mono ?_
                (case side1 => exact kC_ ((Kd.S_reads' HO_5.out).2.2))
                (case side2 => exact (Kd.S_reads' HO_5.out).2.1)
                (case side3 => exact kC_ ((Kd.Q_reads' HO_6.out).2.2))
                (case side4 => exact (Kd.Q_reads' HO_6.out).2.1)
                rintro e w48 ⟨rfl, hb⟩
                have HS0_ := (hb.cell (World.block_lt_of_cell? _ _ (hHeld.1))).trans (hHeld.1)
                have HS1_ := (hb.cell (World.block_lt_of_cell? _ _ (hHeld.2))).trans (hHeld.2)
                refine ⟨_, rfl, ?_⟩
                have n0_ := A_ (Kd.S_below (kS_ HO_5.out) hb)
                have n1_ := A_ (Kd.Q_below (kQ_ HO_6.out) hb)
                have n2_ := A_ (Kd.S_below (kS_ HO_10.out) hb)
                have n3_ := A_ (Kd.S_below (kS_ HO_136.out) hb)
                have n4_ := A_ (Kd.R_below (kR_ HL1143_0.out) hb)
                have n5_ := A_ (Kd.C_below (by repeat (first | (with_reducible exact HR1143_0.out) | (with_reducible refine Kd.C_alloc ?_ _) | (with_reducible refine Kd.C_drewN ?_ _) | (with_reducible refine Kd.C_drew ?_) | exact HR1143_0.out)) hb)
                have n6_ := A_ (below_step bl_ hb)
                clear HO_5
                clear HO_6
                clear HO_10
                clear HO_136
                clear HL1143_0
                clear HR1143_0
                clear HB
                have HO_5 := n0_
                have HO_6 := n1_
                have HO_10 := n2_
                have HO_136 := n3_
                have HL1143_0 := n4_
                have HR1143_0 := n5_
                have HB := n6_
                clear n0_ n1_ n2_ n3_ n4_ n5_ n6_
                (try clear hb)
                (try clear hb2)
                (try clear hk)
                (try clear hi)
                refine hK.out _ _ ⟨HS0_, HS1_⟩ (fun hHeld => ?_)
                clear hK K
                refine norm_ (a' := ?_) ?_ ?_
                rotate_left
                ·
                 show Act.put _ (some 152) _ = _
                 simp only [Act.put, List.setIfInBounds_toArray, List.set_cons_zero, List.set_cons_succ, i64_w, i32_w]
                 rfl
                refine pure_ (i := 10) (N := some 142) (v := ?_) (a' := ?_) #[true, true, true, true, true, true, true, true, true, true, true, false, false, false, false] rfl rfl (any_of HT_.out kr_) (fun _ _ _ h => h) (Or.inl ⟨by rfl, ?_⟩) ?_ ?_
                rotate_left
                ·
                 intro w'
                 go_simp
                 with_reducible rfl
                rotate_left
                ·
                 simp only [Act.put, List.setIfInBounds_toArray, List.set_cons_zero, List.set_cons_succ, i64_w, i32_w]
                 rfl
                refine pure_ (i := 11) (N := some 153) (v := ?_) (a' := ?_) #[true, true, true, true, true, true, true, true, true, true, true, true, false, false, false] rfl rfl (any_of HT_.out kr_) (fun _ _ _ h => h) (Or.inl ⟨by rfl, ?_⟩) ?_ ?_
                rotate_left
                ·
                 intro w'
                 go_simp
                 with_reducible rfl
                rotate_left
                ·
                 simp only [Act.put, List.setIfInBounds_toArray, List.set_cons_zero, List.set_cons_succ, i64_w, i32_w]
                 rfl
                refine pure_ (i := 12) (N := some 154) (v := ?_) (a' := ?_) #[true, true, true, true, true, true, true, true, true, true, true, true, true, false, false] rfl rfl (any_of HT_.out kr_) (fun _ _ _ h => h) (Or.inl ⟨by rfl, ?_⟩) ?_ ?_
                rotate_left
                ·
                 intro w'
                 go_simp
                 with_reducible rfl
                rotate_left
                ·
                 simp only [Act.put, List.setIfInBounds_toArray, List.set_cons_zero, List.set_cons_succ, i64_w, i32_w]
                 rfl
                refine pure_ (i := 13) (N := some 22) (v := ?_) (a' := ?_) #[true, true, true, true, true, true, true, true, true, true, true, true, true, true, false] rfl rfl (any_of HT_.out kr_) (fun _ _ _ h => h) (Or.inl ⟨by rfl, ?_⟩) ?_ ?_
                rotate_left
                ·
                 intro w'
                 go_simp
                 with_reducible rfl
                rotate_left
                ·
                 simp only [Act.put, List.setIfInBounds_toArray, List.set_cons_zero, List.set_cons_succ, i64_w, i32_w]
                 rfl
                refine pure_ (i := 14) (N := some 23) (v := ?_) (a' := ?_) #[true, true, true, true, true, true, true, true, true, true, true, true, true, true, true] rfl rfl (any_of HT_.out kr_) (fun _ _ _ h => h) (Or.inl ⟨by rfl, ?_⟩) ?_ ?_
                rotate_left
                ·
                 intro w'
                 go_simp
                 with_reducible rfl
                rotate_left
                ·
                 simp only [Act.put, List.setIfInBounds_toArray, List.set_cons_zero, List.set_cons_succ, i64_w, i32_w]
                 rfl
                refine done_ (done_of HT_.out kr_) ?_
                try go_wp2
                go_roundg k2
                case measure => have := HJ8.out; have := HK2.out; omega
                case rel => exact ⟨(wrap64 (x138_2 + 1)), es_, H', ⟨by have := HJ8.out; have := HK2.out; omega⟩, ⟨kS_ HO_5.out⟩, ⟨kQ_ HO_6.out⟩, ⟨kS_ HO_10.out⟩, ⟨kS_ HO_136.out⟩, ⟨bl_⟩⟩
               ·
                as_aux_lemma =>
                rw [if_neg c46] at H
                have c46b0 : (t1146 == 0) = false := beq_eq_false_iff_ne.mpr c46
                have c46b1 : (t1146 != 0) = true := bne_iff_ne.mpr c46
                obtain rfl := Option.some.inj H
                have p1143 : 0 ≤ (x138_2 : Int) := od_
                have q1143 : x138_2 < (t1130.length : Int) := od_
                obtain ⟨ad1143, A1143_0, c1143_0, e1143, hx1143_0, hl1143_0, hi1143_0⟩ := at_L1 (Kd.S_reads' HO_136.out).2.2 x138_2 p1143 q1143
                cases e1143
                obtain ⟨ce1143, hce1143, hMe1143, hcc1143⟩ := Kd.S_get HO_136.out [] x138_2 p1143 (by first | exact q1143 | exact od_ | (have e_ := (Kd.S_reads' HO_136.out).1; omega))
                obtain ⟨ve1143_0, rfl, ge1143_0⟩ := hMe1143
                have hv1143_0 := hcc1143 0 _ rfl
                rw [Nat.add_zero, show ((Kd.slice 3 (Kd.int .i64))).sz = 1 from rfl, Nat.mul_one] at hv1143_0
                replace hv1143_0 := Option.some.inj (hv1143_0.symm.trans hx1143_0)
                rw [hv1143_0] at ge1143_0
                have HL1143_0 := A_ (show Kd.R (Kd.int .i64) 3 _ _ _ _ (rd_L1 t1130 x138_2) from ge1143_0)
                clear hv1143_0 ge1143_0
                clear hcc1143 hce1143
                have HR1143_0 := A_ hi1143_0
                have HC1143_0 := A_ hl1143_0
                clear hi1143_0 hl1143_0
                replace p1143 := eq_true p1143
                replace q1143 := eq_true q1143
                try go_wp2
                have n0_ := A_ (Kd.S_drew HO_5.out)
                have n1_ := A_ (Kd.Q_drew HO_6.out)
                have n2_ := A_ (Kd.S_drew HO_10.out)
                have n3_ := A_ (Kd.S_drew HO_136.out)
                have n4_ := A_ (Kd.R_drew HL1143_0.out)
                have n5_ := A_ (Kd.C_drew HR1143_0.out)
                have n6_ := A_ (below_drew1 HB.out)
                clear HO_5
                clear HO_6
                clear HO_10
                clear HO_136
                clear HL1143_0
                clear HR1143_0
                clear HB
                have HO_5 := n0_
                have HO_6 := n1_
                have HO_10 := n2_
                have HO_136 := n3_
                have HL1143_0 := n4_
                have HR1143_0 := n5_
                have HB := n6_
                clear n0_ n1_ n2_ n3_ n4_ n5_ n6_
                have p1144 : 0 ≤ (0 : Int) := (by omega)
                have q1144 : 0 < ((rd_L1 t1130 x138_2).length : Int) := od_
                obtain ⟨ad1144, e1144, hx1144_0⟩ := Kd.at_int (by repeat (first | (with_reducible exact HR1143_0.out) | (with_reducible refine Kd.C_alloc ?_ _) | (with_reducible refine Kd.C_drewN ?_ _) | (with_reducible refine Kd.C_drew ?_) | exact HR1143_0.out)) 0 p1144 q1144
                cases e1144
                have qi1144 : (0 < (rd_L1 t1130 x138_2).length) = True := eq_true (by omega)
                (try rw [show ((0 : Int)).toNat = 0 from rfl] at hx1144_0)
                (try rw [Addr.add_zero'] at hx1144_0)
                replace p1144 := eq_true p1144
                replace q1144 := eq_true q1144
                have p1145 : 0 ≤ (1 : Int) := (by omega)
                have q1145 : 1 < ((rd_L1 t1130 x138_2).length : Int) := od_
                obtain ⟨ad1145, e1145, hx1145_0⟩ := Kd.at_int (by repeat (first | (with_reducible exact HR1143_0.out) | (with_reducible refine Kd.C_alloc ?_ _) | (with_reducible refine Kd.C_drewN ?_ _) | (with_reducible refine Kd.C_drew ?_) | exact HR1143_0.out)) 1 p1145 q1145
                obtain rfl : ad1144 = ad1145 := (by injection e1145)
                (try simp only [show (1 : Int).toNat = 1 from rfl, Nat.reduceMul, Nat.reduceEqDiff, Go.Addr.add, ↓reduceIte] at hx1145_0)
                have qi1145 : (1 < (rd_L1 t1130 x138_2).length) = True := eq_true (by omega)
                (try rw [show ((1 : Int)).toNat = 1 from rfl] at hx1145_0)
                replace p1145 := eq_true p1145
                replace q1145 := eq_true q1145
                refine start_ (n := 15) (S := fun w' => w'.cell? ad1144 = some (.int .i64 (rd (rd_L1 t1130 x138_2) 0)) ∧ w'.cell? ⟨ad1144.block, ad1144.off + 1, none⟩ = some (.int .i64 (rd (rd_L1 t1130 x138_2) 1))) (ds := []) #[false, false, false, false, false, false, false, false, false, false, false, false, false, false, false] kr_ rfl rfl ⟨hx1144_0, hx1145_0⟩ (fun hHeld => ?_); refine with_tabW laws_FnBuffers.tab14 laws_FnBuffers.bits14 (fun HT_ HW_ => ?_)
                generalize wr.drew = w49 at HO_5 HO_6 HO_10 HO_136 HL1143_0 HR1143_0 HB hx1144_0 hx1145_0 hHeld ⊢
                refine pure_ (i := 0) (N := some 143) (v := ?_) (a' := ?_) #[true, false, false, false, false, false, false, false, false, false, false, false, false, false, false] rfl rfl (any_of HT_.out kr_) (fun _ _ _ h => h) (Or.inl ⟨by rfl, ?_⟩) ?_ ?_
                rotate_left
                ·
                 intro w'
                 go_simp
                 with_reducible rfl
                rotate_left
                ·
                 simp only [Act.put, List.setIfInBounds_toArray, List.set_cons_zero, List.set_cons_succ, i64_w, i32_w]
                 rfl
                refine pure_ (i := 1) (N := some 144) (v := ?_) (a' := ?_) #[true, true, false, false, false, false, false, false, false, false, false, false, false, false, false] rfl rfl (any_of HT_.out kr_) (fun _ _ _ h => h) (Or.inl ⟨by rfl, ?_⟩) ?_ ?_
                rotate_left
                ·
                 intro w'
                 go_simp
                 with_reducible rfl
                rotate_left
                ·
                 simp only [Act.put, List.setIfInBounds_toArray, List.set_cons_zero, List.set_cons_succ, i64_w, i32_w]
                 rfl
                refine pure_ (i := 2) (N := some 145) (v := ?_) (a' := ?_) #[true, true, true, false, false, false, false, false, false, false, false, false, false, false, false] rfl rfl (any_of HT_.out kr_) (fun _ _ _ h => h) (Or.inl ⟨by rfl, ?_⟩) ?_ ?_
                rotate_left
                ·
                 intro w'
                 go_simp
                 with_reducible rfl
                rotate_left
                ·
                 simp only [Act.put, List.setIfInBounds_toArray, List.set_cons_zero, List.set_cons_succ, i64_w, i32_w]
                 rfl
                refine pure_ (i := 3) (N := some 146) (v := ?_) (a' := ?_) #[true, true, true, true, false, false, false, false, false, false, false, false, false, false, false] rfl rfl (any_of HT_.out kr_) (fun _ _ _ h => h) (Or.inl ⟨by rfl, ?_⟩) ?_ ?_
                rotate_left
                ·
                 intro w'
                 go_simp
                 with_reducible rfl
                rotate_left
                ·
                 simp only [Act.put, List.setIfInBounds_toArray, List.set_cons_zero, List.set_cons_succ, i64_w, i32_w]
                 rfl
                refine pure_ (i := 4) (N := some 147) (v := ?_) (a' := ?_) #[true, true, true, true, true, false, false, false, false, false, false, false, false, false, false] rfl rfl (any_of HT_.out kr_) (fun _ _ _ h => h) (Or.inl ⟨by rfl, ?_⟩) ?_ ?_
                rotate_left
                ·
                 intro w'
                 go_simp
                 with_reducible rfl
                rotate_left
                ·
                 simp only [Act.put, List.setIfInBounds_toArray, List.set_cons_zero, List.set_cons_succ, i64_w, i32_w]
                 rfl
                refine pure_ (i := 6) (N := some 149) (v := ?_) (a' := ?_) #[true, true, true, true, true, false, true, false, false, false, false, false, false, false, false] rfl rfl (any_of HT_.out kr_) (fun _ _ _ h => h) (Or.inl ⟨by rfl, ?_⟩) ?_ ?_
                rotate_left
                ·
                 intro w'
                 go_simp
                 with_reducible rfl
                rotate_left
                ·
                 simp only [Act.put, List.setIfInBounds_toArray, List.set_cons_zero, List.set_cons_succ, i64_w, i32_w]
                 rfl
                refine pure_ (i := 7) (N := some 150) (v := ?_) (a' := ?_) #[true, true, true, true, true, false, true, true, false, false, false, false, false, false, false] rfl rfl (any_of HT_.out kr_) (fun _ _ _ h => h) (Or.inl ⟨by rfl, ?_⟩) ?_ ?_
                rotate_left
                ·
                 intro w'
                 go_simp
                 with_reducible rfl
                rotate_left
                ·
                 simp only [Act.put, List.setIfInBounds_toArray, List.set_cons_zero, List.set_cons_succ, i64_w, i32_w]
                 rfl
                refine take_ (i := 5) (N := some 148) (v := ?_) (a' := ?_) #[true, true, true, true, true, true, true, true, false, false, false, false, false, false, false] rfl rfl (take_ofW HT_.out HW_.out kr_) (fun _ _ _ h => h) (Or.inl ⟨by rfl, ?_⟩) hHeld ?_ ?_
                rotate_left
                ·
                 rintro w' ⟨s0, s1⟩
                 go_simp
                 with_reducible rfl
                rotate_left
                ·
                 simp only [Act.put, List.setIfInBounds_toArray, List.set_cons_zero, List.set_cons_succ, i64_w, i32_w]
                 rfl
                refine take_ (i := 8) (N := some 151) (v := ?_) (a' := ?_) #[true, true, true, true, true, true, true, true, true, false, false, false, false, false, false] rfl rfl (take_ofW HT_.out HW_.out kr_) (fun _ _ _ h => h) (Or.inl ⟨by rfl, ?_⟩) hHeld ?_ ?_
                rotate_left
                ·
                 rintro w' ⟨s0, s1⟩
                 go_simp
                 with_reducible rfl
                rotate_left
                ·
                 simp only [Act.put, List.setIfInBounds_toArray, List.set_cons_zero, List.set_cons_succ, i64_w, i32_w]
                 rfl
                refine one_ (i := 9) (N := some 152) #[true, true, true, true, true, true, true, true, true, true, false, false, false, false, false] rfl rfl (one_of HT_.out kr_) (by decide) (fun K hK => ?_)
                refine goes_ Try.func18 kr_ rfl #[.slice Ao11 t1119.length co11, .slice Ao12 t1120.length co12, .int .i64 t1121, .int .i64 (rd (rd_L1 t1130 x138_2) 0), .int .i64 (rd (rd_L1 t1130 x138_2) 1)] (by rfl) rfl rfl am_ ?_
                with_reducible refine (impl_BufferOf.calls k2 _ _ t1119 _ _ t1120 t1121 (rd (rd_L1 t1130 x138_2) 0) (rd (rd_L1 t1130 x138_2) 1) t1146 true _ ?side1 ?side2 ?side3 ?side4 A44.out).mono ?_
                (case side1 => exact kC_ ((Kd.S_reads' HO_5.out).2.2))
                (case side2 => exact (Kd.S_reads' HO_5.out).2.1)
                (case side3 => exact kC_ ((Kd.Q_reads' HO_6.out).2.2))
                (case side4 => exact (Kd.Q_reads' HO_6.out).2.1)
                rintro e w50 ⟨rfl, hb⟩
                have HS0_ := (hb.cell (World.block_lt_of_cell? _ _ (hHeld.1))).trans (hHeld.1)
                have HS1_ := (hb.cell (World.block_lt_of_cell? _ _ (hHeld.2))).trans (hHeld.2)
                refine ⟨_, rfl, ?_⟩
                have n0_ := A_ (Kd.S_below (kS_ HO_5.out) hb)
                have n1_ := A_ (Kd.Q_below (kQ_ HO_6.out) hb)
                have n2_ := A_ (Kd.S_below (kS_ HO_10.out) hb)
                have n3_ := A_ (Kd.S_below (kS_ HO_136.out) hb)
                have n4_ := A_ (Kd.R_below (kR_ HL1143_0.out) hb)
                have n5_ := A_ (Kd.C_below (by repeat (first | (with_reducible exact HR1143_0.out) | (with_reducible refine Kd.C_alloc ?_ _) | (with_reducible refine Kd.C_drewN ?_ _) | (with_reducible refine Kd.C_drew ?_) | exact HR1143_0.out)) hb)
                have n6_ := A_ (below_step bl_ hb)
                clear HO_5
                clear HO_6
                clear HO_10
                clear HO_136
                clear HL1143_0
                clear HR1143_0
                clear HB
                have HO_5 := n0_
                have HO_6 := n1_
                have HO_10 := n2_
                have HO_136 := n3_
                have HL1143_0 := n4_
                have HR1143_0 := n5_
                have HB := n6_
                clear n0_ n1_ n2_ n3_ n4_ n5_ n6_
                (try clear hb)
                (try clear hb2)
                (try clear hk)
                (try clear hi)
                refine hK.out _ _ ⟨HS0_, HS1_⟩ (fun hHeld => ?_)
                clear hK K
                refine norm_ (a' := ?_) ?_ ?_
                rotate_left
                ·
                 show Act.put _ (some 152) _ = _
                 simp only [Act.put, List.setIfInBounds_toArray, List.set_cons_zero, List.set_cons_succ, i64_w, i32_w]
                 rfl
                refine pure_ (i := 10) (N := some 142) (v := ?_) (a' := ?_) #[true, true, true, true, true, true, true, true, true, true, true, false, false, false, false] rfl rfl (any_of HT_.out kr_) (fun _ _ _ h => h) (Or.inl ⟨by rfl, ?_⟩) ?_ ?_
                rotate_left
                ·
                 intro w'
                 go_simp
                 with_reducible rfl
                rotate_left
                ·
                 simp only [Act.put, List.setIfInBounds_toArray, List.set_cons_zero, List.set_cons_succ, i64_w, i32_w]
                 rfl
                refine pure_ (i := 11) (N := some 153) (v := ?_) (a' := ?_) #[true, true, true, true, true, true, true, true, true, true, true, true, false, false, false] rfl rfl (any_of HT_.out kr_) (fun _ _ _ h => h) (Or.inl ⟨by rfl, ?_⟩) ?_ ?_
                rotate_left
                ·
                 intro w'
                 go_simp
                 with_reducible rfl
                rotate_left
                ·
                 simp only [Act.put, List.setIfInBounds_toArray, List.set_cons_zero, List.set_cons_succ, i64_w, i32_w]
                 rfl
                refine pure_ (i := 12) (N := some 154) (v := ?_) (a' := ?_) #[true, true, true, true, true, true, true, true, true, true, true, true, true, false, false] rfl rfl (any_of HT_.out kr_) (fun _ _ _ h => h) (Or.inl ⟨by rfl, ?_⟩) ?_ ?_
                rotate_left
                ·
                 intro w'
                 go_simp
                 with_reducible rfl
                rotate_left
                ·
                 simp only [Act.put, List.setIfInBounds_toArray, List.set_cons_zero, List.set_cons_succ, i64_w, i32_w]
                 rfl
                refine pure_ (i := 13) (N := some 22) (v := ?_) (a' := ?_) #[true, true, true, true, true, true, true, true, true, true, true, true, true, true, false] rfl rfl (any_of HT_.out kr_) (fun _ _ _ h => h) (Or.inl ⟨by rfl, ?_⟩) ?_ ?_
                rotate_left
                ·
                 intro w'
                 go_simp
                 with_reducible rfl
                rotate_left
                ·
                 simp only [Act.put, List.setIfInBounds_toArray, List.set_cons_zero, List.set_cons_succ, i64_w, i32_w]
                 rfl
                refine pure_ (i := 14) (N := some 23) (v := ?_) (a' := ?_) #[true, true, true, true, true, true, true, true, true, true, true, true, true, true, true] rfl rfl (any_of HT_.out kr_) (fun _ _ _ h => h) (Or.inl ⟨by rfl, ?_⟩) ?_ ?_
                rotate_left
                ·
                 intro w'
                 go_simp
                 with_reducible rfl
                rotate_left
                ·
                 simp only [Act.put, List.setIfInBounds_toArray, List.set_cons_zero, List.set_cons_succ, i64_w, i32_w]
                 rfl
                refine done_ (done_of HT_.out kr_) ?_
                try go_wp2
                go_ret
                exact ⟨ew_, bl_⟩
              ·
               as_aux_lemma =>
               replace c45 := Bool.eq_false_iff.mpr c45
               subst c45
               rw [if_neg (show ¬ (false = true) by decide)] at H
               obtain rfl := Option.some.inj H
               have p1143 : 0 ≤ (x138_2 : Int) := od_
               have q1143 : x138_2 < (t1130.length : Int) := od_
               obtain ⟨ad1143, A1143_0, c1143_0, e1143, hx1143_0, hl1143_0, hi1143_0⟩ := at_L1 (Kd.S_reads' HO_136.out).2.2 x138_2 p1143 q1143
               cases e1143
               obtain ⟨ce1143, hce1143, hMe1143, hcc1143⟩ := Kd.S_get HO_136.out [] x138_2 p1143 (by first | exact q1143 | exact od_ | (have e_ := (Kd.S_reads' HO_136.out).1; omega))
               obtain ⟨ve1143_0, rfl, ge1143_0⟩ := hMe1143
               have hv1143_0 := hcc1143 0 _ rfl
               rw [Nat.add_zero, show ((Kd.slice 3 (Kd.int .i64))).sz = 1 from rfl, Nat.mul_one] at hv1143_0
               replace hv1143_0 := Option.some.inj (hv1143_0.symm.trans hx1143_0)
               rw [hv1143_0] at ge1143_0
               have HL1143_0 := A_ (show Kd.R (Kd.int .i64) 3 _ _ _ _ (rd_L1 t1130 x138_2) from ge1143_0)
               clear hv1143_0 ge1143_0
               clear hcc1143 hce1143
               have HR1143_0 := A_ hi1143_0
               have HC1143_0 := A_ hl1143_0
               clear hi1143_0 hl1143_0
               replace p1143 := eq_true p1143
               replace q1143 := eq_true q1143
               try go_wp2
               have n0_ := A_ (Kd.S_drew HO_5.out)
               have n1_ := A_ (Kd.Q_drew HO_6.out)
               have n2_ := A_ (Kd.S_drew HO_10.out)
               have n3_ := A_ (Kd.S_drew HO_136.out)
               have n4_ := A_ (Kd.R_drew HL1143_0.out)
               have n5_ := A_ (Kd.C_drew HR1143_0.out)
               have n6_ := A_ (below_drew1 HB.out)
               clear HO_5
               clear HO_6
               clear HO_10
               clear HO_136
               clear HL1143_0
               clear HR1143_0
               clear HB
               have HO_5 := n0_
               have HO_6 := n1_
               have HO_10 := n2_
               have HO_136 := n3_
               have HL1143_0 := n4_
               have HR1143_0 := n5_
               have HB := n6_
               clear n0_ n1_ n2_ n3_ n4_ n5_ n6_
               have p1144 : 0 ≤ (0 : Int) := (by omega)
               have q1144 : 0 < ((rd_L1 t1130 x138_2).length : Int) := od_
               obtain ⟨ad1144, e1144, hx1144_0⟩ := Kd.at_int (by repeat (first | (with_reducible exact HR1143_0.out) | (with_reducible refine Kd.C_alloc ?_ _) | (with_reducible refine Kd.C_drewN ?_ _) | (with_reducible refine Kd.C_drew ?_) | exact HR1143_0.out)) 0 p1144 q1144
               cases e1144
               have qi1144 : (0 < (rd_L1 t1130 x138_2).length) = True := eq_true (by omega)
               (try rw [show ((0 : Int)).toNat = 0 from rfl] at hx1144_0)
               (try rw [Addr.add_zero'] at hx1144_0)
               replace p1144 := eq_true p1144
               replace q1144 := eq_true q1144
               have p1145 : 0 ≤ (1 : Int) := (by omega)
               have q1145 : 1 < ((rd_L1 t1130 x138_2).length : Int) := od_
               obtain ⟨ad1145, e1145, hx1145_0⟩ := Kd.at_int (by repeat (first | (with_reducible exact HR1143_0.out) | (with_reducible refine Kd.C_alloc ?_ _) | (with_reducible refine Kd.C_drewN ?_ _) | (with_reducible refine Kd.C_drew ?_) | exact HR1143_0.out)) 1 p1145 q1145
               obtain rfl : ad1144 = ad1145 := (by injection e1145)
               (try simp only [show (1 : Int).toNat = 1 from rfl, Nat.reduceMul, Nat.reduceEqDiff, Go.Addr.add, ↓reduceIte] at hx1145_0)
               have qi1145 : (1 < (rd_L1 t1130 x138_2).length) = True := eq_true (by omega)
               (try rw [show ((1 : Int)).toNat = 1 from rfl] at hx1145_0)
               replace p1145 := eq_true p1145
               replace q1145 := eq_true q1145
               refine start_ (n := 15) (S := fun w' => w'.cell? ad1144 = some (.int .i64 (rd (rd_L1 t1130 x138_2) 0)) ∧ w'.cell? ⟨ad1144.block, ad1144.off + 1, none⟩ = some (.int .i64 (rd (rd_L1 t1130 x138_2) 1))) (ds := []) #[false, false, false, false, false, false, false, false, false, false, false, false, false, false, false] kr_ rfl rfl ⟨hx1144_0, hx1145_0⟩ (fun hHeld => ?_); refine with_tabW laws_FnBuffers.tab14 laws_FnBuffers.bits14 (fun HT_ HW_ => ?_)
               generalize wr.drew = w51 at HO_5 HO_6 HO_10 HO_136 HL1143_0 HR1143_0 HB hx1144_0 hx1145_0 hHeld ⊢
               refine pure_ (i := 0) (N := some 143) (v := ?_) (a' := ?_) #[true, false, false, false, false, false, false, false, false, false, false, false, false, false, false] rfl rfl (any_of HT_.out kr_) (fun _ _ _ h => h) (Or.inl ⟨by rfl, ?_⟩) ?_ ?_
               rotate_left
               ·
                intro w'
                go_simp
                with_reducible rfl
               rotate_left
               ·
                simp only [Act.put, List.setIfInBounds_toArray, List.set_cons_zero, List.set_cons_succ, i64_w, i32_w]
                rfl
               refine pure_ (i := 1) (N := some 144) (v := ?_) (a' := ?_) #[true, true, false, false, false, false, false, false, false, false, false, false, false, false, false] rfl rfl (any_of HT_.out kr_) (fun _ _ _ h => h) (Or.inl ⟨by rfl, ?_⟩) ?_ ?_
               rotate_left
               ·
                intro w'
                go_simp
                with_reducible rfl
               rotate_left
               ·
                simp only [Act.put, List.setIfInBounds_toArray, List.set_cons_zero, List.set_cons_succ, i64_w, i32_w]
                rfl
               refine pure_ (i := 2) (N := some 145) (v := ?_) (a' := ?_) #[true, true, true, false, false, false, false, false, false, false, false, false, false, false, false] rfl rfl (any_of HT_.out kr_) (fun _ _ _ h => h) (Or.inl ⟨by rfl, ?_⟩) ?_ ?_
               rotate_left
               ·
                intro w'
                go_simp
                with_reducible rfl
               rotate_left
               ·
                simp only [Act.put, List.setIfInBounds_toArray, List.set_cons_zero, List.set_cons_succ, i64_w, i32_w]
                rfl
               refine pure_ (i := 3) (N := some 146) (v := ?_) (a' := ?_) #[true, true, true, true, false, false, false, false, false, false, false, false, false, false, false] rfl rfl (any_of HT_.out kr_) (fun _ _ _ h => h) (Or.inl ⟨by rfl, ?_⟩) ?_ ?_
               rotate_left
               ·
                intro w'
                go_simp
                with_reducible rfl
               rotate_left
               ·
                simp only [Act.put, List.setIfInBounds_toArray, List.set_cons_zero, List.set_cons_succ, i64_w, i32_w]
                rfl
               refine pure_ (i := 4) (N := some 147) (v := ?_) (a' := ?_) #[true, true, true, true, true, false, false, false, false, false, false, false, false, false, false] rfl rfl (any_of HT_.out kr_) (fun _ _ _ h => h) (Or.inl ⟨by rfl, ?_⟩) ?_ ?_
               rotate_left
               ·
                intro w'
                go_simp
                with_reducible rfl
               rotate_left
               ·
                simp only [Act.put, List.setIfInBounds_toArray, List.set_cons_zero, List.set_cons_succ, i64_w, i32_w]
                rfl
               refine pure_ (i := 6) (N := some 149) (v := ?_) (a' := ?_) #[true, true, true, true, true, false, true, false, false, false, false, false, false, false, false] rfl rfl (any_of HT_.out kr_) (fun _ _ _ h => h) (Or.inl ⟨by rfl, ?_⟩) ?_ ?_
               rotate_left
               ·
                intro w'
                go_simp
                with_reducible rfl
               rotate_left
               ·
                simp only [Act.put, List.setIfInBounds_toArray, List.set_cons_zero, List.set_cons_succ, i64_w, i32_w]
                rfl
               refine pure_ (i := 7) (N := some 150) (v := ?_) (a' := ?_) #[true, true, true, true, true, false, true, true, false, false, false, false, false, false, false] rfl rfl (any_of HT_.out kr_) (fun _ _ _ h => h) (Or.inl ⟨by rfl, ?_⟩) ?_ ?_
               rotate_left
               ·
                intro w'
                go_simp
                with_reducible rfl
               rotate_left
               ·
                simp only [Act.put, List.setIfInBounds_toArray, List.set_cons_zero, List.set_cons_succ, i64_w, i32_w]
                rfl
               refine take_ (i := 5) (N := some 148) (v := ?_) (a' := ?_) #[true, true, true, true, true, true, true, true, false, false, false, false, false, false, false] rfl rfl (take_ofW HT_.out HW_.out kr_) (fun _ _ _ h => h) (Or.inl ⟨by rfl, ?_⟩) hHeld ?_ ?_
               rotate_left
               ·
                rintro w' ⟨s0, s1⟩
                go_simp
                with_reducible rfl
               rotate_left
               ·
                simp only [Act.put, List.setIfInBounds_toArray, List.set_cons_zero, List.set_cons_succ, i64_w, i32_w]
                rfl
               refine take_ (i := 8) (N := some 151) (v := ?_) (a' := ?_) #[true, true, true, true, true, true, true, true, true, false, false, false, false, false, false] rfl rfl (take_ofW HT_.out HW_.out kr_) (fun _ _ _ h => h) (Or.inl ⟨by rfl, ?_⟩) hHeld ?_ ?_
               rotate_left
               ·
                rintro w' ⟨s0, s1⟩
                go_simp
                with_reducible rfl
               rotate_left
               ·
                simp only [Act.put, List.setIfInBounds_toArray, List.set_cons_zero, List.set_cons_succ, i64_w, i32_w]
                rfl
               refine one_ (i := 9) (N := some 152) #[true, true, true, true, true, true, true, true, true, true, false, false, false, false, false] rfl rfl (one_of HT_.out kr_) (by decide) (fun K hK => ?_)
               refine goes_ Try.func18 kr_ rfl #[.slice Ao11 t1119.length co11, .slice Ao12 t1120.length co12, .int .i64 t1121, .int .i64 (rd (rd_L1 t1130 x138_2) 0), .int .i64 (rd (rd_L1 t1130 x138_2) 1)] (by rfl) rfl rfl am_ ?_
               with_reducible refine (impl_BufferOf.calls k2 _ _ t1119 _ _ t1120 t1121 (rd (rd_L1 t1130 x138_2) 0) (rd (rd_L1 t1130 x138_2) 1) t1146 false _ ?side1 ?side2 ?side3 ?side4 A44.out).mono ?_
               (case side1 => exact kC_ ((Kd.S_reads' HO_5.out).2.2))
               (case side2 => exact (Kd.S_reads' HO_5.out).2.1)
               (case side3 => exact kC_ ((Kd.Q_reads' HO_6.out).2.2))
               (case side4 => exact (Kd.Q_reads' HO_6.out).2.1)
               rintro e w52 ⟨rfl, hb⟩
               have HS0_ := (hb.cell (World.block_lt_of_cell? _ _ (hHeld.1))).trans (hHeld.1)
               have HS1_ := (hb.cell (World.block_lt_of_cell? _ _ (hHeld.2))).trans (hHeld.2)
               refine ⟨_, rfl, ?_⟩
               have n0_ := A_ (Kd.S_below (kS_ HO_5.out) hb)
               have n1_ := A_ (Kd.Q_below (kQ_ HO_6.out) hb)
               have n2_ := A_ (Kd.S_below (kS_ HO_10.out) hb)
               have n3_ := A_ (Kd.S_below (kS_ HO_136.out) hb)
               have n4_ := A_ (Kd.R_below (kR_ HL1143_0.out) hb)
               have n5_ := A_ (Kd.C_below (by repeat (first | (with_reducible exact HR1143_0.out) | (with_reducible refine Kd.C_alloc ?_ _) | (with_reducible refine Kd.C_drewN ?_ _) | (with_reducible refine Kd.C_drew ?_) | exact HR1143_0.out)) hb)
               have n6_ := A_ (below_step bl_ hb)
               clear HO_5
               clear HO_6
               clear HO_10
               clear HO_136
               clear HL1143_0
               clear HR1143_0
               clear HB
               have HO_5 := n0_
               have HO_6 := n1_
               have HO_10 := n2_
               have HO_136 := n3_
               have HL1143_0 := n4_
               have HR1143_0 := n5_
               have HB := n6_
               clear n0_ n1_ n2_ n3_ n4_ n5_ n6_
               (try clear hb)
               (try clear hb2)
               (try clear hk)
               (try clear hi)
               refine hK.out _ _ ⟨HS0_, HS1_⟩ (fun hHeld => ?_)
               clear hK K
               refine norm_ (a' := ?_) ?_ ?_
               rotate_left
               ·
                show Act.put _ (some 152) _ = _
                simp only [Act.put, List.setIfInBounds_toArray, List.set_cons_zero, List.set_cons_succ, i64_w, i32_w]
                rfl
               refine pure_ (i := 10) (N := some 142) (v := ?_) (a' := ?_) #[true, true, true, true, true, true, true, true, true, true, true, false, false, false, false] rfl rfl (any_of HT_.out kr_) (fun _ _ _ h => h) (Or.inl ⟨by rfl, ?_⟩) ?_ ?_
               rotate_left
               ·
                intro w'
                go_simp
                with_reducible rfl
               rotate_left
               ·
                simp only [Act.put, List.setIfInBounds_toArray, List.set_cons_zero, List.set_cons_succ, i64_w, i32_w]
                rfl
               refine pure_ (i := 11) (N := some 153) (v := ?_) (a' := ?_) #[true, true, true, true, true, true, true, true, true, true, true, true, false, false, false] rfl rfl (any_of HT_.out kr_) (fun _ _ _ h => h) (Or.inl ⟨by rfl, ?_⟩) ?_ ?_
               rotate_left
               ·
                intro w'
                go_simp
                with_reducible rfl
               rotate_left
               ·
                simp only [Act.put, List.setIfInBounds_toArray, List.set_cons_zero, List.set_cons_succ, i64_w, i32_w]
                rfl
               refine pure_ (i := 12) (N := some 154) (v := ?_) (a' := ?_) #[true, true, true, true, true, true, true, true, true, true, true, true, true, false, false] rfl rfl (any_of HT_.out kr_) (fun _ _ _ h => h) (Or.inl ⟨by rfl, ?_⟩) ?_ ?_
               rotate_left
               ·
                intro w'
                go_simp
                with_reducible rfl
               rotate_left
               ·
                simp only [Act.put, List.setIfInBounds_toArray, List.set_cons_zero, List.set_cons_succ, i64_w, i32_w]
                rfl
               refine pure_ (i := 13) (N := some 22) (v := ?_) (a' := ?_) #[true, true, true, true, true, true, true, true, true, true, true, true, true, true, false] rfl rfl (any_of HT_.out kr_) (fun _ _ _ h => h) (Or.inl ⟨by rfl, ?_⟩) ?_ ?_
               rotate_left
               ·
                intro w'
                go_simp
                with_reducible rfl
               rotate_left
               ·
                simp only [Act.put, List.setIfInBounds_toArray, List.set_cons_zero, List.set_cons_succ, i64_w, i32_w]
                rfl
               refine pure_ (i := 14) (N := some 23) (v := ?_) (a' := ?_) #[true, true, true, true, true, true, true, true, true, true, true, true, true, true, true] rfl rfl (any_of HT_.out kr_) (fun _ _ _ h => h) (Or.inl ⟨by rfl, ?_⟩) ?_ ?_
               rotate_left
               ·
                intro w'
                go_simp
                with_reducible rfl
               rotate_left
               ·
                simp only [Act.put, List.setIfInBounds_toArray, List.set_cons_zero, List.set_cons_succ, i64_w, i32_w]
                rfl
               refine done_ (done_of HT_.out kr_) ?_
               try go_wp2
               go_ret
               exact ⟨ew_, bl_⟩
             ·
              rw [if_neg c43] at H; cases H
            ·
             rw [if_neg c42] at H; cases H
           ·
            rw [if_neg c41] at H; cases H
          ·
           rw [if_neg c40] at H; cases H
         ·
          as_aux_lemma =>
          rw [if_neg c39] at H
          have c39b0 := decide_eq_false c39
          clear c39
          (first | rw [c39b0] | (simp only [i64_w, i32_w]; rw [c39b0]) | skip)
          obtain ⟨⟨t1148, t1149⟩, A530, H⟩ := Option.bind_eq_some_iff.mp H
          try dsimp only at H
          have A53 := A_ A530; clear A530
          by_cases c54 : t1149 = true
          ·
           as_aux_lemma =>
           subst c54
           rw [if_pos rfl] at H
           by_cases c55 : t1148 = t1140
           ·
            rw [if_pos c55] at H
            have c55b0 : (t1148 == t1140) = true := beq_iff_eq.mpr c55
            have c55b1 : (t1148 != t1140) = false := bne_eq_false_iff_eq.mpr c55
            clear c55
            by_cases c56 : ((t1140 == 0) != (decide ((t1130.length : Int) > 0))) = true
            ·
             rw [if_pos c56] at H
             have c56b0 : ((t1140 == 0) != (decide ((t1130.length : Int) > 0))) = true := c56
             (try (have c56b1 : decide ((t1140 == 0) = (decide ((t1130.length : Int) > 0))) = false := by simpa using c56))
             (try (have c56b2 : ((t1140 == 0) == (decide ((t1130.length : Int) > 0))) = false := by simpa using c56))
             (try (have c56b4 : ((t1140 == 0) == (decide (0 < t1130.length))) = false := by have e_ : decide ((t1130.length : Int) > 0) = decide (0 < t1130.length) := (by simp); rw [← e_]; simpa using c56))
             (try (have c56b3 : ¬ ((t1140 == 0) = (decide ((t1130.length : Int) > 0))) := by simpa using c56))
             clear c56
             obtain rfl := Option.some.inj H
             go_wp2_with (first | ((with_reducible refine gate_callee (f := 18) rfl ?_); refine goesL_ (some 168) rfl rfl Try.func18 kr_ rfl #[.slice Ao11 t1119.length co11, .slice Ao12 t1120.length co12, .int .i64 t1121, .int .i64 t1134, .int .i64 t1135] rfl am_ ?_; (with_reducible refine (impl_BufferOf.calls k2 _ _ t1119 _ _ t1120 t1121 t1134 t1135 t1148 true _ ?side1 ?side2 ?side3 ?side4 A53.out).mono ?_); (case side1 => exact kC_ ((Kd.S_reads' HO_5.out).2.2)); (case side2 => exact (Kd.S_reads' HO_5.out).2.1); (case side3 => exact kC_ ((Kd.Q_reads' HO_6.out).2.2)); (case side4 => exact (Kd.Q_reads' HO_6.out).2.1); rintro e w57 ⟨rfl, hb⟩; refine ⟨_, rfl, ?_⟩; have n0_ := A_ (Kd.S_below (kS_ HO_5.out) hb); have n1_ := A_ (Kd.Q_below (kQ_ HO_6.out) hb); have n2_ := A_ (Kd.S_below (kS_ HO_10.out) hb); have n3_ := A_ (Kd.S_below (kS_ HO_136.out) hb); have n4_ := A_ (below_step bl_ hb); clear HO_5; clear HO_6; clear HO_10; clear HO_136; clear HB; have HO_5 := n0_; have HO_6 := n1_; have HO_10 := n2_; have HO_136 := n3_; have HB := n4_; clear n0_ n1_ n2_ n3_ n4_; (try clear hb); (try clear hb2); (try clear hk); (try clear hi)))
             go_ret
             exact ⟨ew_, bl_⟩
            ·
             rw [if_neg c56] at H
             have c56b0 : ((t1140 == 0) != (decide ((t1130.length : Int) > 0))) = false := by simpa using c56
             (try (have c56b1 : decide ((t1140 == 0) = (decide ((t1130.length : Int) > 0))) = true := by simpa using c56))
             (try (have c56b2 : ((t1140 == 0) == (decide ((t1130.length : Int) > 0))) = true := by simpa using c56))
             (try (have c56b4 : ((t1140 == 0) == (decide (0 < t1130.length))) = true := by have e_ : decide ((t1130.length : Int) > 0) = decide (0 < t1130.length) := (by simp); rw [← e_]; simpa using c56))
             clear c56
             have H' := A_ H; clear H
             go_wp2_with (first | ((with_reducible refine gate_callee (f := 18) rfl ?_); refine goesL_ (some 168) rfl rfl Try.func18 kr_ rfl #[.slice Ao11 t1119.length co11, .slice Ao12 t1120.length co12, .int .i64 t1121, .int .i64 t1134, .int .i64 t1135] rfl am_ ?_; (with_reducible refine (impl_BufferOf.calls k2 _ _ t1119 _ _ t1120 t1121 t1134 t1135 t1148 true _ ?side1 ?side2 ?side3 ?side4 A53.out).mono ?_); (case side1 => exact kC_ ((Kd.S_reads' HO_5.out).2.2)); (case side2 => exact (Kd.S_reads' HO_5.out).2.1); (case side3 => exact kC_ ((Kd.Q_reads' HO_6.out).2.2)); (case side4 => exact (Kd.Q_reads' HO_6.out).2.1); rintro e w58 ⟨rfl, hb⟩; refine ⟨_, rfl, ?_⟩; have n0_ := A_ (Kd.S_below (kS_ HO_5.out) hb); have n1_ := A_ (Kd.Q_below (kQ_ HO_6.out) hb); have n2_ := A_ (Kd.S_below (kS_ HO_10.out) hb); have n3_ := A_ (Kd.S_below (kS_ HO_136.out) hb); have n4_ := A_ (below_step bl_ hb); clear HO_5; clear HO_6; clear HO_10; clear HO_136; clear HB; have HO_5 := n0_; have HO_6 := n1_; have HO_10 := n2_; have HO_136 := n3_; have HB := n4_; clear n0_ n1_ n2_ n3_ n4_; (try clear hb); (try clear hb2); (try clear hk); (try clear hi)))
             go_meet
             case rel => exact ⟨_, H', ⟨by have := HJ8.out; have := HK2.out; first | omega | exact Nat.le_refl _⟩, ⟨bl_⟩⟩
           ·
            rw [if_neg c55] at H
            have c55b0 : (t1148 == t1140) = false := beq_eq_false_iff_ne.mpr c55
            have c55b1 : (t1148 != t1140) = true := bne_iff_ne.mpr c55
            obtain rfl := Option.some.inj H
            go_wp2_with (first | ((with_reducible refine gate_callee (f := 18) rfl ?_); refine goesL_ (some 168) rfl rfl Try.func18 kr_ rfl #[.slice Ao11 t1119.length co11, .slice Ao12 t1120.length co12, .int .i64 t1121, .int .i64 t1134, .int .i64 t1135] rfl am_ ?_; (with_reducible refine (impl_BufferOf.calls k2 _ _ t1119 _ _ t1120 t1121 t1134 t1135 t1148 true _ ?side1 ?side2 ?side3 ?side4 A53.out).mono ?_); (case side1 => exact kC_ ((Kd.S_reads' HO_5.out).2.2)); (case side2 => exact (Kd.S_reads' HO_5.out).2.1); (case side3 => exact kC_ ((Kd.Q_reads' HO_6.out).2.2)); (case side4 => exact (Kd.Q_reads' HO_6.out).2.1); rintro e w59 ⟨rfl, hb⟩; refine ⟨_, rfl, ?_⟩; have n0_ := A_ (Kd.S_below (kS_ HO_5.out) hb); have n1_ := A_ (Kd.Q_below (kQ_ HO_6.out) hb); have n2_ := A_ (Kd.S_below (kS_ HO_10.out) hb); have n3_ := A_ (Kd.S_below (kS_ HO_136.out) hb); have n4_ := A_ (below_step bl_ hb); clear HO_5; clear HO_6; clear HO_10; clear HO_136; clear HB; have HO_5 := n0_; have HO_6 := n1_; have HO_10 := n2_; have HO_136 := n3_; have HB := n4_; clear n0_ n1_ n2_ n3_ n4_; (try clear hb); (try clear hb2); (try clear hk); (try clear hi)))
            go_ret
            exact ⟨ew_, bl_⟩
          ·
           replace c54 := Bool.eq_false_iff.mpr c54
           subst c54
           rw [if_neg (show ¬ (false = true) by decide)] at H
           obtain rfl := Option.some.inj H
           go_wp2_with (first | ((with_reducible refine gate_callee (f := 18) rfl ?_); refine goesL_ (some 168) rfl rfl Try.func18 kr_ rfl #[.slice Ao11 t1119.length co11, .slice Ao12 t1120.length co12, .int .i64 t1121, .int .i64 t1134, .int .i64 t1135] rfl am_ ?_; (with_reducible refine (impl_BufferOf.calls k2 _ _ t1119 _ _ t1120 t1121 t1134 t1135 t1148 false _ ?side1 ?side2 ?side3 ?side4 A53.out).mono ?_); (case side1 => exact kC_ ((Kd.S_reads' HO_5.out).2.2)); (case side2 => exact (Kd.S_reads' HO_5.out).2.1); (case side3 => exact kC_ ((Kd.Q_reads' HO_6.out).2.2)); (case side4 => exact (Kd.Q_reads' HO_6.out).2.1); rintro e w60 ⟨rfl, hb⟩; refine ⟨_, rfl, ?_⟩; have n0_ := A_ (Kd.S_below (kS_ HO_5.out) hb); have n1_ := A_ (Kd.Q_below (kQ_ HO_6.out) hb); have n2_ := A_ (Kd.S_below (kS_ HO_10.out) hb); have n3_ := A_ (Kd.S_below (kS_ HO_136.out) hb); have n4_ := A_ (below_step bl_ hb); clear HO_5; clear HO_6; clear HO_10; clear HO_136; clear HB; have HO_5 := n0_; have HO_6 := n1_; have HO_10 := n2_; have HO_136 := n3_; have HB := n4_; clear n0_ n1_ n2_ n3_ n4_; (try clear hb); (try clear hb2); (try clear hk); (try clear hi)))
           go_ret
           exact ⟨ew_, bl_⟩
      ·
       replace c37 := Bool.eq_false_iff.mpr c37
       subst c37
       rw [if_neg (show ¬ (false = true) by decide)] at H
       have H' := A_ H; clear H
       go_wp2
       go_meet
       case rel => exact ⟨_, H', ⟨by have := HJ8.out; first | omega | exact Nat.le_refl _⟩, ⟨bl_⟩⟩
     case rest =>
      clear HC36
      (try clear c1); (try clear p1); (try clear q1); (try clear hx1); (try clear qi1); (try clear p2); (try clear c3); (try clear c4); (try clear c5); (try clear p6); (try clear c11); (try clear p11); (try clear q11); (try clear hx11); (try clear qi11); (try clear c18); (try clear c37); (try clear c39); (try clear c39b0); (try clear c40); (try clear c41); (try clear c42); (try clear c43); (try clear c45); (try clear c46); (try clear c46b0); (try clear c46b1); (try clear c54); (try clear c55); (try clear c55b0); (try clear c55b1); (try clear c56); (try clear c56b0); (try clear c56b1); (try clear c56b2); (try clear hx1143_0); (try clear hx1144_0); (try clear hx1145_0); (try clear p1143); (try clear p1144); (try clear p1145); (try clear q1143); (try clear q1144); (try clear q1145)
      obtain ⟨kq, HA, HJ35, HB⟩ := hcut
      cases kq with
      | zero => exact absurd HA.out (by simp [laws_FnBuffers.j2])
      | succ kj35 =>
       have H := HA.out
       clear HA
       simp only [laws_FnBuffers.j2] at H
       obtain ⟨⟨t1150, t1151, t1152, t1153⟩, A610, H⟩ := Option.bind_eq_some_iff.mp H
       try dsimp only at H
       have A61 := A_ A610; clear A610
       obtain ⟨⟨t1158, t1159⟩, A620, H⟩ := Option.bind_eq_some_iff.mp H
       try dsimp only at H
       have A62 := A_ A620; clear A620
       obtain ⟨⟨t1160, t1161⟩, A630, H⟩ := Option.bind_eq_some_iff.mp H
       try dsimp only at H
       have A63 := A_ A630; clear A630
       have HC64 := A_ H
       clear H
       go_upto_region 24 with (first | ((with_reducible refine gate_callee (f := 47) rfl ?_); refine goesL_ (some 188) rfl rfl Try.func47 kr_ rfl #[.slice A1 l1.length c1] rfl am_ ?_; (with_reducible refine (spec_DrawHarmlessDelay.calls kj35 _ _ l1 t1150 t1151 t1152 t1153 _ ?side1 ?side2 A61.out).mono ?_); (case side1 => exact kC_ (Kd.C_below HR1.out HB.out)); (case side2 => exact HC1.out); rintro e w65 ⟨v1154, v1156, rfl, ho0, ho1, hb⟩; refine ⟨_, rfl, ?_⟩; have n0_ := A_ (Kd.S_lower ho0 (below_size bl_)); have n1_ := A_ (Kd.Q_lower ho1 (below_size bl_)); have n2_ := A_ (below_step bl_ hb); clear HB; have HO1155 := n0_; have HO1157 := n1_; have HB := n2_; clear n0_ n1_ n2_; (try clear hb); (try clear hb2); (try clear hk); (try clear hi); (try clear ho0); (try clear ho1); obtain ⟨Ao66, co66, eo66⟩ := Kd.S_slice HO1155.out; subst eo66; obtain ⟨Ao67, co67, eo67, _⟩ := Kd.Q_slice HO1157.out; subst eo67) | ((with_reducible refine gate_callee (f := 22) rfl ?_); refine goesL_ (some 198) rfl rfl Try.func22 kr_ rfl #[.slice Ao66 t1150.length co66, .slice Ao67 t1151.length co67, .int .i64 t1152, .int .i64 t1153] rfl am_ ?_; (with_reducible refine (impl_HarmlessDelay.calls kj35 _ _ t1150 _ _ t1151 t1152 t1153 t1158 t1159 _ ?side1 ?side2 ?side3 ?side4 A62.out).mono ?_); (case side1 => exact kC_ ((Kd.S_reads' HO1155.out).2.2)); (case side2 => exact (Kd.S_reads' HO1155.out).2.1); (case side3 => exact kC_ ((Kd.Q_reads' HO1157.out).2.2)); (case side4 => exact (Kd.Q_reads' HO1157.out).2.1); rintro e w68 ⟨rfl, hb⟩; refine ⟨_, rfl, ?_⟩; have n0_ := A_ (Kd.S_below (kS_ HO1155.out) hb); have n1_ := A_ (Kd.Q_below (kQ_ HO1157.out) hb); have n2_ := A_ (below_step bl_ hb); clear HO1155; clear HO1157; clear HB; have HO1155 := n0_; have HO1157 := n1_; have HB := n2_; clear n0_ n1_ n2_; (try clear hb); (try clear hb2); (try clear hk); (try clear hi)) | ((with_reducible refine gate_callee (f := 21) rfl ?_); refine goesL_ (some 206) rfl rfl Try.func21 kr_ rfl #[.slice Ao66 t1150.length co66, .slice Ao67 t1151.length co67, .int .i64 t1152, .int .i64 t1153] rfl am_ ?_; (with_reducible refine (spec_HarmlessDelay.calls kj35 _ _ t1150 _ _ t1151 t1152 t1153 t1160 t1161 _ ?side1 ?side2 ?side3 ?side4 A63.out).mono ?_); (case side1 => exact kC_ ((Kd.S_reads' HO1155.out).2.2)); (case side2 => exact (Kd.S_reads' HO1155.out).2.1); (case side3 => exact kC_ ((Kd.Q_reads' HO1157.out).2.2)); (case side4 => exact (Kd.Q_reads' HO1157.out).2.1); rintro e w' ⟨rfl, ⟨nd, rfl⟩⟩; refine ⟨_, rfl, ?_⟩))
       (try simp only [Act.put, List.setIfInBounds_toArray, List.set_cons_zero, List.set_cons_succ])
       go_cut [216] (fun v216 wc => ∃ (kq : Nat) (x216_63 : Bool), v216 = .bool x216_63 ∧ Aside0 (laws_FnBuffers.j3 kq l1 t1150 t1151 t1152 t1153 t1159 t1160 x216_63 = some r) ∧ Aside0 (kq ≤ kj35) ∧ Aside0 (Kd.S (Kd.slice 3 (Kd.int .i64)) 23 wc w.heap.size (fun k_ => some k_ ≠ ((.slice Ao67 t1151.length co67) : Value).ownBlock) (.slice Ao66 t1150.length co66) t1150) ∧ Aside0 (Kd.Q (Kd.int .i64) 3 wc w.heap.size (fun _ => True) (.slice Ao67 t1151.length co67) t1151) ∧ Aside0 (Below w.heap.size w wc))
       case first =>
        have H := HC64.out
        clear HC64
        by_cases c69 : (t1159 != t1161) = true
        ·
         rw [if_pos c69] at H
         have c69b0 : (t1159 != t1161) = true := c69
         (try (have c69b1 : decide (t1159 = t1161) = false := by simpa using c69))
         (try (have c69b2 : (t1159 == t1161) = false := by simpa using c69))
         (try (have c69b3 : ¬ (t1159 = t1161) := by simpa using c69))
         clear c69
         (first | rw [c69b0] | (simp only [i64_w, i32_w]; rw [c69b0]) | skip)
         have H' := A_ H; clear H
         go_wp2
         go_meet
         case rel => exact ⟨_, (true), es_, H', ⟨by have := HJ8.out; have := HJ35.out; first | omega | exact Nat.le_refl _⟩, ⟨kS_ HO1155.out⟩, ⟨kQ_ HO1157.out⟩, ⟨bl_⟩⟩
        ·
         rw [if_neg c69] at H
         have c69b0 : (t1159 != t1161) = false := by simpa using c69
         (try (have c69b1 : decide (t1159 = t1161) = true := by simpa using c69))
         (try (have c69b2 : (t1159 == t1161) = true := by simpa using c69))
         clear c69
         (first | rw [c69b0] | (simp only [i64_w, i32_w]; rw [c69b0]) | skip)
         have H' := A_ H; clear H
         go_wp2
         go_meet
         case rel => exact ⟨_, ((t1158 != t1160)), es_, H', ⟨by have := HJ8.out; have := HJ35.out; first | omega | exact Nat.le_refl _⟩, ⟨kS_ HO1155.out⟩, ⟨kQ_ HO1157.out⟩, ⟨bl_⟩⟩
       case rest =>
        clear HC64
        (try clear c1); (try clear p1); (try clear q1); (try clear hx1); (try clear qi1); (try clear c2); (try clear p2); (try clear c3); (try clear c4); (try clear c5); (try clear c6); (try clear p6); (try clear c11); (try clear p11); (try clear q11); (try clear hx11); (try clear qi11); (try clear c18); (try clear c21); (try clear c22); (try clear c37); (try clear c39); (try clear c39b0); (try clear c40); (try clear c41); (try clear c42); (try clear c43); (try clear c45); (try clear c46); (try clear c46b0); (try clear c46b1); (try clear c47); (try clear c54); (try clear c55); (try clear c55b0); (try clear c55b1); (try clear c56); (try clear c56b0); (try clear c56b1); (try clear c56b2); (try clear c69); (try clear c69b0); (try clear c69b1); (try clear c69b2); (try clear hx1143_0); (try clear hx1144_0); (try clear hx1145_0); (try clear p1); (try clear p11); (try clear p1143); (try clear p1144); (try clear p1145); (try clear p2); (try clear p6); (try clear q1); (try clear q11); (try clear q1143); (try clear q1144); (try clear q1145)
        obtain ⟨kq, x216_63, rfl, HA, HJ63, HO_26, HO_27, HB⟩ := hcut
        cases kq with
        | zero => exact absurd HA.out (by simp [laws_FnBuffers.j3])
        | succ kj63 =>
         have H := HA.out
         clear HA
         simp only [laws_FnBuffers.j3] at H
         by_cases c70 : x216_63 = true
         ·
          subst c70
          rw [if_pos rfl] at H
          obtain rfl := Option.some.inj H
          go_wp2
          go_ret
          exact ⟨ew_, bl_⟩
         ·
          as_aux_lemma =>
          replace c70 := Bool.eq_false_iff.mpr c70
          subst c70
          rw [if_neg (show ¬ (false = true) by decide)] at H
          have HC71 := A_ H
          clear H
          go_upto_if 217 with (fail)
          go_cut [] (fun wc => ∃ (kq : Nat), Aside0 (laws_FnBuffers.j5 kq l1 = some r) ∧ Aside0 (kq ≤ kj63) ∧ Aside0 (Below w.heap.size w wc))
          case first =>
           have H := HC71.out
           clear HC71
           by_cases c72 : t1159 = true
           ·
            as_aux_lemma =>
            subst c72
            rw [if_pos rfl] at H
            by_cases c73 : 0 ≤ (t1150.length : Int)
            ·
             as_aux_lemma =>
             rw [if_pos c73] at H
             have c73b0 := eq_true c73
             have c73b1 : decide (0 ≤ (t1150.length : Int)) = true := decide_eq_true c73
             clear c73
             by_cases c74 : ((t1150.length : Int) : Int).toNat ≤ 35184372088832
             ·
              as_aux_lemma =>
              rw [if_pos c74] at H
              have c74b0 := eq_true c74
              have c74b1 : decide (((t1150.length : Int) : Int).toNat ≤ 35184372088832) = true := decide_eq_true c74
              clear c74
              obtain ⟨y1162, hy1162⟩ : ∃ y_ : List Int, y_ = (List.replicate ((t1150.length : Int) : Int).toNat 0) := ⟨_, rfl⟩
              replace H : (if 0 ≤ t1153 then (if t1153 < (y1162.length : Int) then ((impl_NextDelays.f kj63 t1150 t1151 t1152 (y1162.set (t1153 : Int).toNat t1160)).bind fun bt1166 => (if bt1166.2 = true then (laws_FnBuffers.l1 kj63 l1 t1153 bt1166.1 (bt1166.1.length : Int) 0) else (some false))) else (none)) else (none)) = some r := by first | (rw [hy1162]; with_reducible exact H) | (have H2_ := (Option.bind_some _ _).symm.trans H; rw [hy1162]; with_reducible exact H2_) | (have H2_ := (Option.bind_some _ _).symm.trans H; with_reducible exact H2_) | with_reducible exact H | (rw [hy1162]; exact H) | exact H
              have Ny1162 := A_ hy1162
              clear hy1162
              by_cases c75 : 0 ≤ t1153
              ·
               as_aux_lemma =>
               rw [if_pos c75] at H
               have c75b0 := decide_eq_true c75
               clear c75
               (first | rw [c75b0] | (simp only [i64_w, i32_w]; rw [c75b0]) | skip)
               by_cases c76 : t1153 < (y1162.length : Int)
               ·
                as_aux_lemma =>
                rw [if_pos c76] at H
                have c76b0 := decide_eq_true c76
                clear c76
                obtain ⟨y1165, hy1165⟩ : ∃ y_ : List Int, y_ = (y1162.set (t1153 : Int).toNat t1160) := ⟨_, rfl⟩
                replace H : ((impl_NextDelays.f kj63 t1150 t1151 t1152 y1165).bind fun bt1166 => (if bt1166.2 = true then (laws_FnBuffers.l1 kj63 l1 t1153 bt1166.1 (bt1166.1.length : Int) 0) else (some false))) = some r := by first | (rw [hy1165]; with_reducible exact H) | (have H2_ := (Option.bind_some _ _).symm.trans H; rw [hy1165]; with_reducible exact H2_) | (have H2_ := (Option.bind_some _ _).symm.trans H; with_reducible exact H2_) | with_reducible exact H | (rw [hy1165]; exact H) | exact H
                have Ny1165 := A_ hy1165
                clear hy1165
                obtain ⟨⟨t1166, t1167⟩, A780, H⟩ := Option.bind_eq_some_iff.mp H
                try dsimp only at H
                have A78 := A_ A780; clear A780
                by_cases c79 : t1167 = true
                ·
                 as_aux_lemma =>
                 subst c79
                 rw [if_pos rfl] at H
                 have H' := A_ H; clear H
                 go_wp2_with (first | ((with_reducible refine gate_dst (N := 220) rfl ?_); (try (refine gate_guard (by rfl) ?_; dsimp only)); refine Kd.R_make (Kd.int .i64) _ 3 rfl (N := 220) rfl 23 _ _ rfl (t1150.length : Int) rfl rfl Try.underlying23 (.int .i64 0) 8 info3 rfl (by decide) (by omega) 0 (ok := fun _ => True) (okp := fun _ => True) rfl (fun _ hk => hk) trivial (od_) (Nat.le_trans (Nat.mul_le_mul_right _ (od_ : (t1150.length : Int).toNat ≤ 35184372088832)) (by omega)) (Below.refl _ _) (Nat.le_refl _) ?_; intro v1163 w80 ho81 hb hg_ hnew_; clear hg_ hnew_; (first | rw [← Ny1162.out] at ho81 | (simp only [Int.reduceToNat] at ho81; rw [← Ny1162.out] at ho81)); have n0_ := A_ (Kd.S_elder' (kS_ HO_26.out) (Kd.R_base ho81) hb); have n1_ := A_ (Kd.Q_elder' (kQ_ HO_27.out) (Kd.R_base ho81) hb); have n2_ := A_ (Kd.R_lower (Kd.R_new' ho81 (Kd.Q_lt (kQ_ HO_27.out))) (below_size bl_)); have n3_ := A_ (below_step bl_ hb); clear HO_26; clear HO_27; clear HB; have HO_26 := n0_; have HO_27 := n1_; have HO1164 := n2_; have HB := n3_; clear n0_ n1_ n2_ n3_; clear hb ho81; have p77 : 0 ≤ (t1153 : Int) := od_; have q77 : (t1153 : Int) < ((y1162.length : Int) : Int) := od_; obtain ⟨go77, co77, eo77, gb77, gl77, cl77, HG77⟩ := Kd.R_form HO1164.out (by omega); (first | cases eo77 | (injection eo77 with ea_ en_ ec_; (first | subst ea_ | (injection ea_ with ea_; subst ea_)); subst ec_; clear en_)); have GB77 := A_ gb77; have GG77 := A_ HG77; clear gb77 gl77 HG77; obtain ⟨hx77_0, hf77_0⟩ := Kd.R_celln 0 HO1164.out (t1153 : Int) p77 q77; replace p77 := eq_true p77; replace q77 := eq_true q77; have n_ := A_ (Kd.R_mono (ok' := (fun k_ => some k_ ≠ (.slice Ao67 t1151.length co67 : Value).ownBlock)) HO1164.out (fun k_ hk => hk.2)); clear HO1164; have HO1164 := n_; clear n_; obtain ⟨hy82_, hz82_⟩ := Kd.R_celln 0 HO1164.out (t1153 : Int) (od_) (od_); have HP82 := Kd.R_putg HO1164.out (t1153 : Int) t1160) | ((with_reducible refine gate_store (t := 3) (p := 224) rfl ?_); refine store_event (t := 3) (p := 224) (v := ?vo_w83) (w1 := (w80.setCell ⟨go77, (t1153 : Int).toNat, none⟩ (.int .i64 t1160))) ?hg ?ho ?hn ?hr ?_; (case ho => rfl); (case hg => rfl); (case hn => rfl); (case hr => first | (go_simp; done) | (go_simp; rfl)); intro w83 hw; have hg : w80.grownBy w83 (some go77) := (by rw [hw]; exact HP82.2); have hp_ : Kd.R (Kd.int .i64) 3 w83 w.heap.size (fun k_ => some k_ ≠ (.slice Ao67 t1151.length co67 : Value).ownBlock) (.slice (some ⟨go77, 0, none⟩) y1162.length co77) y1165 := (by rw [hw, Ny1165.out]; exact HP82.1); clear HP82; have n0_ := A_ (Kd.S_after (v := (.slice (some ⟨go77, 0, none⟩) y1162.length co77)) (v1 := (.slice (some ⟨go77, 0, none⟩) y1162.length co77)) (ok := (fun k_ => some k_ ≠ (.slice Ao67 t1151.length co67 : Value).ownBlock)) (kS_ HO_26.out) hg (.inl rfl)); have n1_ := A_ (Kd.Q_after (v := (.slice (some ⟨go77, 0, none⟩) y1162.length co77)) (v1 := (.slice (some ⟨go77, 0, none⟩) y1162.length co77)) (ok := (fun _ => True)) (kQ_ HO_27.out) hg (.inl rfl)); have n2_ := A_ (hp_); have n3_ := A_ ((by rw [hw]; exact below_set (HB.out) GB77.out : Below w.heap.size w w83)); clear HO_26; clear HO_27; clear HO1164; clear HB; have HO_26 := n0_; have HO_27 := n1_; have HO1164 := n2_; have HB := n3_; clear n0_ n1_ n2_ n3_; clear hg hw hp_) | ((with_reducible refine gate_callee (f := 31) rfl ?_); refine goesL_ (some 230) rfl rfl Try.func31 kr_ rfl #[.slice Ao66 t1150.length co66, .slice Ao67 t1151.length co67, .int .i64 t1152, .slice (some ⟨go77, 0, none⟩) y1165.length co77] rfl (by (try simp only [List.map_toArray, List.map_cons, List.map_nil]); first | done | (rw [show y1165.length = y1162.length from (Kd.R_reads' HO1164.out).1.symm] <;> rfl) | rfl | (simp only [List.length_drop, List.length_take]; rfl)) ?_; (with_reducible refine (impl_NextDelays.calls kj63 _ _ t1150 _ _ t1151 t1152 _ _ y1165 t1166 true _ ?side1 ?side2 ?side3 ?side4 ?side5 ?side6 A78.out).mono ?_); (case side1 => exact kC_ ((Kd.S_reads' HO_26.out).2.2)); (case side2 => exact (Kd.S_reads' HO_26.out).2.1); (case side3 => exact kC_ ((Kd.Q_reads' HO_27.out).2.2)); (case side4 => exact (Kd.Q_reads' HO_27.out).2.1); (case side5 => exact kC_ ((Kd.R_reads' HO1164.out).2.2)); (case side6 => rw [show y1165.length = y1162.length from (Kd.R_reads' HO1164.out).1.symm]; exact (Kd.R_reads' HO1164.out).2.1); rintro e w84 ⟨v1168, rfl, ho0, hb⟩; refine ⟨_, rfl, ?_⟩; have n0_ := A_ (Kd.S_elder' (kS_ HO_26.out) (Kd.R_base ho0) hb); have n1_ := A_ (Kd.Q_elder' (kQ_ HO_27.out) (Kd.R_base ho0) hb); have n2_ := A_ (Kd.R_elder' (kR_ HO1164.out) (Kd.R_base ho0) hb); have n3_ := A_ (Kd.R_lower (Kd.R_new' (Kd.R_new' ho0 (Kd.Q_lt (kQ_ HO_27.out))) (Kd.R_lt (kR_ HO1164.out))) (below_size bl_)); have n4_ := A_ (below_step bl_ hb); clear HO_26; clear HO_27; clear HO1164; clear HB; have HO_26 := n0_; have HO_27 := n1_; have HO1164 := n2_; have HO1169 := n3_; have HB := n4_; clear n0_ n1_ n2_ n3_ n4_; (try clear hb); (try clear hb2); (try clear hk); (try clear hi); (try clear ho0); obtain ⟨Ao85, co85, eo85⟩ := Kd.R_slice HO1169.out; subst eo85))
                 go_loopg [237] kj63 (fun kq v237 w' => ∃ (x237_4 : Int), v237 = .int .i64 x237_4 ∧ Aside0 (laws_FnBuffers.l1 kq l1 t1153 t1166 (t1166.length : Int) x237_4 = some r) ∧ Aside0 (kq ≤ kj63) ∧ Aside0 (Kd.R (Kd.int .i64) 3 w' w.heap.size (fun _ => True) (.slice Ao85 t1166.length co85) t1166) ∧ Aside0 (Below w.heap.size w w'))
                 case atStart => exact ⟨(0), es_, H', ⟨Nat.le_refl _⟩, ⟨by (with_reducible repeat (first | apply Kd.R_alloc | apply Kd.R_drewN | apply Kd.R_drew)); exact Kd.R_mono HO1169.out (fun _ hk => trivial)⟩, ⟨bl_⟩⟩
                 case round =>
                  clear H'
                  (try clear c1); (try clear p1); (try clear q1); (try clear hx1); (try clear qi1); (try clear c2); (try clear p2); (try clear c3); (try clear c4); (try clear c5); (try clear c6); (try clear p6); (try clear c7); (try clear p7); (try clear q7); (try clear hx7); (try clear hf7); (try clear c11); (try clear p11); (try clear q11); (try clear hx11); (try clear qi11); (try clear c18); (try clear c21); (try clear c22); (try clear c31); (try clear c37); (try clear c39); (try clear c39b0); (try clear c40); (try clear c41); (try clear c42); (try clear c43); (try clear c45); (try clear c46); (try clear c46b0); (try clear c46b1); (try clear c47); (try clear c54); (try clear c55); (try clear c55b0); (try clear c55b1); (try clear c56); (try clear c56b0); (try clear c56b1); (try clear c56b2); (try clear c69); (try clear c69b0); (try clear c69b1); (try clear c69b2); (try clear c70); (try clear c72); (try clear c73); (try clear c73b0); (try clear c73b1); (try clear c74); (try clear c74b0); (try clear c74b1); (try clear c75); (try clear c75b0); (try clear c76); (try clear c76b0); (try clear p77); (try clear q77); (try clear hx77); (try clear hf77); (try clear c79); (try clear hx1143_0); (try clear hx1144_0); (try clear hx1145_0); (try clear hx77_0); (try clear p1); (try clear p11); (try clear p1143); (try clear p1144); (try clear p1145); (try clear p2); (try clear p6); (try clear p77); (try clear q1); (try clear q11); (try clear q1143); (try clear q1144); (try clear q1145); (try clear q77)
                  obtain ⟨x237_4, rfl, HA, HK4, HO_235, HB⟩ := hrel
                  cases gk with
                  | zero => exact absurd HA.out (by simp [laws_FnBuffers.l1])
                  | succ k4 =>
                   have H := HA.out
                   clear HA
                   simp only [laws_FnBuffers.l1] at H
                   by_cases c86 : x237_4 < (t1166.length : Int)
                   ·
                    as_aux_lemma =>
                    rw [if_pos c86] at H
                    have c86b0 := decide_eq_true c86
                    clear c86
                    by_cases c87 : 0 ≤ x237_4
                    ·
                     as_aux_lemma =>
                     rw [if_pos c87] at H
                     have c87b0 := decide_eq_true c87
                     clear c87
                     by_cases c88 : x237_4 < (t1166.length : Int)
                     ·
                      as_aux_lemma =>
                      rw [if_pos c88] at H
                      have c88b0 := decide_eq_true c88
                      clear c88
                      by_cases c89 : x237_4 = t1153
                      ·
                       rw [if_pos c89] at H
                       have c89b0 : (x237_4 == t1153) = true := beq_iff_eq.mpr c89
                       have c89b1 : (x237_4 != t1153) = false := bne_eq_false_iff_eq.mpr c89
                       clear c89
                       have H' := A_ H; clear H
                       have p1170 : 0 ≤ (x237_4 : Int) := od_
                       have q1170 : x237_4 < (t1166.length : Int) := od_
                       obtain ⟨ad1170, e1170, hx1170_0⟩ := Kd.at_int (Kd.R_reads' HO_235.out).2.2 x237_4 p1170 q1170
                       cases e1170
                       replace p1170 := eq_true p1170
                       replace q1170 := eq_true q1170
                       go_wp2
                       go_roundg k4
                       case measure => have := HJ8.out; have := HJ35.out; have := HJ63.out; have := HK4.out; omega
                       case rel => exact ⟨(wrap64 (x237_4 + 1)), es_, H', ⟨by have := HJ8.out; have := HJ35.out; have := HJ63.out; have := HK4.out; omega⟩, ⟨kR_ HO_235.out⟩, ⟨bl_⟩⟩
                      ·
                       rw [if_neg c89] at H
                       have c89b0 : (x237_4 == t1153) = false := beq_eq_false_iff_ne.mpr c89
                       have c89b1 : (x237_4 != t1153) = true := bne_iff_ne.mpr c89
                       by_cases c90 : (rd t1166 x237_4) > 0
                       ·
                        rw [if_pos c90] at H
                        have c90b0 := decide_eq_true c90
                        clear c90
                        obtain rfl := Option.some.inj H
                        have p1170 : 0 ≤ (x237_4 : Int) := od_
                        have q1170 : x237_4 < (t1166.length : Int) := od_
                        obtain ⟨ad1170, e1170, hx1170_0⟩ := Kd.at_int (Kd.R_reads' HO_235.out).2.2 x237_4 p1170 q1170
                        cases e1170
                        replace p1170 := eq_true p1170
                        replace q1170 := eq_true q1170
                        go_wp2
                        go_ret
                        exact ⟨ew_, bl_⟩
                       ·
                        rw [if_neg c90] at H
                        have c90b0 := decide_eq_false c90
                        clear c90
                        have H' := A_ H; clear H
                        have p1170 : 0 ≤ (x237_4 : Int) := od_
                        have q1170 : x237_4 < (t1166.length : Int) := od_
                        obtain ⟨ad1170, e1170, hx1170_0⟩ := Kd.at_int (Kd.R_reads' HO_235.out).2.2 x237_4 p1170 q1170
                        cases e1170
                        replace p1170 := eq_true p1170
                        replace q1170 := eq_true q1170
                        go_wp2
                        go_roundg k4
                        case measure => have := HJ8.out; have := HJ35.out; have := HJ63.out; have := HK4.out; omega
                        case rel => exact ⟨(wrap64 (x237_4 + 1)), es_, H', ⟨by have := HJ8.out; have := HJ35.out; have := HJ63.out; have := HK4.out; omega⟩, ⟨kR_ HO_235.out⟩, ⟨bl_⟩⟩
                     ·
                      rw [if_neg c88] at H; cases H
                    ·
                     rw [if_neg c87] at H; cases H
                   ·
                    rw [if_neg c86] at H
                    have c86b0 := decide_eq_false c86
                    clear c86
                    have H' := A_ H; clear H
                    go_wp2
                    go_meet
                    case rel => exact ⟨_, H', ⟨by have := HJ8.out; have := HJ35.out; have := HJ63.out; have := HK4.out; first | omega | exact Nat.le_refl _⟩, ⟨bl_⟩⟩
                ·
                 replace c79 := Bool.eq_false_iff.mpr c79
                 subst c79
                 rw [if_neg (show ¬ (false = true) by decide)] at H
                 obtain rfl := Option.some.inj H
                 go_wp2_with (first | ((with_reducible refine gate_dst (N := 220) rfl ?_); (try (refine gate_guard (by rfl) ?_; dsimp only)); refine Kd.R_make (Kd.int .i64) _ 3 rfl (N := 220) rfl 23 _ _ rfl (t1150.length : Int) rfl rfl Try.underlying23 (.int .i64 0) 8 info3 rfl (by decide) (by omega) 0 (ok := fun _ => True) (okp := fun _ => True) rfl (fun _ hk => hk) trivial (od_) (Nat.le_trans (Nat.mul_le_mul_right _ (od_ : (t1150.length : Int).toNat ≤ 35184372088832)) (by omega)) (Below.refl _ _) (Nat.le_refl _) ?_; intro v1163 w91 ho92 hb hg_ hnew_; clear hg_ hnew_; (first | rw [← Ny1162.out] at ho92 | (simp only [Int.reduceToNat] at ho92; rw [← Ny1162.out] at ho92)); have n0_ := A_ (Kd.S_elder' (kS_ HO_26.out) (Kd.R_base ho92) hb); have n1_ := A_ (Kd.Q_elder' (kQ_ HO_27.out) (Kd.R_base ho92) hb); have n2_ := A_ (Kd.R_lower (Kd.R_new' ho92 (Kd.Q_lt (kQ_ HO_27.out))) (below_size bl_)); have n3_ := A_ (below_step bl_ hb); clear HO_26; clear HO_27; clear HB; have HO_26 := n0_; have HO_27 := n1_; have HO1164 := n2_; have HB := n3_; clear n0_ n1_ n2_ n3_; clear hb ho92; have p77 : 0 ≤ (t1153 : Int) := od_; have q77 : (t1153 : Int) < ((y1162.length : Int) : Int) := od_; obtain ⟨go77, co77, eo77, gb77, gl77, cl77, HG77⟩ := Kd.R_form HO1164.out (by omega); (first | cases eo77 | (injection eo77 with ea_ en_ ec_; (first | subst ea_ | (injection ea_ with ea_; subst ea_)); subst ec_; clear en_)); have GB77 := A_ gb77; have GG77 := A_ HG77; clear gb77 gl77 HG77; obtain ⟨hx77_0, hf77_0⟩ := Kd.R_celln 0 HO1164.out (t1153 : Int) p77 q77; replace p77 := eq_true p77; replace q77 := eq_true q77; have n_ := A_ (Kd.R_mono (ok' := (fun k_ => some k_ ≠ (.slice Ao67 t1151.length co67 : Value).ownBlock)) HO1164.out (fun k_ hk => hk.2)); clear HO1164; have HO1164 := n_; clear n_; obtain ⟨hy93_, hz93_⟩ := Kd.R_celln 0 HO1164.out (t1153 : Int) (od_) (od_); have HP93 := Kd.R_putg HO1164.out (t1153 : Int) t1160) | ((with_reducible refine gate_store (t := 3) (p := 224) rfl ?_); refine store_event (t := 3) (p := 224) (v := ?vo_w94) (w1 := (w91.setCell ⟨go77, (t1153 : Int).toNat, none⟩ (.int .i64 t1160))) ?hg ?ho ?hn ?hr ?_; (case ho => rfl); (case hg => rfl); (case hn => rfl); (case hr => first | (go_simp; done) | (go_simp; rfl)); intro w94 hw; have hg : w91.grownBy w94 (some go77) := (by rw [hw]; exact HP93.2); have hp_ : Kd.R (Kd.int .i64) 3 w94 w.heap.size (fun k_ => some k_ ≠ (.slice Ao67 t1151.length co67 : Value).ownBlock) (.slice (some ⟨go77, 0, none⟩) y1162.length co77) y1165 := (by rw [hw, Ny1165.out]; exact HP93.1); clear HP93; have n0_ := A_ (Kd.S_after (v := (.slice (some ⟨go77, 0, none⟩) y1162.length co77)) (v1 := (.slice (some ⟨go77, 0, none⟩) y1162.length co77)) (ok := (fun k_ => some k_ ≠ (.slice Ao67 t1151.length co67 : Value).ownBlock)) (kS_ HO_26.out) hg (.inl rfl)); have n1_ := A_ (Kd.Q_after (v := (.slice (some ⟨go77, 0, none⟩) y1162.length co77)) (v1 := (.slice (some ⟨go77, 0, none⟩) y1162.length co77)) (ok := (fun _ => True)) (kQ_ HO_27.out) hg (.inl rfl)); have n2_ := A_ (hp_); have n3_ := A_ ((by rw [hw]; exact below_set (HB.out) GB77.out : Below w.heap.size w w94)); clear HO_26; clear HO_27; clear HO1164; clear HB; have HO_26 := n0_; have HO_27 := n1_; have HO1164 := n2_; have HB := n3_; clear n0_ n1_ n2_ n3_; clear hg hw hp_) | ((with_reducible refine gate_callee (f := 31) rfl ?_); refine goesL_ (some 230) rfl rfl Try.func31 kr_ rfl #[.slice Ao66 t1150.length co66, .slice Ao67 t1151.length co67, .int .i64 t1152, .slice (some ⟨go77, 0, none⟩) y1165.length co77] rfl (by (try simp only [List.map_toArray, List.map_cons, List.map_nil]); first | done | (rw [show y1165.length = y1162.length from (Kd.R_reads' HO1164.out).1.symm] <;> rfl) | rfl | (simp only [List.length_drop, List.length_take]; rfl)) ?_; (with_reducible refine (impl_NextDelays.calls kj63 _ _ t1150 _ _ t1151 t1152 _ _ y1165 t1166 false _ ?side1 ?side2 ?side3 ?side4 ?side5 ?side6 A78.out).mono ?_); (case side1 => exact kC_ ((Kd.S_reads' HO_26.out).2.2)); (case side2 => exact (Kd.S_reads' HO_26.out).2.1); (case side3 => exact kC_ ((Kd.Q_reads' HO_27.out).2.2)); (case side4 => exact (Kd.Q_reads' HO_27.out).2.1); (case side5 => exact kC_ ((Kd.R_reads' HO1164.out).2.2)); (case side6 => rw [show y1165.length = y1162.length from (Kd.R_reads' HO1164.out).1.symm]; exact (Kd.R_reads' HO1164.out).2.1); rintro e w95 ⟨v1168, rfl, ho0, hb⟩; refine ⟨_, rfl, ?_⟩; have n0_ := A_ (Kd.S_elder' (kS_ HO_26.out) (Kd.R_base ho0) hb); have n1_ := A_ (Kd.Q_elder' (kQ_ HO_27.out) (Kd.R_base ho0) hb); have n2_ := A_ (Kd.R_elder' (kR_ HO1164.out) (Kd.R_base ho0) hb); have n3_ := A_ (Kd.R_lower (Kd.R_new' (Kd.R_new' ho0 (Kd.Q_lt (kQ_ HO_27.out))) (Kd.R_lt (kR_ HO1164.out))) (below_size bl_)); have n4_ := A_ (below_step bl_ hb); clear HO_26; clear HO_27; clear HO1164; clear HB; have HO_26 := n0_; have HO_27 := n1_; have HO1164 := n2_; have HO1169 := n3_; have HB := n4_; clear n0_ n1_ n2_ n3_ n4_; (try clear hb); (try clear hb2); (try clear hk); (try clear hi); (try clear ho0)))
                 go_ret
                 exact ⟨ew_, bl_⟩
               ·
                rw [if_neg c76] at H; cases H
              ·
               rw [if_neg c75] at H; cases H
             ·
              rw [if_neg c74] at H; cases H
            ·
             rw [if_neg c73] at H; cases H
           ·
            replace c72 := Bool.eq_false_iff.mpr c72
            subst c72
            rw [if_neg (show ¬ (false = true) by decide)] at H
            have H' := A_ H; clear H
            go_wp2
            go_meet
            case rel => exact ⟨_, H', ⟨by have := HJ8.out; have := HJ35.out; have := HJ63.out; first | omega | exact Nat.le_refl _⟩, ⟨bl_⟩⟩
          case rest =>
           clear HC71
           (try clear c1); (try clear p1); (try clear q1); (try clear hx1); (try clear qi1); (try clear c2); (try clear p2); (try clear c3); (try clear c4); (try clear c5); (try clear c6); (try clear p6); (try clear c7); (try clear p7); (try clear q7); (try clear hx7); (try clear hf7); (try clear c8); (try clear c9); (try clear c11); (try clear p11); (try clear q11); (try clear hx11); (try clear qi11); (try clear c18); (try clear c21); (try clear c22); (try clear c31); (try clear c37); (try clear c39); (try clear c39b0); (try clear c40); (try clear c41); (try clear c42); (try clear c43); (try clear c45); (try clear c46); (try clear c46b0); (try clear c46b1); (try clear c47); (try clear c54); (try clear c55); (try clear c55b0); (try clear c55b1); (try clear c56); (try clear c56b0); (try clear c56b1); (try clear c56b2); (try clear p64); (try clear c69); (try clear c69b0); (try clear c69b1); (try clear c69b2); (try clear c70); (try clear c72); (try clear c73); (try clear c73b0); (try clear c73b1); (try clear c74); (try clear c74b0); (try clear c74b1); (try clear c75); (try clear c75b0); (try clear c76); (try clear c76b0); (try clear p77); (try clear q77); (try clear hx77); (try clear hf77); (try clear c79); (try clear c86); (try clear c86b0); (try clear c87); (try clear c87b0); (try clear c88); (try clear c88b0); (try clear c89); (try clear c89b0); (try clear c89b1); (try clear c90); (try clear c90b0); (try clear hx1143_0); (try clear hx1144_0); (try clear hx1145_0); (try clear hx1170_0); (try clear hx77_0); (try clear p1); (try clear p11); (try clear p1143); (try clear p1144); (try clear p1145); (try clear p1170); (try clear p2); (try clear p6); (try clear p7); (try clear p77); (try clear q1); (try clear q11); (try clear q1143); (try clear q1144); (try clear q1145); (try clear q1170); (try clear q7); (try clear q77)
           obtain ⟨kq, HA, HJ70, HB⟩ := hcut
           cases kq with
           | zero => exact absurd HA.out (by simp [laws_FnBuffers.j5])
           | succ kj70 =>
            have H := HA.out
            clear HA
            simp only [laws_FnBuffers.j5] at H
            obtain ⟨⟨t1171, t1172, t1173, t1174, t1175⟩, A960, H⟩ := Option.bind_eq_some_iff.mp H
            try dsimp only at H
            have A96 := A_ A960; clear A960
            obtain ⟨⟨t1180, t1181⟩, A970, H⟩ := Option.bind_eq_some_iff.mp H
            try dsimp only at H
            have A97 := A_ A970; clear A970
            obtain ⟨⟨t1184, t1187⟩, A980, H⟩ := Option.bind_eq_some_iff.mp H
            try dsimp only at H
            have A98 := A_ A980; clear A980
            obtain ⟨⟨t1188, t1189, t1190, t1191, t1192⟩, A990, H⟩ := Option.bind_eq_some_iff.mp H
            try dsimp only at H
            have A99 := A_ A990; clear A990
            obtain ⟨⟨t1197, t1198⟩, A1000, H⟩ := Option.bind_eq_some_iff.mp H
            try dsimp only at H
            have A100 := A_ A1000; clear A1000
            obtain ⟨⟨t1199, t1200⟩, A1010, H⟩ := Option.bind_eq_some_iff.mp H
            try dsimp only at H
            have A101 := A_ A1010; clear A1010
            by_cases c102 : (t1181 == t1187) = true
            ·
             as_aux_lemma =>
             rw [if_pos c102] at H
             have c102b0 : (t1181 == t1187) = true := c102
             (try (have c102b1 : decide (t1181 = t1187) = true := by simpa using c102))
             (try (have c102b2 : (t1181 == t1187) = true := by simpa using c102))
             clear c102
             obtain ⟨t1201, A1030, H⟩ := Option.bind_eq_some_iff.mp H
             try dsimp only at H
             have A103 := A_ A1030; clear A1030
             by_cases c104 : t1201 = true
             ·
              subst c104
              rw [if_pos rfl] at H
              by_cases c105 : (t1198 == t1200) = true
              ·
               rw [if_pos c105] at H
               have c105b0 : (t1198 == t1200) = true := c105
               (try (have c105b1 : decide (t1198 = t1200) = true := by simpa using c105))
               (try (have c105b2 : (t1198 == t1200) = true := by simpa using c105))
               clear c105
               obtain rfl := Option.some.inj H
               go_wp2_with (first | ((with_reducible refine gate_callee (f := 48) rfl ?_); refine goesL_ (some 252) rfl rfl Try.func48 kr_ rfl #[.slice A1 l1.length c1] rfl am_ ?_; (with_reducible refine (spec_DrawTrainsReached.calls kj70 _ _ l1 t1171 t1172 t1173 t1174 t1175 _ ?side1 ?side2 A96.out).mono ?_); (case side1 => exact kC_ (Kd.C_below HR1.out HB.out)); (case side2 => exact HC1.out); rintro e w106 ⟨v1176, v1178, rfl, ho0, ho1, hb⟩; refine ⟨_, rfl, ?_⟩; have n0_ := A_ (Kd.S_lower ho0 (below_size bl_)); have n1_ := A_ (Kd.Q_lower ho1 (below_size bl_)); have n2_ := A_ (below_step bl_ hb); clear HB; have HO1177 := n0_; have HO1179 := n1_; have HB := n2_; clear n0_ n1_ n2_; (try clear hb); (try clear hb2); (try clear hk); (try clear hi); (try clear ho0); (try clear ho1); obtain ⟨Ao107, co107, eo107⟩ := Kd.S_slice HO1177.out; subst eo107; obtain ⟨Ao108, co108, eo108, _⟩ := Kd.Q_slice HO1179.out; subst eo108) | ((with_reducible refine gate_callee (f := 40) rfl ?_); refine goesL_ (some 264) rfl rfl Try.func40 kr_ rfl #[.slice Ao107 t1171.length co107, .slice Ao108 t1172.length co108, .int .i64 t1173, .int .i64 t1174, .int .i64 t1175] rfl am_ ?_; (with_reducible refine (impl_TrainsReached.calls kj70 _ _ t1171 _ _ t1172 t1173 t1174 t1175 t1180 t1181 _ ?side1 ?side2 ?side3 ?side4 A97.out).mono ?_); (case side1 => exact kC_ ((Kd.S_reads' HO1177.out).2.2)); (case side2 => exact (Kd.S_reads' HO1177.out).2.1); (case side3 => exact kC_ ((Kd.Q_reads' HO1179.out).2.2)); (case side4 => exact (Kd.Q_reads' HO1179.out).2.1); rintro e w109 ⟨v1182, rfl, ho0, hb⟩; refine ⟨_, rfl, ?_⟩; have n0_ := A_ (Kd.S_elder' (kS_ HO1177.out) (Kd.R_base ho0) hb); have n1_ := A_ (Kd.Q_elder' (kQ_ HO1179.out) (Kd.R_base ho0) hb); have n2_ := A_ (Kd.R_lower (Kd.R_new' ho0 (Kd.Q_lt (kQ_ HO1179.out))) (below_size bl_)); have n3_ := A_ (below_step bl_ hb); clear HO1177; clear HO1179; clear HB; have HO1177 := n0_; have HO1179 := n1_; have HO1183 := n2_; have HB := n3_; clear n0_ n1_ n2_ n3_; (try clear hb); (try clear hb2); (try clear hk); (try clear hi); (try clear ho0)) | ((with_reducible refine gate_callee (f := 39) rfl ?_); refine goesL_ (some 273) rfl rfl Try.func39 kr_ rfl #[.slice Ao107 t1171.length co107, .slice Ao108 t1172.length co108, .int .i64 t1173, .int .i64 t1174, .int .i64 t1175] rfl am_ ?_; (with_reducible refine (spec_TrainsReached.calls kj70 _ _ t1171 _ _ t1172 t1173 t1174 t1175 t1184 t1187 _ ?side1 ?side2 ?side3 ?side4 A98.out).mono ?_); (case side1 => exact kC_ ((Kd.S_reads' HO1177.out).2.2)); (case side2 => exact (Kd.S_reads' HO1177.out).2.1); (case side3 => exact kC_ ((Kd.Q_reads' HO1179.out).2.2)); (case side4 => exact (Kd.Q_reads' HO1179.out).2.1); rintro e w110 ⟨v1185, rfl, ho0, hb⟩; refine ⟨_, rfl, ?_⟩; have n0_ := A_ (Kd.S_below (kS_ HO1177.out) hb); have n1_ := A_ (Kd.Q_below (kQ_ HO1179.out) hb); have n2_ := A_ (Kd.R_below (kR_ HO1183.out) hb); have n3_ := A_ (Kd.V_lower (Kd.V_mono (ok' := fun k_ => some k_ ≠ (.slice Ao107 t1171.length co107 : Value).ownBlock ∧ some k_ ≠ (.slice Ao108 t1172.length co108 : Value).ownBlock ∧ some k_ ≠ (v1182 : Value).ownBlock) ho0 (fun k_ hk_ => ⟨(Kd.fresh' (Kd.S_lt (kS_ HO1177.out)) k_ hk_), (Kd.fresh' (Kd.Q_lt (kQ_ HO1179.out)) k_ hk_), (Kd.fresh' (Kd.R_lt (kR_ HO1183.out)) k_ hk_)⟩)) (below_size bl_)); have n4_ := A_ (below_step bl_ hb); clear HO1177; clear HO1179; clear HO1183; clear HB; have HO1177 := n0_; have HO1179 := n1_; have HO1183 := n2_; have HO1186 := n3_; have HB := n4_; clear n0_ n1_ n2_ n3_ n4_; (try clear hb); (try clear hb2); (try clear hk); (try clear hi); (try clear ho0)) | ((with_reducible refine gate_callee (f := 49) rfl ?_); refine goesL_ (some 278) rfl rfl Try.func49 kr_ rfl #[.slice A1 l1.length c1] rfl am_ ?_; (with_reducible refine (spec_DrawBufferOf.calls kj70 _ _ l1 t1188 t1189 t1190 t1191 t1192 _ ?side1 ?side2 A99.out).mono ?_); (case side1 => exact kC_ (Kd.C_below HR1.out HB.out)); (case side2 => exact HC1.out); rintro e w111 ⟨v1193, v1195, rfl, ho0, ho1, hb⟩; refine ⟨_, rfl, ?_⟩; have n0_ := A_ (Kd.S_mono (Kd.S_told (Kd.S_told (Kd.S_old (kS_ HO1177.out) hb) (Kd.S_base ho0)) (Kd.Q_base ho1)) (fun _ h_ => h_.1)); have n1_ := A_ (Kd.Q_elder' (kQ_ HO1179.out) (Kd.Q_base ho1) hb); have n2_ := A_ (Kd.R_elder' (kR_ HO1183.out) (Kd.Q_base ho1) hb); have n3_ := A_ (Kd.V_mono (Kd.V_told (Kd.V_told (Kd.V_old (by (with_reducible repeat (first | apply Kd.V_alloc | apply Kd.V_drewN | apply Kd.V_drew)); exact HO1186.out) hb) (Kd.S_base ho0)) (Kd.Q_base ho1)) (fun _ h_ => h_.1)); have n4_ := A_ (Kd.S_lower (Kd.S_new' (Kd.S_new' (Kd.S_new' ho0 (Kd.S_lt (kS_ HO1177.out))) (Kd.Q_lt (kQ_ HO1179.out))) (Kd.R_lt (kR_ HO1183.out))) (below_size bl_)); have n5_ := A_ (Kd.Q_lower (Kd.Q_new' (Kd.Q_new' ho1 (Kd.Q_lt (kQ_ HO1179.out))) (Kd.R_lt (kR_ HO1183.out))) (below_size bl_)); have n6_ := A_ (below_step bl_ hb); clear HO1177; clear HO1179; clear HO1183; clear HO1186; clear HB; have HO1177 := n0_; have HO1179 := n1_; have HO1183 := n2_; have HO1186 := n3_; have HO1194 := n4_; have HO1196 := n5_; have HB := n6_; clear n0_ n1_ n2_ n3_ n4_ n5_ n6_; (try clear hb); (try clear hb2); (try clear hk); (try clear hi); (try clear ho0); (try clear ho1); obtain ⟨Ao112, co112, eo112⟩ := Kd.S_slice HO1194.out; subst eo112; obtain ⟨Ao113, co113, eo113, _⟩ := Kd.Q_slice HO1196.out; subst eo113) | ((with_reducible refine gate_callee (f := 18) rfl ?_); refine goesL_ (some 290) rfl rfl Try.func18 kr_ rfl #[.slice Ao112 t1188.length co112, .slice Ao113 t1189.length co113, .int .i64 t1190, .int .i64 t1191, .int .i64 t1192] rfl am_ ?_; (with_reducible refine (impl_BufferOf.calls kj70 _ _ t1188 _ _ t1189 t1190 t1191 t1192 t1197 t1198 _ ?side1 ?side2 ?side3 ?side4 A100.out).mono ?_); (case side1 => exact kC_ ((Kd.S_reads' HO1194.out).2.2)); (case side2 => exact (Kd.S_reads' HO1194.out).2.1); (case side3 => exact kC_ ((Kd.Q_reads' HO1196.out).2.2)); (case side4 => exact (Kd.Q_reads' HO1196.out).2.1); rintro e w114 ⟨rfl, hb⟩; refine ⟨_, rfl, ?_⟩; have n0_ := A_ (Kd.S_below (kS_ HO1177.out) hb); have n1_ := A_ (Kd.Q_below (kQ_ HO1179.out) hb); have n2_ := A_ (Kd.R_below (kR_ HO1183.out) hb); have n3_ := A_ (Kd.V_below (by (with_reducible repeat (first | apply Kd.V_alloc | apply Kd.V_drewN | apply Kd.V_drew)); exact HO1186.out) hb); have n4_ := A_ (Kd.S_below (kS_ HO1194.out) hb); have n5_ := A_ (Kd.Q_below (kQ_ HO1196.out) hb); have n6_ := A_ (below_step bl_ hb); clear HO1177; clear HO1179; clear HO1183; clear HO1186; clear HO1194; clear HO1196; clear HB; have HO1177 := n0_; have HO1179 := n1_; have HO1183 := n2_; have HO1186 := n3_; have HO1194 := n4_; have HO1196 := n5_; have HB := n6_; clear n0_ n1_ n2_ n3_ n4_ n5_ n6_; (try clear hb); (try clear hb2); (try clear hk); (try clear hi)) | ((with_reducible refine gate_callee (f := 15) rfl ?_); refine goesL_ (some 299) rfl rfl Try.func15 kr_ rfl #[.slice Ao112 t1188.length co112, .slice Ao113 t1189.length co113, .int .i64 t1190, .int .i64 t1191, .int .i64 t1192] rfl am_ ?_; (with_reducible refine (spec_BufferOf.calls kj70 _ _ t1188 _ _ t1189 t1190 t1191 t1192 t1199 t1200 _ ?side1 ?side2 ?side3 ?side4 A101.out).mono ?_); (case side1 => exact kC_ ((Kd.S_reads' HO1194.out).2.2)); (case side2 => exact (Kd.S_reads' HO1194.out).2.1); (case side3 => exact kC_ ((Kd.Q_reads' HO1196.out).2.2)); (case side4 => exact (Kd.Q_reads' HO1196.out).2.1); rintro e w' ⟨rfl, ⟨nd, rfl⟩⟩; refine ⟨_, rfl, ?_⟩; obtain ⟨Ao115, co115, eo115⟩ := Kd.R_slice HO1183.out; subst eo115; obtain ⟨Ao116, co116, eo116⟩ := Kd.V_slice HO1186.out; subst eo116) | (go_at_call 42; (with_reducible refine (laws_qInts.calls kj70 _ _ t1180 _ _ t1184 true _ ?side1 ?side2 ?side3 ?side4 A103.out).mono ?_); (case side1 => exact kC_ ((Kd.R_reads' HO1183.out).2.2)); (case side2 => exact (Kd.R_reads' HO1183.out).2.1); (case side3 => exact kC_ ((Kd.V_reads' HO1186.out).2.2)); (case side4 => exact (Kd.V_reads' HO1186.out).2.1); rintro e w' ⟨rfl, ⟨nd, rfl⟩⟩))
               go_ret
               exact ⟨ew_, bl_⟩
              ·
               rw [if_neg c105] at H
               have c105b0 : (t1198 == t1200) = false := by simpa using c105
               (try (have c105b1 : decide (t1198 = t1200) = false := by simpa using c105))
               (try (have c105b2 : (t1198 == t1200) = false := by simpa using c105))
               (try (have c105b3 : ¬ (t1198 = t1200) := by simpa using c105))
               clear c105
               obtain rfl := Option.some.inj H
               go_wp2_with (first | ((with_reducible refine gate_callee (f := 48) rfl ?_); refine goesL_ (some 252) rfl rfl Try.func48 kr_ rfl #[.slice A1 l1.length c1] rfl am_ ?_; (with_reducible refine (spec_DrawTrainsReached.calls kj70 _ _ l1 t1171 t1172 t1173 t1174 t1175 _ ?side1 ?side2 A96.out).mono ?_); (case side1 => exact kC_ (Kd.C_below HR1.out HB.out)); (case side2 => exact HC1.out); rintro e w117 ⟨v1176, v1178, rfl, ho0, ho1, hb⟩; refine ⟨_, rfl, ?_⟩; have n0_ := A_ (Kd.S_lower ho0 (below_size bl_)); have n1_ := A_ (Kd.Q_lower ho1 (below_size bl_)); have n2_ := A_ (below_step bl_ hb); clear HB; have HO1177 := n0_; have HO1179 := n1_; have HB := n2_; clear n0_ n1_ n2_; (try clear hb); (try clear hb2); (try clear hk); (try clear hi); (try clear ho0); (try clear ho1); obtain ⟨Ao118, co118, eo118⟩ := Kd.S_slice HO1177.out; subst eo118; obtain ⟨Ao119, co119, eo119, _⟩ := Kd.Q_slice HO1179.out; subst eo119) | ((with_reducible refine gate_callee (f := 40) rfl ?_); refine goesL_ (some 264) rfl rfl Try.func40 kr_ rfl #[.slice Ao118 t1171.length co118, .slice Ao119 t1172.length co119, .int .i64 t1173, .int .i64 t1174, .int .i64 t1175] rfl am_ ?_; (with_reducible refine (impl_TrainsReached.calls kj70 _ _ t1171 _ _ t1172 t1173 t1174 t1175 t1180 t1181 _ ?side1 ?side2 ?side3 ?side4 A97.out).mono ?_); (case side1 => exact kC_ ((Kd.S_reads' HO1177.out).2.2)); (case side2 => exact (Kd.S_reads' HO1177.out).2.1); (case side3 => exact kC_ ((Kd.Q_reads' HO1179.out).2.2)); (case side4 => exact (Kd.Q_reads' HO1179.out).2.1); rintro e w120 ⟨v1182, rfl, ho0, hb⟩; refine ⟨_, rfl, ?_⟩; have n0_ := A_ (Kd.S_elder' (kS_ HO1177.out) (Kd.R_base ho0) hb); have n1_ := A_ (Kd.Q_elder' (kQ_ HO1179.out) (Kd.R_base ho0) hb); have n2_ := A_ (Kd.R_lower (Kd.R_new' ho0 (Kd.Q_lt (kQ_ HO1179.out))) (below_size bl_)); have n3_ := A_ (below_step bl_ hb); clear HO1177; clear HO1179; clear HB; have HO1177 := n0_; have HO1179 := n1_; have HO1183 := n2_; have HB := n3_; clear n0_ n1_ n2_ n3_; (try clear hb); (try clear hb2); (try clear hk); (try clear hi); (try clear ho0)) | ((with_reducible refine gate_callee (f := 39) rfl ?_); refine goesL_ (some 273) rfl rfl Try.func39 kr_ rfl #[.slice Ao118 t1171.length co118, .slice Ao119 t1172.length co119, .int .i64 t1173, .int .i64 t1174, .int .i64 t1175] rfl am_ ?_; (with_reducible refine (spec_TrainsReached.calls kj70 _ _ t1171 _ _ t1172 t1173 t1174 t1175 t1184 t1187 _ ?side1 ?side2 ?side3 ?side4 A98.out).mono ?_); (case side1 => exact kC_ ((Kd.S_reads' HO1177.out).2.2)); (case side2 => exact (Kd.S_reads' HO1177.out).2.1); (case side3 => exact kC_ ((Kd.Q_reads' HO1179.out).2.2)); (case side4 => exact (Kd.Q_reads' HO1179.out).2.1); rintro e w121 ⟨v1185, rfl, ho0, hb⟩; refine ⟨_, rfl, ?_⟩; have n0_ := A_ (Kd.S_below (kS_ HO1177.out) hb); have n1_ := A_ (Kd.Q_below (kQ_ HO1179.out) hb); have n2_ := A_ (Kd.R_below (kR_ HO1183.out) hb); have n3_ := A_ (Kd.V_lower (Kd.V_mono (ok' := fun k_ => some k_ ≠ (.slice Ao118 t1171.length co118 : Value).ownBlock ∧ some k_ ≠ (.slice Ao119 t1172.length co119 : Value).ownBlock ∧ some k_ ≠ (v1182 : Value).ownBlock) ho0 (fun k_ hk_ => ⟨(Kd.fresh' (Kd.S_lt (kS_ HO1177.out)) k_ hk_), (Kd.fresh' (Kd.Q_lt (kQ_ HO1179.out)) k_ hk_), (Kd.fresh' (Kd.R_lt (kR_ HO1183.out)) k_ hk_)⟩)) (below_size bl_)); have n4_ := A_ (below_step bl_ hb); clear HO1177; clear HO1179; clear HO1183; clear HB; have HO1177 := n0_; have HO1179 := n1_; have HO1183 := n2_; have HO1186 := n3_; have HB := n4_; clear n0_ n1_ n2_ n3_ n4_; (try clear hb); (try clear hb2); (try clear hk); (try clear hi); (try clear ho0)) | ((with_reducible refine gate_callee (f := 49) rfl ?_); refine goesL_ (some 278) rfl rfl Try.func49 kr_ rfl #[.slice A1 l1.length c1] rfl am_ ?_; (with_reducible refine (spec_DrawBufferOf.calls kj70 _ _ l1 t1188 t1189 t1190 t1191 t1192 _ ?side1 ?side2 A99.out).mono ?_); (case side1 => exact kC_ (Kd.C_below HR1.out HB.out)); (case side2 => exact HC1.out); rintro e w122 ⟨v1193, v1195, rfl, ho0, ho1, hb⟩; refine ⟨_, rfl, ?_⟩; have n0_ := A_ (Kd.S_mono (Kd.S_told (Kd.S_told (Kd.S_old (kS_ HO1177.out) hb) (Kd.S_base ho0)) (Kd.Q_base ho1)) (fun _ h_ => h_.1)); have n1_ := A_ (Kd.Q_elder' (kQ_ HO1179.out) (Kd.Q_base ho1) hb); have n2_ := A_ (Kd.R_elder' (kR_ HO1183.out) (Kd.Q_base ho1) hb); have n3_ := A_ (Kd.V_mono (Kd.V_told (Kd.V_told (Kd.V_old (by (with_reducible repeat (first | apply Kd.V_alloc | apply Kd.V_drewN | apply Kd.V_drew)); exact HO1186.out) hb) (Kd.S_base ho0)) (Kd.Q_base ho1)) (fun _ h_ => h_.1)); have n4_ := A_ (Kd.S_lower (Kd.S_new' (Kd.S_new' (Kd.S_new' ho0 (Kd.S_lt (kS_ HO1177.out))) (Kd.Q_lt (kQ_ HO1179.out))) (Kd.R_lt (kR_ HO1183.out))) (below_size bl_)); have n5_ := A_ (Kd.Q_lower (Kd.Q_new' (Kd.Q_new' ho1 (Kd.Q_lt (kQ_ HO1179.out))) (Kd.R_lt (kR_ HO1183.out))) (below_size bl_)); have n6_ := A_ (below_step bl_ hb); clear HO1177; clear HO1179; clear HO1183; clear HO1186; clear HB; have HO1177 := n0_; have HO1179 := n1_; have HO1183 := n2_; have HO1186 := n3_; have HO1194 := n4_; have HO1196 := n5_; have HB := n6_; clear n0_ n1_ n2_ n3_ n4_ n5_ n6_; (try clear hb); (try clear hb2); (try clear hk); (try clear hi); (try clear ho0); (try clear ho1); obtain ⟨Ao123, co123, eo123⟩ := Kd.S_slice HO1194.out; subst eo123; obtain ⟨Ao124, co124, eo124, _⟩ := Kd.Q_slice HO1196.out; subst eo124) | ((with_reducible refine gate_callee (f := 18) rfl ?_); refine goesL_ (some 290) rfl rfl Try.func18 kr_ rfl #[.slice Ao123 t1188.length co123, .slice Ao124 t1189.length co124, .int .i64 t1190, .int .i64 t1191, .int .i64 t1192] rfl am_ ?_; (with_reducible refine (impl_BufferOf.calls kj70 _ _ t1188 _ _ t1189 t1190 t1191 t1192 t1197 t1198 _ ?side1 ?side2 ?side3 ?side4 A100.out).mono ?_); (case side1 => exact kC_ ((Kd.S_reads' HO1194.out).2.2)); (case side2 => exact (Kd.S_reads' HO1194.out).2.1); (case side3 => exact kC_ ((Kd.Q_reads' HO1196.out).2.2)); (case side4 => exact (Kd.Q_reads' HO1196.out).2.1); rintro e w125 ⟨rfl, hb⟩; refine ⟨_, rfl, ?_⟩; have n0_ := A_ (Kd.S_below (kS_ HO1177.out) hb); have n1_ := A_ (Kd.Q_below (kQ_ HO1179.out) hb); have n2_ := A_ (Kd.R_below (kR_ HO1183.out) hb); have n3_ := A_ (Kd.V_below (by (with_reducible repeat (first | apply Kd.V_alloc | apply Kd.V_drewN | apply Kd.V_drew)); exact HO1186.out) hb); have n4_ := A_ (Kd.S_below (kS_ HO1194.out) hb); have n5_ := A_ (Kd.Q_below (kQ_ HO1196.out) hb); have n6_ := A_ (below_step bl_ hb); clear HO1177; clear HO1179; clear HO1183; clear HO1186; clear HO1194; clear HO1196; clear HB; have HO1177 := n0_; have HO1179 := n1_; have HO1183 := n2_; have HO1186 := n3_; have HO1194 := n4_; have HO1196 := n5_; have HB := n6_; clear n0_ n1_ n2_ n3_ n4_ n5_ n6_; (try clear hb); (try clear hb2); (try clear hk); (try clear hi)) | ((with_reducible refine gate_callee (f := 15) rfl ?_); refine goesL_ (some 299) rfl rfl Try.func15 kr_ rfl #[.slice Ao123 t1188.length co123, .slice Ao124 t1189.length co124, .int .i64 t1190, .int .i64 t1191, .int .i64 t1192] rfl am_ ?_; (with_reducible refine (spec_BufferOf.calls kj70 _ _ t1188 _ _ t1189 t1190 t1191 t1192 t1199 t1200 _ ?side1 ?side2 ?side3 ?side4 A101.out).mono ?_); (case side1 => exact kC_ ((Kd.S_reads' HO1194.out).2.2)); (case side2 => exact (Kd.S_reads' HO1194.out).2.1); (case side3 => exact kC_ ((Kd.Q_reads' HO1196.out).2.2)); (case side4 => exact (Kd.Q_reads' HO1196.out).2.1); rintro e w' ⟨rfl, ⟨nd, rfl⟩⟩; refine ⟨_, rfl, ?_⟩; obtain ⟨Ao126, co126, eo126⟩ := Kd.R_slice HO1183.out; subst eo126; obtain ⟨Ao127, co127, eo127⟩ := Kd.V_slice HO1186.out; subst eo127) | (go_at_call 42; (with_reducible refine (laws_qInts.calls kj70 _ _ t1180 _ _ t1184 true _ ?side1 ?side2 ?side3 ?side4 A103.out).mono ?_); (case side1 => exact kC_ ((Kd.R_reads' HO1183.out).2.2)); (case side2 => exact (Kd.R_reads' HO1183.out).2.1); (case side3 => exact kC_ ((Kd.V_reads' HO1186.out).2.2)); (case side4 => exact (Kd.V_reads' HO1186.out).2.1); rintro e w' ⟨rfl, ⟨nd, rfl⟩⟩))
               go_ret
               exact ⟨ew_, bl_⟩
             ·
              replace c104 := Bool.eq_false_iff.mpr c104
              subst c104
              rw [if_neg (show ¬ (false = true) by decide)] at H
              obtain rfl := Option.some.inj H
              go_wp2_with (first | ((with_reducible refine gate_callee (f := 48) rfl ?_); refine goesL_ (some 252) rfl rfl Try.func48 kr_ rfl #[.slice A1 l1.length c1] rfl am_ ?_; (with_reducible refine (spec_DrawTrainsReached.calls kj70 _ _ l1 t1171 t1172 t1173 t1174 t1175 _ ?side1 ?side2 A96.out).mono ?_); (case side1 => exact kC_ (Kd.C_below HR1.out HB.out)); (case side2 => exact HC1.out); rintro e w128 ⟨v1176, v1178, rfl, ho0, ho1, hb⟩; refine ⟨_, rfl, ?_⟩; have n0_ := A_ (Kd.S_lower ho0 (below_size bl_)); have n1_ := A_ (Kd.Q_lower ho1 (below_size bl_)); have n2_ := A_ (below_step bl_ hb); clear HB; have HO1177 := n0_; have HO1179 := n1_; have HB := n2_; clear n0_ n1_ n2_; (try clear hb); (try clear hb2); (try clear hk); (try clear hi); (try clear ho0); (try clear ho1); obtain ⟨Ao129, co129, eo129⟩ := Kd.S_slice HO1177.out; subst eo129; obtain ⟨Ao130, co130, eo130, _⟩ := Kd.Q_slice HO1179.out; subst eo130) | ((with_reducible refine gate_callee (f := 40) rfl ?_); refine goesL_ (some 264) rfl rfl Try.func40 kr_ rfl #[.slice Ao129 t1171.length co129, .slice Ao130 t1172.length co130, .int .i64 t1173, .int .i64 t1174, .int .i64 t1175] rfl am_ ?_; (with_reducible refine (impl_TrainsReached.calls kj70 _ _ t1171 _ _ t1172 t1173 t1174 t1175 t1180 t1181 _ ?side1 ?side2 ?side3 ?side4 A97.out).mono ?_); (case side1 => exact kC_ ((Kd.S_reads' HO1177.out).2.2)); (case side2 => exact (Kd.S_reads' HO1177.out).2.1); (case side3 => exact kC_ ((Kd.Q_reads' HO1179.out).2.2)); (case side4 => exact (Kd.Q_reads' HO1179.out).2.1); rintro e w131 ⟨v1182, rfl, ho0, hb⟩; refine ⟨_, rfl, ?_⟩; have n0_ := A_ (Kd.S_elder' (kS_ HO1177.out) (Kd.R_base ho0) hb); have n1_ := A_ (Kd.Q_elder' (kQ_ HO1179.out) (Kd.R_base ho0) hb); have n2_ := A_ (Kd.R_lower (Kd.R_new' ho0 (Kd.Q_lt (kQ_ HO1179.out))) (below_size bl_)); have n3_ := A_ (below_step bl_ hb); clear HO1177; clear HO1179; clear HB; have HO1177 := n0_; have HO1179 := n1_; have HO1183 := n2_; have HB := n3_; clear n0_ n1_ n2_ n3_; (try clear hb); (try clear hb2); (try clear hk); (try clear hi); (try clear ho0)) | ((with_reducible refine gate_callee (f := 39) rfl ?_); refine goesL_ (some 273) rfl rfl Try.func39 kr_ rfl #[.slice Ao129 t1171.length co129, .slice Ao130 t1172.length co130, .int .i64 t1173, .int .i64 t1174, .int .i64 t1175] rfl am_ ?_; (with_reducible refine (spec_TrainsReached.calls kj70 _ _ t1171 _ _ t1172 t1173 t1174 t1175 t1184 t1187 _ ?side1 ?side2 ?side3 ?side4 A98.out).mono ?_); (case side1 => exact kC_ ((Kd.S_reads' HO1177.out).2.2)); (case side2 => exact (Kd.S_reads' HO1177.out).2.1); (case side3 => exact kC_ ((Kd.Q_reads' HO1179.out).2.2)); (case side4 => exact (Kd.Q_reads' HO1179.out).2.1); rintro e w132 ⟨v1185, rfl, ho0, hb⟩; refine ⟨_, rfl, ?_⟩; have n0_ := A_ (Kd.S_below (kS_ HO1177.out) hb); have n1_ := A_ (Kd.Q_below (kQ_ HO1179.out) hb); have n2_ := A_ (Kd.R_below (kR_ HO1183.out) hb); have n3_ := A_ (Kd.V_lower (Kd.V_mono (ok' := fun k_ => some k_ ≠ (.slice Ao129 t1171.length co129 : Value).ownBlock ∧ some k_ ≠ (.slice Ao130 t1172.length co130 : Value).ownBlock ∧ some k_ ≠ (v1182 : Value).ownBlock) ho0 (fun k_ hk_ => ⟨(Kd.fresh' (Kd.S_lt (kS_ HO1177.out)) k_ hk_), (Kd.fresh' (Kd.Q_lt (kQ_ HO1179.out)) k_ hk_), (Kd.fresh' (Kd.R_lt (kR_ HO1183.out)) k_ hk_)⟩)) (below_size bl_)); have n4_ := A_ (below_step bl_ hb); clear HO1177; clear HO1179; clear HO1183; clear HB; have HO1177 := n0_; have HO1179 := n1_; have HO1183 := n2_; have HO1186 := n3_; have HB := n4_; clear n0_ n1_ n2_ n3_ n4_; (try clear hb); (try clear hb2); (try clear hk); (try clear hi); (try clear ho0)) | ((with_reducible refine gate_callee (f := 49) rfl ?_); refine goesL_ (some 278) rfl rfl Try.func49 kr_ rfl #[.slice A1 l1.length c1] rfl am_ ?_; (with_reducible refine (spec_DrawBufferOf.calls kj70 _ _ l1 t1188 t1189 t1190 t1191 t1192 _ ?side1 ?side2 A99.out).mono ?_); (case side1 => exact kC_ (Kd.C_below HR1.out HB.out)); (case side2 => exact HC1.out); rintro e w133 ⟨v1193, v1195, rfl, ho0, ho1, hb⟩; refine ⟨_, rfl, ?_⟩; have n0_ := A_ (Kd.S_mono (Kd.S_told (Kd.S_told (Kd.S_old (kS_ HO1177.out) hb) (Kd.S_base ho0)) (Kd.Q_base ho1)) (fun _ h_ => h_.1)); have n1_ := A_ (Kd.Q_elder' (kQ_ HO1179.out) (Kd.Q_base ho1) hb); have n2_ := A_ (Kd.R_elder' (kR_ HO1183.out) (Kd.Q_base ho1) hb); have n3_ := A_ (Kd.V_mono (Kd.V_told (Kd.V_told (Kd.V_old (by (with_reducible repeat (first | apply Kd.V_alloc | apply Kd.V_drewN | apply Kd.V_drew)); exact HO1186.out) hb) (Kd.S_base ho0)) (Kd.Q_base ho1)) (fun _ h_ => h_.1)); have n4_ := A_ (Kd.S_lower (Kd.S_new' (Kd.S_new' (Kd.S_new' ho0 (Kd.S_lt (kS_ HO1177.out))) (Kd.Q_lt (kQ_ HO1179.out))) (Kd.R_lt (kR_ HO1183.out))) (below_size bl_)); have n5_ := A_ (Kd.Q_lower (Kd.Q_new' (Kd.Q_new' ho1 (Kd.Q_lt (kQ_ HO1179.out))) (Kd.R_lt (kR_ HO1183.out))) (below_size bl_)); have n6_ := A_ (below_step bl_ hb); clear HO1177; clear HO1179; clear HO1183; clear HO1186; clear HB; have HO1177 := n0_; have HO1179 := n1_; have HO1183 := n2_; have HO1186 := n3_; have HO1194 := n4_; have HO1196 := n5_; have HB := n6_; clear n0_ n1_ n2_ n3_ n4_ n5_ n6_; (try clear hb); (try clear hb2); (try clear hk); (try clear hi); (try clear ho0); (try clear ho1); obtain ⟨Ao134, co134, eo134⟩ := Kd.S_slice HO1194.out; subst eo134; obtain ⟨Ao135, co135, eo135, _⟩ := Kd.Q_slice HO1196.out; subst eo135) | ((with_reducible refine gate_callee (f := 18) rfl ?_); refine goesL_ (some 290) rfl rfl Try.func18 kr_ rfl #[.slice Ao134 t1188.length co134, .slice Ao135 t1189.length co135, .int .i64 t1190, .int .i64 t1191, .int .i64 t1192] rfl am_ ?_; (with_reducible refine (impl_BufferOf.calls kj70 _ _ t1188 _ _ t1189 t1190 t1191 t1192 t1197 t1198 _ ?side1 ?side2 ?side3 ?side4 A100.out).mono ?_); (case side1 => exact kC_ ((Kd.S_reads' HO1194.out).2.2)); (case side2 => exact (Kd.S_reads' HO1194.out).2.1); (case side3 => exact kC_ ((Kd.Q_reads' HO1196.out).2.2)); (case side4 => exact (Kd.Q_reads' HO1196.out).2.1); rintro e w136 ⟨rfl, hb⟩; refine ⟨_, rfl, ?_⟩; have n0_ := A_ (Kd.S_below (kS_ HO1177.out) hb); have n1_ := A_ (Kd.Q_below (kQ_ HO1179.out) hb); have n2_ := A_ (Kd.R_below (kR_ HO1183.out) hb); have n3_ := A_ (Kd.V_below (by (with_reducible repeat (first | apply Kd.V_alloc | apply Kd.V_drewN | apply Kd.V_drew)); exact HO1186.out) hb); have n4_ := A_ (Kd.S_below (kS_ HO1194.out) hb); have n5_ := A_ (Kd.Q_below (kQ_ HO1196.out) hb); have n6_ := A_ (below_step bl_ hb); clear HO1177; clear HO1179; clear HO1183; clear HO1186; clear HO1194; clear HO1196; clear HB; have HO1177 := n0_; have HO1179 := n1_; have HO1183 := n2_; have HO1186 := n3_; have HO1194 := n4_; have HO1196 := n5_; have HB := n6_; clear n0_ n1_ n2_ n3_ n4_ n5_ n6_; (try clear hb); (try clear hb2); (try clear hk); (try clear hi)) | ((with_reducible refine gate_callee (f := 15) rfl ?_); refine goesL_ (some 299) rfl rfl Try.func15 kr_ rfl #[.slice Ao134 t1188.length co134, .slice Ao135 t1189.length co135, .int .i64 t1190, .int .i64 t1191, .int .i64 t1192] rfl am_ ?_; (with_reducible refine (spec_BufferOf.calls kj70 _ _ t1188 _ _ t1189 t1190 t1191 t1192 t1199 t1200 _ ?side1 ?side2 ?side3 ?side4 A101.out).mono ?_); (case side1 => exact kC_ ((Kd.S_reads' HO1194.out).2.2)); (case side2 => exact (Kd.S_reads' HO1194.out).2.1); (case side3 => exact kC_ ((Kd.Q_reads' HO1196.out).2.2)); (case side4 => exact (Kd.Q_reads' HO1196.out).2.1); rintro e w' ⟨rfl, ⟨nd, rfl⟩⟩; refine ⟨_, rfl, ?_⟩; obtain ⟨Ao137, co137, eo137⟩ := Kd.R_slice HO1183.out; subst eo137; obtain ⟨Ao138, co138, eo138⟩ := Kd.V_slice HO1186.out; subst eo138) | (go_at_call 42; (with_reducible refine (laws_qInts.calls kj70 _ _ t1180 _ _ t1184 false _ ?side1 ?side2 ?side3 ?side4 A103.out).mono ?_); (case side1 => exact kC_ ((Kd.R_reads' HO1183.out).2.2)); (case side2 => exact (Kd.R_reads' HO1183.out).2.1); (case side3 => exact kC_ ((Kd.V_reads' HO1186.out).2.2)); (case side4 => exact (Kd.V_reads' HO1186.out).2.1); rintro e w' ⟨rfl, ⟨nd, rfl⟩⟩))
              go_ret
              exact ⟨ew_, bl_⟩
            ·
             rw [if_neg c102] at H
             have c102b0 : (t1181 == t1187) = false := by simpa using c102
             (try (have c102b1 : decide (t1181 = t1187) = false := by simpa using c102))
             (try (have c102b2 : (t1181 == t1187) = false := by simpa using c102))
             (try (have c102b3 : ¬ (t1181 = t1187) := by simpa using c102))
             clear c102
             obtain rfl := Option.some.inj H
             go_wp2_with (first | ((with_reducible refine gate_callee (f := 48) rfl ?_); refine goesL_ (some 252) rfl rfl Try.func48 kr_ rfl #[.slice A1 l1.length c1] rfl am_ ?_; (with_reducible refine (spec_DrawTrainsReached.calls kj70 _ _ l1 t1171 t1172 t1173 t1174 t1175 _ ?side1 ?side2 A96.out).mono ?_); (case side1 => exact kC_ (Kd.C_below HR1.out HB.out)); (case side2 => exact HC1.out); rintro e w139 ⟨v1176, v1178, rfl, ho0, ho1, hb⟩; refine ⟨_, rfl, ?_⟩; have n0_ := A_ (Kd.S_lower ho0 (below_size bl_)); have n1_ := A_ (Kd.Q_lower ho1 (below_size bl_)); have n2_ := A_ (below_step bl_ hb); clear HB; have HO1177 := n0_; have HO1179 := n1_; have HB := n2_; clear n0_ n1_ n2_; (try clear hb); (try clear hb2); (try clear hk); (try clear hi); (try clear ho0); (try clear ho1); obtain ⟨Ao140, co140, eo140⟩ := Kd.S_slice HO1177.out; subst eo140; obtain ⟨Ao141, co141, eo141, _⟩ := Kd.Q_slice HO1179.out; subst eo141) | ((with_reducible refine gate_callee (f := 40) rfl ?_); refine goesL_ (some 264) rfl rfl Try.func40 kr_ rfl #[.slice Ao140 t1171.length co140, .slice Ao141 t1172.length co141, .int .i64 t1173, .int .i64 t1174, .int .i64 t1175] rfl am_ ?_; (with_reducible refine (impl_TrainsReached.calls kj70 _ _ t1171 _ _ t1172 t1173 t1174 t1175 t1180 t1181 _ ?side1 ?side2 ?side3 ?side4 A97.out).mono ?_); (case side1 => exact kC_ ((Kd.S_reads' HO1177.out).2.2)); (case side2 => exact (Kd.S_reads' HO1177.out).2.1); (case side3 => exact kC_ ((Kd.Q_reads' HO1179.out).2.2)); (case side4 => exact (Kd.Q_reads' HO1179.out).2.1); rintro e w142 ⟨v1182, rfl, ho0, hb⟩; refine ⟨_, rfl, ?_⟩; have n0_ := A_ (Kd.S_elder' (kS_ HO1177.out) (Kd.R_base ho0) hb); have n1_ := A_ (Kd.Q_elder' (kQ_ HO1179.out) (Kd.R_base ho0) hb); have n2_ := A_ (Kd.R_lower (Kd.R_new' ho0 (Kd.Q_lt (kQ_ HO1179.out))) (below_size bl_)); have n3_ := A_ (below_step bl_ hb); clear HO1177; clear HO1179; clear HB; have HO1177 := n0_; have HO1179 := n1_; have HO1183 := n2_; have HB := n3_; clear n0_ n1_ n2_ n3_; (try clear hb); (try clear hb2); (try clear hk); (try clear hi); (try clear ho0)) | ((with_reducible refine gate_callee (f := 39) rfl ?_); refine goesL_ (some 273) rfl rfl Try.func39 kr_ rfl #[.slice Ao140 t1171.length co140, .slice Ao141 t1172.length co141, .int .i64 t1173, .int .i64 t1174, .int .i64 t1175] rfl am_ ?_; (with_reducible refine (spec_TrainsReached.calls kj70 _ _ t1171 _ _ t1172 t1173 t1174 t1175 t1184 t1187 _ ?side1 ?side2 ?side3 ?side4 A98.out).mono ?_); (case side1 => exact kC_ ((Kd.S_reads' HO1177.out).2.2)); (case side2 => exact (Kd.S_reads' HO1177.out).2.1); (case side3 => exact kC_ ((Kd.Q_reads' HO1179.out).2.2)); (case side4 => exact (Kd.Q_reads' HO1179.out).2.1); rintro e w143 ⟨v1185, rfl, ho0, hb⟩; refine ⟨_, rfl, ?_⟩; have n0_ := A_ (Kd.S_below (kS_ HO1177.out) hb); have n1_ := A_ (Kd.Q_below (kQ_ HO1179.out) hb); have n2_ := A_ (Kd.R_below (kR_ HO1183.out) hb); have n3_ := A_ (Kd.V_lower (Kd.V_mono (ok' := fun k_ => some k_ ≠ (.slice Ao140 t1171.length co140 : Value).ownBlock ∧ some k_ ≠ (.slice Ao141 t1172.length co141 : Value).ownBlock ∧ some k_ ≠ (v1182 : Value).ownBlock) ho0 (fun k_ hk_ => ⟨(Kd.fresh' (Kd.S_lt (kS_ HO1177.out)) k_ hk_), (Kd.fresh' (Kd.Q_lt (kQ_ HO1179.out)) k_ hk_), (Kd.fresh' (Kd.R_lt (kR_ HO1183.out)) k_ hk_)⟩)) (below_size bl_)); have n4_ := A_ (below_step bl_ hb); clear HO1177; clear HO1179; clear HO1183; clear HB; have HO1177 := n0_; have HO1179 := n1_; have HO1183 := n2_; have HO1186 := n3_; have HB := n4_; clear n0_ n1_ n2_ n3_ n4_; (try clear hb); (try clear hb2); (try clear hk); (try clear hi); (try clear ho0)) | ((with_reducible refine gate_callee (f := 49) rfl ?_); refine goesL_ (some 278) rfl rfl Try.func49 kr_ rfl #[.slice A1 l1.length c1] rfl am_ ?_; (with_reducible refine (spec_DrawBufferOf.calls kj70 _ _ l1 t1188 t1189 t1190 t1191 t1192 _ ?side1 ?side2 A99.out).mono ?_); (case side1 => exact kC_ (Kd.C_below HR1.out HB.out)); (case side2 => exact HC1.out); rintro e w144 ⟨v1193, v1195, rfl, ho0, ho1, hb⟩; refine ⟨_, rfl, ?_⟩; have n0_ := A_ (Kd.S_mono (Kd.S_told (Kd.S_told (Kd.S_old (kS_ HO1177.out) hb) (Kd.S_base ho0)) (Kd.Q_base ho1)) (fun _ h_ => h_.1)); have n1_ := A_ (Kd.Q_elder' (kQ_ HO1179.out) (Kd.Q_base ho1) hb); have n2_ := A_ (Kd.R_elder' (kR_ HO1183.out) (Kd.Q_base ho1) hb); have n3_ := A_ (Kd.V_mono (Kd.V_told (Kd.V_told (Kd.V_old (by (with_reducible repeat (first | apply Kd.V_alloc | apply Kd.V_drewN | apply Kd.V_drew)); exact HO1186.out) hb) (Kd.S_base ho0)) (Kd.Q_base ho1)) (fun _ h_ => h_.1)); have n4_ := A_ (Kd.S_lower (Kd.S_new' (Kd.S_new' (Kd.S_new' ho0 (Kd.S_lt (kS_ HO1177.out))) (Kd.Q_lt (kQ_ HO1179.out))) (Kd.R_lt (kR_ HO1183.out))) (below_size bl_)); have n5_ := A_ (Kd.Q_lower (Kd.Q_new' (Kd.Q_new' ho1 (Kd.Q_lt (kQ_ HO1179.out))) (Kd.R_lt (kR_ HO1183.out))) (below_size bl_)); have n6_ := A_ (below_step bl_ hb); clear HO1177; clear HO1179; clear HO1183; clear HO1186; clear HB; have HO1177 := n0_; have HO1179 := n1_; have HO1183 := n2_; have HO1186 := n3_; have HO1194 := n4_; have HO1196 := n5_; have HB := n6_; clear n0_ n1_ n2_ n3_ n4_ n5_ n6_; (try clear hb); (try clear hb2); (try clear hk); (try clear hi); (try clear ho0); (try clear ho1); obtain ⟨Ao145, co145, eo145⟩ := Kd.S_slice HO1194.out; subst eo145; obtain ⟨Ao146, co146, eo146, _⟩ := Kd.Q_slice HO1196.out; subst eo146) | ((with_reducible refine gate_callee (f := 18) rfl ?_); refine goesL_ (some 290) rfl rfl Try.func18 kr_ rfl #[.slice Ao145 t1188.length co145, .slice Ao146 t1189.length co146, .int .i64 t1190, .int .i64 t1191, .int .i64 t1192] rfl am_ ?_; (with_reducible refine (impl_BufferOf.calls kj70 _ _ t1188 _ _ t1189 t1190 t1191 t1192 t1197 t1198 _ ?side1 ?side2 ?side3 ?side4 A100.out).mono ?_); (case side1 => exact kC_ ((Kd.S_reads' HO1194.out).2.2)); (case side2 => exact (Kd.S_reads' HO1194.out).2.1); (case side3 => exact kC_ ((Kd.Q_reads' HO1196.out).2.2)); (case side4 => exact (Kd.Q_reads' HO1196.out).2.1); rintro e w147 ⟨rfl, hb⟩; refine ⟨_, rfl, ?_⟩; have n0_ := A_ (Kd.S_below (kS_ HO1177.out) hb); have n1_ := A_ (Kd.Q_below (kQ_ HO1179.out) hb); have n2_ := A_ (Kd.R_below (kR_ HO1183.out) hb); have n3_ := A_ (Kd.V_below (by (with_reducible repeat (first | apply Kd.V_alloc | apply Kd.V_drewN | apply Kd.V_drew)); exact HO1186.out) hb); have n4_ := A_ (Kd.S_below (kS_ HO1194.out) hb); have n5_ := A_ (Kd.Q_below (kQ_ HO1196.out) hb); have n6_ := A_ (below_step bl_ hb); clear HO1177; clear HO1179; clear HO1183; clear HO1186; clear HO1194; clear HO1196; clear HB; have HO1177 := n0_; have HO1179 := n1_; have HO1183 := n2_; have HO1186 := n3_; have HO1194 := n4_; have HO1196 := n5_; have HB := n6_; clear n0_ n1_ n2_ n3_ n4_ n5_ n6_; (try clear hb); (try clear hb2); (try clear hk); (try clear hi)) | ((with_reducible refine gate_callee (f := 15) rfl ?_); refine goesL_ (some 299) rfl rfl Try.func15 kr_ rfl #[.slice Ao145 t1188.length co145, .slice Ao146 t1189.length co146, .int .i64 t1190, .int .i64 t1191, .int .i64 t1192] rfl am_ ?_; (with_reducible refine (spec_BufferOf.calls kj70 _ _ t1188 _ _ t1189 t1190 t1191 t1192 t1199 t1200 _ ?side1 ?side2 ?side3 ?side4 A101.out).mono ?_); (case side1 => exact kC_ ((Kd.S_reads' HO1194.out).2.2)); (case side2 => exact (Kd.S_reads' HO1194.out).2.1); (case side3 => exact kC_ ((Kd.Q_reads' HO1196.out).2.2)); (case side4 => exact (Kd.Q_reads' HO1196.out).2.1); rintro e w' ⟨rfl, ⟨nd, rfl⟩⟩; refine ⟨_, rfl, ?_⟩))
             go_ret
             exact ⟨ew_, bl_⟩

/-- THE ONE PURE STATEMENT of laws_FnBuffers: yours. -/
def laws_FnBuffers.Pure : Prop := ∀ (l0 : List Int) (l1 : List Int), l0.length ≤ maxLen → l0.length * 1 ≤ 140737488351232 → (∀ x ∈ l0, (Lit.int .u8 x).wf = true) → l1.length ≤ maxLen → l1.length * 1 ≤ 140737488351232 → (∀ x ∈ l1, (Lit.int .u8 x).wf = true) → ∃ k, laws_FnBuffers.f k l0 l1 = some true
theorem laws_FnBuffers.walk (P : laws_FnBuffers.Pure) (a0 : Option Addr) (len0 cap0 : Nat) (z0 : List Int) (a1 : Option Addr) (len1 cap1 : Nat) (z1 : List Int) (w : World) (w0 : (a0 = none ∧ len0 = 0 ∧ cap0 = 0 ∧ z0 = []) ∨ ∃ x, a0 = some x ∧ len0 ≤ cap0 ∧ cap0 ≤ maxLen ∧ z0.length = cap0 ∧ (∀ i, i < z0.length → w.cell? (x.add i) = some (.int .u8 (z0.getD i 0))) ∧ ∀ n ∈ z0, (Lit.int .u8 n).wf = true) (y0 : len0 * 1 ≤ 140737488351232) (w1 : (a1 = none ∧ len1 = 0 ∧ cap1 = 0 ∧ z1 = []) ∨ ∃ x, a1 = some x ∧ len1 ≤ cap1 ∧ cap1 ≤ maxLen ∧ z1.length = cap1 ∧ (∀ i, i < z1.length → w.cell? (x.add i) = some (.int .u8 (z1.getD i 0))) ∧ ∀ n ∈ z1, (Lit.int .u8 n).wf = true) (y1 : len1 * 1 ≤ 140737488351232) :
 Calls Try.prog 13 #[.slice a0 len0 cap0, .slice a1 len1 cap1] w fun e w' => e = .returned (.bool true) ∧ Below w.heap.size w w' := by
 obtain ⟨l0, rfl, hr0, hm0, hw0, hc0⟩ := ReadsInt.ofRowC w0
 obtain ⟨l1, rfl, hr1, hm1, hw1, hc1⟩ := ReadsInt.ofRowC w1
 obtain ⟨k, h⟩ := P l0 l1 hm0 y0 hw0 hm1 y1 hw1
 refine (laws_FnBuffers.calls k _ _ l0 _ _ l1 true w (Kd.C_of_reads (d := (0 : Int)) (h1 := fun _ => rfl) hr0) hc0 (Kd.C_of_reads (d := (0 : Int)) (h1 := fun _ => rfl) hr1) hc1 h).mono ?_
 rintro e w' ⟨rfl, hd⟩
 exact ⟨rfl, hd⟩

end Go.Proofs.Ytebjiooojkhkpaa.X
