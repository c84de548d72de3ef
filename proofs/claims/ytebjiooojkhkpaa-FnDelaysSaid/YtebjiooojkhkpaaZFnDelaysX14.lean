-- Shaken by wip/gen/shake.py out of this claim's own printed texts. Lean checks it.
import Derived.Test.YtebjiooojkhkpaaZFnDelaysWBX0
import Derived.Test.YtebjiooojkhkpaaZFnDelaysX5
import Derived.Test.YtebjiooojkhkpaaZFnDelaysX6
import Derived.Test.YtebjiooojkhkpaaZFnDelaysX7
import Derived.Test.YtebjiooojkhkpaaZFnDelaysX8
import Derived.Test.YtebjiooojkhkpaaZFnDelaysX12
import Derived.Test.YtebjiooojkhkpaaZFnDelaysX13
namespace Go.Proofs.Ytebjiooojkhkpaa.X
open Go.RowKit Go.Proofs.YtebjiooojkhkpaaW.PrintWords Go.Proofs.YtebjiooojkhkpaaW.PrintLast Go.Proofs.YtebjiooojkhkpaaW.PrintMore
attribute [local go_sem] max2_int min2_int max_two min_two max_three min_three max_four min_four   -- for this text's walks alone
set_option linter.unusedVariables false
set_option linter.unusedSimpArgs false

/-! ### laws_FnDelays: function 12 -/
mutual
def laws_FnDelays.j0 : Nat → List Int → List (List Int) → List Int → Int → List Int → Bool → List Int → Bool → Int → Int → Bool → Option (Bool)
  | 0, _, _, _, _, _, _, _, _, _, _, _ => none
  | k + 1, x1, x5, x6, x7, x8, x10, x11, x14, x15, x19, x137 => if x137 = true then (some false) else (if x10 = true then ((impl_DelaysAfter.f k x5 x6 x7 x8 1).bind fun bt997 => (if bt997.2 = true then ((laws_qInts.f k bt997.1 x11).bind fun t1001 => (if t1001 = true then (laws_FnDelays.j1 k x1 x5 x6 x7 x8 x14 x15 x19) else (some false))) else (some false))) else (laws_FnDelays.j1 k x1 x5 x6 x7 x8 x14 x15 x19))
def laws_FnDelays.j1 : Nat → List Int → List (List Int) → List Int → Int → List Int → Bool → Int → Int → Option (Bool)
  | 0, _, _, _, _, _, _, _, _ => none
  | k + 1, x1, x5, x6, x7, x8, x14, x15, x19 => if x14 = true then ((impl_DelaysAfter.f k x5 x6 x7 x8 x15).bind fun bt1002 => (if bt1002.2 = true then ((laws_qSum.f k bt1002.1).bind fun t1006 => (if t1006 = 0 then ((laws_qSum.f k x8).bind fun t1007 => (laws_FnDelays.j2 k x1 x5 x6 x7 x8 x15 (decide (x19 < t1007)))) else (laws_FnDelays.j2 k x1 x5 x6 x7 x8 x15 true))) else (laws_FnDelays.j2 k x1 x5 x6 x7 x8 x15 true))) else (laws_FnDelays.j3 k x1)
def laws_FnDelays.j3 : Nat → List Int → Option (Bool)
  | 0, _ => none
  | k + 1, x1 => (spec_DrawDelaysAfter.f k x1).bind fun bt1013 => ((impl_DelaysAfter.f k bt1013.1 bt1013.2.1 bt1013.2.2.1 bt1013.2.2.2.1 bt1013.2.2.2.2).bind fun bt1024 => ((spec_DelaysAfter.f k bt1013.1 bt1013.2.1 bt1013.2.2.1 bt1013.2.2.2.1 bt1013.2.2.2.2).bind fun bt1028 => (if (bt1024.2 == bt1028.2) = true then ((laws_qInts.f k bt1024.1 bt1028.1).bind fun t1032 => (some t1032)) else (some false))))
def laws_FnDelays.j2 : Nat → List Int → List (List Int) → List Int → Int → List Int → Int → Bool → Option (Bool)
  | 0, _, _, _, _, _, _, _ => none
  | k + 1, x1, x5, x6, x7, x8, x15, x177 => if x177 = true then (some false) else (if x15 > 0 then ((impl_DelaysAfter.f k x5 x6 x7 x8 (wrap64 (x15 - 1))).bind fun bt1008 => (if bt1008.2 = true then ((laws_qSum.f k bt1008.1).bind fun t1012 => (if t1012 = 0 then (some false) else (laws_FnDelays.j3 k x1))) else (some false))) else (laws_FnDelays.j3 k x1))
end
def laws_FnDelays.f (k : Nat) (l0 : List Int) (l1 : List Int) : Option (Bool) := if (wrap64 ((l0.length : Int) + (l1.length : Int))) > 1048576 then (some true) else ((spec_DrawNextDelays.f k l0).bind fun bt970 => ((impl_NextDelays.f k bt970.1 bt970.2.1 bt970.2.2.1 bt970.2.2.2).bind fun bt980 => ((spec_NextDelays.f k bt970.1 bt970.2.1 bt970.2.2.1 bt970.2.2.2).bind fun bt984 => ((impl_RoundsToCalm.f k bt970.1 bt970.2.1 bt970.2.2.1 bt970.2.2.2).bind fun bt988 => ((spec_RoundsToCalm.f k bt970.1 bt970.2.1 bt970.2.2.1 bt970.2.2.2).bind fun bt990 => ((impl_TotalDelay.f k bt970.1 bt970.2.1 bt970.2.2.1 bt970.2.2.2).bind fun bt992 => ((spec_TotalDelay.f k bt970.1 bt970.2.1 bt970.2.2.1 bt970.2.2.2).bind fun bt994 => (if (bt980.2 != bt984.2) = true then (laws_FnDelays.j0 k l1 bt970.1 bt970.2.1 bt970.2.2.1 bt970.2.2.2 bt980.2 bt984.1 bt988.2 bt990.1 bt994.1 true) else ((laws_qInts.f k bt980.1 bt984.1).bind fun t996 => (if t996 = true then (if (bt988.2 != bt990.2) = true then (laws_FnDelays.j0 k l1 bt970.1 bt970.2.1 bt970.2.2.1 bt970.2.2.2 bt980.2 bt984.1 bt988.2 bt990.1 bt994.1 true) else (if bt988.1 = bt990.1 then (if (bt992.2 != bt994.2) = true then (laws_FnDelays.j0 k l1 bt970.1 bt970.2.1 bt970.2.2.1 bt970.2.2.2 bt980.2 bt984.1 bt988.2 bt990.1 bt994.1 true) else (if bt992.1 = bt994.1 then (if (bt992.2 != bt988.2) = true then (laws_FnDelays.j0 k l1 bt970.1 bt970.2.1 bt970.2.2.1 bt970.2.2.2 bt980.2 bt984.1 bt988.2 bt990.1 bt994.1 true) else (if bt988.2 = true then (laws_FnDelays.j0 k l1 bt970.1 bt970.2.1 bt970.2.2.1 bt970.2.2.2 bt980.2 bt984.1 bt988.2 bt990.1 bt994.1 (!bt980.2)) else (laws_FnDelays.j0 k l1 bt970.1 bt970.2.1 bt970.2.2.1 bt970.2.2.2 bt980.2 bt984.1 bt988.2 bt990.1 bt994.1 false))) else (laws_FnDelays.j0 k l1 bt970.1 bt970.2.1 bt970.2.2.1 bt970.2.2.2 bt980.2 bt984.1 bt988.2 bt990.1 bt994.1 true))) else (laws_FnDelays.j0 k l1 bt970.1 bt970.2.1 bt970.2.2.1 bt970.2.2.2 bt980.2 bt984.1 bt988.2 bt990.1 bt994.1 true))) else (laws_FnDelays.j0 k l1 bt970.1 bt970.2.1 bt970.2.2.1 bt970.2.2.2 bt980.2 bt984.1 bt988.2 bt990.1 bt994.1 true)))))))))))
theorem laws_FnDelays.mono_l : ∀ k, (∀ y0 y1 y2 y3 y4 y5 y6 y7 y8 y9 y10, LeO (laws_FnDelays.j0 k y0 y1 y2 y3 y4 y5 y6 y7 y8 y9 y10) (laws_FnDelays.j0 (k + 1) y0 y1 y2 y3 y4 y5 y6 y7 y8 y9 y10)) ∧ (∀ y0 y1 y2 y3 y4 y5 y6 y7, LeO (laws_FnDelays.j1 k y0 y1 y2 y3 y4 y5 y6 y7) (laws_FnDelays.j1 (k + 1) y0 y1 y2 y3 y4 y5 y6 y7)) ∧ (∀ y0, LeO (laws_FnDelays.j3 k y0) (laws_FnDelays.j3 (k + 1) y0)) ∧ (∀ y0 y1 y2 y3 y4 y5 y6, LeO (laws_FnDelays.j2 k y0 y1 y2 y3 y4 y5 y6) (laws_FnDelays.j2 (k + 1) y0 y1 y2 y3 y4 y5 y6))
  | 0 => ⟨fun _ _ _ _ _ _ _ _ _ _ _ r h => by simp [laws_FnDelays.j0] at h, fun _ _ _ _ _ _ _ _ r h => by simp [laws_FnDelays.j1] at h, fun _ r h => by simp [laws_FnDelays.j3] at h, fun _ _ _ _ _ _ _ r h => by simp [laws_FnDelays.j2] at h⟩
  | k + 1 => by
    obtain ⟨ih0, ih1, ih2, ih3⟩ := laws_FnDelays.mono_l k
    refine ⟨?_, ?_, ?_, ?_⟩
    · intro y0 y1 y2 y3 y4 y5 y6 y7 y8 y9 y10
      unfold laws_FnDelays.j0
      repeat' first
      | (with_reducible exact ih0 _ _ _ _ _ _ _ _ _ _ _)
      | (with_reducible exact ih1 _ _ _ _ _ _ _ _)
      | (with_reducible exact ih2 _)
      | (with_reducible exact ih3 _ _ _ _ _ _ _)
      | (with_reducible exact impl_DelaysAfter.mono _ _ _ _ _ _)
      | (with_reducible exact impl_NextDelays.mono _ _ _ _ _)
      | (with_reducible exact impl_RoundsToCalm.mono _ _ _ _ _)
      | (with_reducible exact impl_TotalDelay.mono _ _ _ _ _)
      | (with_reducible exact laws_qInts.mono _ _ _)
      | (with_reducible exact laws_qSum.mono _ _)
      | (with_reducible exact spec_DelaysAfter.mono _ _ _ _ _ _)
      | (with_reducible exact spec_DrawDelaysAfter.mono _ _)
      | (with_reducible exact spec_DrawNextDelays.mono _ _)
      | (with_reducible exact spec_NextDelays.mono _ _ _ _ _)
      | (with_reducible exact spec_RoundsToCalm.mono _ _ _ _ _)
      | (with_reducible exact spec_TotalDelay.mono _ _ _ _ _)
      | (with_reducible exact LeO.refl _)
      | (with_reducible exact LeO.none _)
      | (with_reducible refine LeO.ite ?_ ?_)
      | (with_reducible refine LeO.bind ?_ (fun _ => ?_))
      | exact ih0 _ _ _ _ _ _ _ _ _ _ _
      | exact ih1 _ _ _ _ _ _ _ _
      | exact ih2 _
      | exact ih3 _ _ _ _ _ _ _
      | exact impl_DelaysAfter.mono _ _ _ _ _ _
      | exact impl_NextDelays.mono _ _ _ _ _
      | exact impl_RoundsToCalm.mono _ _ _ _ _
      | exact impl_TotalDelay.mono _ _ _ _ _
      | exact laws_qInts.mono _ _ _
      | exact laws_qSum.mono _ _
      | exact spec_DelaysAfter.mono _ _ _ _ _ _
      | exact spec_DrawDelaysAfter.mono _ _
      | exact spec_DrawNextDelays.mono _ _
      | exact spec_NextDelays.mono _ _ _ _ _
      | exact spec_RoundsToCalm.mono _ _ _ _ _
      | exact spec_TotalDelay.mono _ _ _ _ _
      | exact LeO.none _
      | refine LeO.ite ?_ ?_
      | refine LeO.bind ?_ (fun _ => ?_)
    · intro y0 y1 y2 y3 y4 y5 y6 y7
      unfold laws_FnDelays.j1
      repeat' first
      | (with_reducible exact ih0 _ _ _ _ _ _ _ _ _ _ _)
      | (with_reducible exact ih1 _ _ _ _ _ _ _ _)
      | (with_reducible exact ih2 _)
      | (with_reducible exact ih3 _ _ _ _ _ _ _)
      | (with_reducible exact impl_DelaysAfter.mono _ _ _ _ _ _)
      | (with_reducible exact impl_NextDelays.mono _ _ _ _ _)
      | (with_reducible exact impl_RoundsToCalm.mono _ _ _ _ _)
      | (with_reducible exact impl_TotalDelay.mono _ _ _ _ _)
      | (with_reducible exact laws_qInts.mono _ _ _)
      | (with_reducible exact laws_qSum.mono _ _)
      | (with_reducible exact spec_DelaysAfter.mono _ _ _ _ _ _)
      | (with_reducible exact spec_DrawDelaysAfter.mono _ _)
      | (with_reducible exact spec_DrawNextDelays.mono _ _)
      | (with_reducible exact spec_NextDelays.mono _ _ _ _ _)
      | (with_reducible exact spec_RoundsToCalm.mono _ _ _ _ _)
      | (with_reducible exact spec_TotalDelay.mono _ _ _ _ _)
      | (with_reducible exact LeO.refl _)
      | (with_reducible exact LeO.none _)
      | (with_reducible refine LeO.ite ?_ ?_)
      | (with_reducible refine LeO.bind ?_ (fun _ => ?_))
      | exact ih0 _ _ _ _ _ _ _ _ _ _ _
      | exact ih1 _ _ _ _ _ _ _ _
      | exact ih2 _
      | exact ih3 _ _ _ _ _ _ _
      | exact impl_DelaysAfter.mono _ _ _ _ _ _
      | exact impl_NextDelays.mono _ _ _ _ _
      | exact impl_RoundsToCalm.mono _ _ _ _ _
      | exact impl_TotalDelay.mono _ _ _ _ _
      | exact laws_qInts.mono _ _ _
      | exact laws_qSum.mono _ _
      | exact spec_DelaysAfter.mono _ _ _ _ _ _
      | exact spec_DrawDelaysAfter.mono _ _
      | exact spec_DrawNextDelays.mono _ _
      | exact spec_NextDelays.mono _ _ _ _ _
      | exact spec_RoundsToCalm.mono _ _ _ _ _
      | exact spec_TotalDelay.mono _ _ _ _ _
      | exact LeO.none _
      | refine LeO.ite ?_ ?_
      | refine LeO.bind ?_ (fun _ => ?_)
    · intro y0
      unfold laws_FnDelays.j3
      repeat' first
      | (with_reducible exact ih0 _ _ _ _ _ _ _ _ _ _ _)
      | (with_reducible exact ih1 _ _ _ _ _ _ _ _)
      | (with_reducible exact ih2 _)
      | (with_reducible exact ih3 _ _ _ _ _ _ _)
      | (with_reducible exact impl_DelaysAfter.mono _ _ _ _ _ _)
      | (with_reducible exact impl_NextDelays.mono _ _ _ _ _)
      | (with_reducible exact impl_RoundsToCalm.mono _ _ _ _ _)
      | (with_reducible exact impl_TotalDelay.mono _ _ _ _ _)
      | (with_reducible exact laws_qInts.mono _ _ _)
      | (with_reducible exact laws_qSum.mono _ _)
      | (with_reducible exact spec_DelaysAfter.mono _ _ _ _ _ _)
      | (with_reducible exact spec_DrawDelaysAfter.mono _ _)
      | (with_reducible exact spec_DrawNextDelays.mono _ _)
      | (with_reducible exact spec_NextDelays.mono _ _ _ _ _)
      | (with_reducible exact spec_RoundsToCalm.mono _ _ _ _ _)
      | (with_reducible exact spec_TotalDelay.mono _ _ _ _ _)
      | (with_reducible exact LeO.refl _)
      | (with_reducible exact LeO.none _)
      | (with_reducible refine LeO.ite ?_ ?_)
      | (with_reducible refine LeO.bind ?_ (fun _ => ?_))
      | exact ih0 _ _ _ _ _ _ _ _ _ _ _
      | exact ih1 _ _ _ _ _ _ _ _
      | exact ih2 _
      | exact ih3 _ _ _ _ _ _ _
      | exact impl_DelaysAfter.mono _ _ _ _ _ _
      | exact impl_NextDelays.mono _ _ _ _ _
      | exact impl_RoundsToCalm.mono _ _ _ _ _
      | exact impl_TotalDelay.mono _ _ _ _ _
      | exact laws_qInts.mono _ _ _
      | exact laws_qSum.mono _ _
      | exact spec_DelaysAfter.mono _ _ _ _ _ _
      | exact spec_DrawDelaysAfter.mono _ _
      | exact spec_DrawNextDelays.mono _ _
      | exact spec_NextDelays.mono _ _ _ _ _
      | exact spec_RoundsToCalm.mono _ _ _ _ _
      | exact spec_TotalDelay.mono _ _ _ _ _
      | exact LeO.none _
      | refine LeO.ite ?_ ?_
      | refine LeO.bind ?_ (fun _ => ?_)
    · intro y0 y1 y2 y3 y4 y5 y6
      unfold laws_FnDelays.j2
      repeat' first
      | (with_reducible exact ih0 _ _ _ _ _ _ _ _ _ _ _)
      | (with_reducible exact ih1 _ _ _ _ _ _ _ _)
      | (with_reducible exact ih2 _)
      | (with_reducible exact ih3 _ _ _ _ _ _ _)
      | (with_reducible exact impl_DelaysAfter.mono _ _ _ _ _ _)
      | (with_reducible exact impl_NextDelays.mono _ _ _ _ _)
      | (with_reducible exact impl_RoundsToCalm.mono _ _ _ _ _)
      | (with_reducible exact impl_TotalDelay.mono _ _ _ _ _)
      | (with_reducible exact laws_qInts.mono _ _ _)
      | (with_reducible exact laws_qSum.mono _ _)
      | (with_reducible exact spec_DelaysAfter.mono _ _ _ _ _ _)
      | (with_reducible exact spec_DrawDelaysAfter.mono _ _)
      | (with_reducible exact spec_DrawNextDelays.mono _ _)
      | (with_reducible exact spec_NextDelays.mono _ _ _ _ _)
      | (with_reducible exact spec_RoundsToCalm.mono _ _ _ _ _)
      | (with_reducible exact spec_TotalDelay.mono _ _ _ _ _)
      | (with_reducible exact LeO.refl _)
      | (with_reducible exact LeO.none _)
      | (with_reducible refine LeO.ite ?_ ?_)
      | (with_reducible refine LeO.bind ?_ (fun _ => ?_))
      | exact ih0 _ _ _ _ _ _ _ _ _ _ _
      | exact ih1 _ _ _ _ _ _ _ _
      | exact ih2 _
      | exact ih3 _ _ _ _ _ _ _
      | exact impl_DelaysAfter.mono _ _ _ _ _ _
      | exact impl_NextDelays.mono _ _ _ _ _
      | exact impl_RoundsToCalm.mono _ _ _ _ _
      | exact impl_TotalDelay.mono _ _ _ _ _
      | exact laws_qInts.mono _ _ _
      | exact laws_qSum.mono _ _
      | exact spec_DelaysAfter.mono _ _ _ _ _ _
      | exact spec_DrawDelaysAfter.mono _ _
      | exact spec_DrawNextDelays.mono _ _
      | exact spec_NextDelays.mono _ _ _ _ _
      | exact spec_RoundsToCalm.mono _ _ _ _ _
      | exact spec_TotalDelay.mono _ _ _ _ _
      | exact LeO.none _
      | refine LeO.ite ?_ ?_
      | refine LeO.bind ?_ (fun _ => ?_)
theorem laws_FnDelays.mono : ∀ a0 a1 k, LeO (laws_FnDelays.f k a0 a1) (laws_FnDelays.f (k + 1) a0 a1) := by
  intro a0 a1 k
  obtain ⟨ih0, ih1, ih2, ih3⟩ := laws_FnDelays.mono_l k
  unfold laws_FnDelays.f
  repeat' first
      | (with_reducible exact ih0 _ _ _ _ _ _ _ _ _ _ _)
      | (with_reducible exact ih1 _ _ _ _ _ _ _ _)
      | (with_reducible exact ih2 _)
      | (with_reducible exact ih3 _ _ _ _ _ _ _)
      | (with_reducible exact impl_DelaysAfter.mono _ _ _ _ _ _)
      | (with_reducible exact impl_NextDelays.mono _ _ _ _ _)
      | (with_reducible exact impl_RoundsToCalm.mono _ _ _ _ _)
      | (with_reducible exact impl_TotalDelay.mono _ _ _ _ _)
      | (with_reducible exact laws_qInts.mono _ _ _)
      | (with_reducible exact laws_qSum.mono _ _)
      | (with_reducible exact spec_DelaysAfter.mono _ _ _ _ _ _)
      | (with_reducible exact spec_DrawDelaysAfter.mono _ _)
      | (with_reducible exact spec_DrawNextDelays.mono _ _)
      | (with_reducible exact spec_NextDelays.mono _ _ _ _ _)
      | (with_reducible exact spec_RoundsToCalm.mono _ _ _ _ _)
      | (with_reducible exact spec_TotalDelay.mono _ _ _ _ _)
      | (with_reducible exact LeO.refl _)
      | (with_reducible exact LeO.none _)
      | (with_reducible refine LeO.ite ?_ ?_)
      | (with_reducible refine LeO.bind ?_ (fun _ => ?_))
      | exact ih0 _ _ _ _ _ _ _ _ _ _ _
      | exact ih1 _ _ _ _ _ _ _ _
      | exact ih2 _
      | exact ih3 _ _ _ _ _ _ _
      | exact impl_DelaysAfter.mono _ _ _ _ _ _
      | exact impl_NextDelays.mono _ _ _ _ _
      | exact impl_RoundsToCalm.mono _ _ _ _ _
      | exact impl_TotalDelay.mono _ _ _ _ _
      | exact laws_qInts.mono _ _ _
      | exact laws_qSum.mono _ _
      | exact spec_DelaysAfter.mono _ _ _ _ _ _
      | exact spec_DrawDelaysAfter.mono _ _
      | exact spec_DrawNextDelays.mono _ _
      | exact spec_NextDelays.mono _ _ _ _ _
      | exact spec_RoundsToCalm.mono _ _ _ _ _
      | exact spec_TotalDelay.mono _ _ _ _ _
      | exact LeO.none _
      | refine LeO.ite ?_ ?_
      | refine LeO.bind ?_ (fun _ => ?_)
set_option maxHeartbeats 8000000 in
set_option maxRecDepth 100000 in
theorem laws_FnDelays.calls (k : Nat) (A0 : Option Addr) (c0 : Nat) (l0 : List Int) (A1 : Option Addr) (c1 : Nat) (l1 : List Int) (r : Bool) (w : World) (hr0 : Kd.C (Kd.int .u8) w A0 l0.length l0) (hc0 : l0.length ≤ c0) (hr1 : Kd.C (Kd.int .u8) w A1 l1.length l1) (hc1 : l1.length ≤ c1) (h : laws_FnDelays.f k l0 l1 = some r) :
    Calls Try.prog 12 #[.slice A0 l0.length c0, .slice A1 l1.length c1] w fun e w' => e = .returned (.bool r) ∧ Below w.heap.size w w' := by
  have HR0 := Aside0.mk hr0
  have HC0 := Aside0.mk hc0
  clear hr0 hc0
  have HR1 := Aside0.mk hr1
  have HC1 := Aside0.mk hc1
  clear hr1 hc1
  have HB := Aside0.mk (Below.refl w.heap.size w)
  have H : (if (wrap64 ((l0.length : Int) + (l1.length : Int))) > 1048576 then (some true) else ((spec_DrawNextDelays.f k l0).bind fun bt970 => ((impl_NextDelays.f k bt970.1 bt970.2.1 bt970.2.2.1 bt970.2.2.2).bind fun bt980 => ((spec_NextDelays.f k bt970.1 bt970.2.1 bt970.2.2.1 bt970.2.2.2).bind fun bt984 => ((impl_RoundsToCalm.f k bt970.1 bt970.2.1 bt970.2.2.1 bt970.2.2.2).bind fun bt988 => ((spec_RoundsToCalm.f k bt970.1 bt970.2.1 bt970.2.2.1 bt970.2.2.2).bind fun bt990 => ((impl_TotalDelay.f k bt970.1 bt970.2.1 bt970.2.2.1 bt970.2.2.2).bind fun bt992 => ((spec_TotalDelay.f k bt970.1 bt970.2.1 bt970.2.2.1 bt970.2.2.2).bind fun bt994 => (if (bt980.2 != bt984.2) = true then (laws_FnDelays.j0 k l1 bt970.1 bt970.2.1 bt970.2.2.1 bt970.2.2.2 bt980.2 bt984.1 bt988.2 bt990.1 bt994.1 true) else ((laws_qInts.f k bt980.1 bt984.1).bind fun t996 => (if t996 = true then (if (bt988.2 != bt990.2) = true then (laws_FnDelays.j0 k l1 bt970.1 bt970.2.1 bt970.2.2.1 bt970.2.2.2 bt980.2 bt984.1 bt988.2 bt990.1 bt994.1 true) else (if bt988.1 = bt990.1 then (if (bt992.2 != bt994.2) = true then (laws_FnDelays.j0 k l1 bt970.1 bt970.2.1 bt970.2.2.1 bt970.2.2.2 bt980.2 bt984.1 bt988.2 bt990.1 bt994.1 true) else (if bt992.1 = bt994.1 then (if (bt992.2 != bt988.2) = true then (laws_FnDelays.j0 k l1 bt970.1 bt970.2.1 bt970.2.2.1 bt970.2.2.2 bt980.2 bt984.1 bt988.2 bt990.1 bt994.1 true) else (if bt988.2 = true then (laws_FnDelays.j0 k l1 bt970.1 bt970.2.1 bt970.2.2.1 bt970.2.2.2 bt980.2 bt984.1 bt988.2 bt990.1 bt994.1 (!bt980.2)) else (laws_FnDelays.j0 k l1 bt970.1 bt970.2.1 bt970.2.2.1 bt970.2.2.2 bt980.2 bt984.1 bt988.2 bt990.1 bt994.1 false))) else (laws_FnDelays.j0 k l1 bt970.1 bt970.2.1 bt970.2.2.1 bt970.2.2.2 bt980.2 bt984.1 bt988.2 bt990.1 bt994.1 true))) else (laws_FnDelays.j0 k l1 bt970.1 bt970.2.1 bt970.2.2.1 bt970.2.2.2 bt980.2 bt984.1 bt988.2 bt990.1 bt994.1 true))) else (laws_FnDelays.j0 k l1 bt970.1 bt970.2.1 bt970.2.2.1 bt970.2.2.2 bt980.2 bt984.1 bt988.2 bt990.1 bt994.1 true)))))))))))) = some r := h
  clear h
  by_cases c3 : (wrap64 ((l0.length : Int) + (l1.length : Int))) > 1048576
  · rw [if_pos c3] at H
    have c3b0 : decide (1048576 < (wrap64 ((l0.length : Int) + (l1.length : Int)))) = true := decide_eq_true c3
    clear c3
    obtain rfl := Option.some.inj H
    go_enter Try.func12, Try.ntmps12
    go_wp2
    go_ret
    exact ⟨by first | rfl | (simp [errW_none, errW_some] <;> rfl) | (simp [*, errW_none, errW_some] <;> rfl), by repeat (first | (with_reducible first | exact HB.out | apply below_alloc | apply pw_below_drewN | apply below_drew1) | exact HB.out)⟩
  · as_aux_lemma =>
    rw [if_neg c3] at H
    have c3b0 : decide (1048576 < (wrap64 ((l0.length : Int) + (l1.length : Int)))) = false := decide_eq_false c3
    clear c3
    replace H := Option.bind_eq_some_iff.mp H
    obtain ⟨⟨t970, t971, t972, t973⟩, A40, H⟩ := H
    replace H : ((impl_NextDelays.f k t970 t971 t972 t973).bind fun bt980 => ((spec_NextDelays.f k t970 t971 t972 t973).bind fun bt984 => ((impl_RoundsToCalm.f k t970 t971 t972 t973).bind fun bt988 => ((spec_RoundsToCalm.f k t970 t971 t972 t973).bind fun bt990 => ((impl_TotalDelay.f k t970 t971 t972 t973).bind fun bt992 => ((spec_TotalDelay.f k t970 t971 t972 t973).bind fun bt994 => (if (bt980.2 != bt984.2) = true then (laws_FnDelays.j0 k l1 t970 t971 t972 t973 bt980.2 bt984.1 bt988.2 bt990.1 bt994.1 true) else ((laws_qInts.f k bt980.1 bt984.1).bind fun t996 => (if t996 = true then (if (bt988.2 != bt990.2) = true then (laws_FnDelays.j0 k l1 t970 t971 t972 t973 bt980.2 bt984.1 bt988.2 bt990.1 bt994.1 true) else (if bt988.1 = bt990.1 then (if (bt992.2 != bt994.2) = true then (laws_FnDelays.j0 k l1 t970 t971 t972 t973 bt980.2 bt984.1 bt988.2 bt990.1 bt994.1 true) else (if bt992.1 = bt994.1 then (if (bt992.2 != bt988.2) = true then (laws_FnDelays.j0 k l1 t970 t971 t972 t973 bt980.2 bt984.1 bt988.2 bt990.1 bt994.1 true) else (if bt988.2 = true then (laws_FnDelays.j0 k l1 t970 t971 t972 t973 bt980.2 bt984.1 bt988.2 bt990.1 bt994.1 (!bt980.2)) else (laws_FnDelays.j0 k l1 t970 t971 t972 t973 bt980.2 bt984.1 bt988.2 bt990.1 bt994.1 false))) else (laws_FnDelays.j0 k l1 t970 t971 t972 t973 bt980.2 bt984.1 bt988.2 bt990.1 bt994.1 true))) else (laws_FnDelays.j0 k l1 t970 t971 t972 t973 bt980.2 bt984.1 bt988.2 bt990.1 bt994.1 true))) else (laws_FnDelays.j0 k l1 t970 t971 t972 t973 bt980.2 bt984.1 bt988.2 bt990.1 bt994.1 true)))))))))) = some r := H
    have A4 := Aside0.mk A40
    clear A40
    replace H := Option.bind_eq_some_iff.mp H
    obtain ⟨⟨t980, t981⟩, A50, H⟩ := H
    replace H : ((spec_NextDelays.f k t970 t971 t972 t973).bind fun bt984 => ((impl_RoundsToCalm.f k t970 t971 t972 t973).bind fun bt988 => ((spec_RoundsToCalm.f k t970 t971 t972 t973).bind fun bt990 => ((impl_TotalDelay.f k t970 t971 t972 t973).bind fun bt992 => ((spec_TotalDelay.f k t970 t971 t972 t973).bind fun bt994 => (if (t981 != bt984.2) = true then (laws_FnDelays.j0 k l1 t970 t971 t972 t973 t981 bt984.1 bt988.2 bt990.1 bt994.1 true) else ((laws_qInts.f k t980 bt984.1).bind fun t996 => (if t996 = true then (if (bt988.2 != bt990.2) = true then (laws_FnDelays.j0 k l1 t970 t971 t972 t973 t981 bt984.1 bt988.2 bt990.1 bt994.1 true) else (if bt988.1 = bt990.1 then (if (bt992.2 != bt994.2) = true then (laws_FnDelays.j0 k l1 t970 t971 t972 t973 t981 bt984.1 bt988.2 bt990.1 bt994.1 true) else (if bt992.1 = bt994.1 then (if (bt992.2 != bt988.2) = true then (laws_FnDelays.j0 k l1 t970 t971 t972 t973 t981 bt984.1 bt988.2 bt990.1 bt994.1 true) else (if bt988.2 = true then (laws_FnDelays.j0 k l1 t970 t971 t972 t973 t981 bt984.1 bt988.2 bt990.1 bt994.1 (!t981)) else (laws_FnDelays.j0 k l1 t970 t971 t972 t973 t981 bt984.1 bt988.2 bt990.1 bt994.1 false))) else (laws_FnDelays.j0 k l1 t970 t971 t972 t973 t981 bt984.1 bt988.2 bt990.1 bt994.1 true))) else (laws_FnDelays.j0 k l1 t970 t971 t972 t973 t981 bt984.1 bt988.2 bt990.1 bt994.1 true))) else (laws_FnDelays.j0 k l1 t970 t971 t972 t973 t981 bt984.1 bt988.2 bt990.1 bt994.1 true))))))))) = some r := H
    have A5 := Aside0.mk A50
    clear A50
    replace H := Option.bind_eq_some_iff.mp H
    obtain ⟨⟨t984, t985⟩, A60, H⟩ := H
    replace H : ((impl_RoundsToCalm.f k t970 t971 t972 t973).bind fun bt988 => ((spec_RoundsToCalm.f k t970 t971 t972 t973).bind fun bt990 => ((impl_TotalDelay.f k t970 t971 t972 t973).bind fun bt992 => ((spec_TotalDelay.f k t970 t971 t972 t973).bind fun bt994 => (if (t981 != t985) = true then (laws_FnDelays.j0 k l1 t970 t971 t972 t973 t981 t984 bt988.2 bt990.1 bt994.1 true) else ((laws_qInts.f k t980 t984).bind fun t996 => (if t996 = true then (if (bt988.2 != bt990.2) = true then (laws_FnDelays.j0 k l1 t970 t971 t972 t973 t981 t984 bt988.2 bt990.1 bt994.1 true) else (if bt988.1 = bt990.1 then (if (bt992.2 != bt994.2) = true then (laws_FnDelays.j0 k l1 t970 t971 t972 t973 t981 t984 bt988.2 bt990.1 bt994.1 true) else (if bt992.1 = bt994.1 then (if (bt992.2 != bt988.2) = true then (laws_FnDelays.j0 k l1 t970 t971 t972 t973 t981 t984 bt988.2 bt990.1 bt994.1 true) else (if bt988.2 = true then (laws_FnDelays.j0 k l1 t970 t971 t972 t973 t981 t984 bt988.2 bt990.1 bt994.1 (!t981)) else (laws_FnDelays.j0 k l1 t970 t971 t972 t973 t981 t984 bt988.2 bt990.1 bt994.1 false))) else (laws_FnDelays.j0 k l1 t970 t971 t972 t973 t981 t984 bt988.2 bt990.1 bt994.1 true))) else (laws_FnDelays.j0 k l1 t970 t971 t972 t973 t981 t984 bt988.2 bt990.1 bt994.1 true))) else (laws_FnDelays.j0 k l1 t970 t971 t972 t973 t981 t984 bt988.2 bt990.1 bt994.1 true)))))))) = some r := H
    have A6 := Aside0.mk A60
    clear A60
    replace H := Option.bind_eq_some_iff.mp H
    obtain ⟨⟨t988, t989⟩, A70, H⟩ := H
    replace H : ((spec_RoundsToCalm.f k t970 t971 t972 t973).bind fun bt990 => ((impl_TotalDelay.f k t970 t971 t972 t973).bind fun bt992 => ((spec_TotalDelay.f k t970 t971 t972 t973).bind fun bt994 => (if (t981 != t985) = true then (laws_FnDelays.j0 k l1 t970 t971 t972 t973 t981 t984 t989 bt990.1 bt994.1 true) else ((laws_qInts.f k t980 t984).bind fun t996 => (if t996 = true then (if (t989 != bt990.2) = true then (laws_FnDelays.j0 k l1 t970 t971 t972 t973 t981 t984 t989 bt990.1 bt994.1 true) else (if t988 = bt990.1 then (if (bt992.2 != bt994.2) = true then (laws_FnDelays.j0 k l1 t970 t971 t972 t973 t981 t984 t989 bt990.1 bt994.1 true) else (if bt992.1 = bt994.1 then (if (bt992.2 != t989) = true then (laws_FnDelays.j0 k l1 t970 t971 t972 t973 t981 t984 t989 bt990.1 bt994.1 true) else (if t989 = true then (laws_FnDelays.j0 k l1 t970 t971 t972 t973 t981 t984 t989 bt990.1 bt994.1 (!t981)) else (laws_FnDelays.j0 k l1 t970 t971 t972 t973 t981 t984 t989 bt990.1 bt994.1 false))) else (laws_FnDelays.j0 k l1 t970 t971 t972 t973 t981 t984 t989 bt990.1 bt994.1 true))) else (laws_FnDelays.j0 k l1 t970 t971 t972 t973 t981 t984 t989 bt990.1 bt994.1 true))) else (laws_FnDelays.j0 k l1 t970 t971 t972 t973 t981 t984 t989 bt990.1 bt994.1 true))))))) = some r := H
    have A7 := Aside0.mk A70
    clear A70
    replace H := Option.bind_eq_some_iff.mp H
    obtain ⟨⟨t990, t991⟩, A80, H⟩ := H
    replace H : ((impl_TotalDelay.f k t970 t971 t972 t973).bind fun bt992 => ((spec_TotalDelay.f k t970 t971 t972 t973).bind fun bt994 => (if (t981 != t985) = true then (laws_FnDelays.j0 k l1 t970 t971 t972 t973 t981 t984 t989 t990 bt994.1 true) else ((laws_qInts.f k t980 t984).bind fun t996 => (if t996 = true then (if (t989 != t991) = true then (laws_FnDelays.j0 k l1 t970 t971 t972 t973 t981 t984 t989 t990 bt994.1 true) else (if t988 = t990 then (if (bt992.2 != bt994.2) = true then (laws_FnDelays.j0 k l1 t970 t971 t972 t973 t981 t984 t989 t990 bt994.1 true) else (if bt992.1 = bt994.1 then (if (bt992.2 != t989) = true then (laws_FnDelays.j0 k l1 t970 t971 t972 t973 t981 t984 t989 t990 bt994.1 true) else (if t989 = true then (laws_FnDelays.j0 k l1 t970 t971 t972 t973 t981 t984 t989 t990 bt994.1 (!t981)) else (laws_FnDelays.j0 k l1 t970 t971 t972 t973 t981 t984 t989 t990 bt994.1 false))) else (laws_FnDelays.j0 k l1 t970 t971 t972 t973 t981 t984 t989 t990 bt994.1 true))) else (laws_FnDelays.j0 k l1 t970 t971 t972 t973 t981 t984 t989 t990 bt994.1 true))) else (laws_FnDelays.j0 k l1 t970 t971 t972 t973 t981 t984 t989 t990 bt994.1 true)))))) = some r := H
    have A8 := Aside0.mk A80
    clear A80
    replace H := Option.bind_eq_some_iff.mp H
    obtain ⟨⟨t992, t993⟩, A90, H⟩ := H
    replace H : ((spec_TotalDelay.f k t970 t971 t972 t973).bind fun bt994 => (if (t981 != t985) = true then (laws_FnDelays.j0 k l1 t970 t971 t972 t973 t981 t984 t989 t990 bt994.1 true) else ((laws_qInts.f k t980 t984).bind fun t996 => (if t996 = true then (if (t989 != t991) = true then (laws_FnDelays.j0 k l1 t970 t971 t972 t973 t981 t984 t989 t990 bt994.1 true) else (if t988 = t990 then (if (t993 != bt994.2) = true then (laws_FnDelays.j0 k l1 t970 t971 t972 t973 t981 t984 t989 t990 bt994.1 true) else (if t992 = bt994.1 then (if (t993 != t989) = true then (laws_FnDelays.j0 k l1 t970 t971 t972 t973 t981 t984 t989 t990 bt994.1 true) else (if t989 = true then (laws_FnDelays.j0 k l1 t970 t971 t972 t973 t981 t984 t989 t990 bt994.1 (!t981)) else (laws_FnDelays.j0 k l1 t970 t971 t972 t973 t981 t984 t989 t990 bt994.1 false))) else (laws_FnDelays.j0 k l1 t970 t971 t972 t973 t981 t984 t989 t990 bt994.1 true))) else (laws_FnDelays.j0 k l1 t970 t971 t972 t973 t981 t984 t989 t990 bt994.1 true))) else (laws_FnDelays.j0 k l1 t970 t971 t972 t973 t981 t984 t989 t990 bt994.1 true))))) = some r := H
    have A9 := Aside0.mk A90
    clear A90
    replace H := Option.bind_eq_some_iff.mp H
    obtain ⟨⟨t994, t995⟩, A100, H⟩ := H
    replace H : (if (t981 != t985) = true then (laws_FnDelays.j0 k l1 t970 t971 t972 t973 t981 t984 t989 t990 t994 true) else ((laws_qInts.f k t980 t984).bind fun t996 => (if t996 = true then (if (t989 != t991) = true then (laws_FnDelays.j0 k l1 t970 t971 t972 t973 t981 t984 t989 t990 t994 true) else (if t988 = t990 then (if (t993 != t995) = true then (laws_FnDelays.j0 k l1 t970 t971 t972 t973 t981 t984 t989 t990 t994 true) else (if t992 = t994 then (if (t993 != t989) = true then (laws_FnDelays.j0 k l1 t970 t971 t972 t973 t981 t984 t989 t990 t994 true) else (if t989 = true then (laws_FnDelays.j0 k l1 t970 t971 t972 t973 t981 t984 t989 t990 t994 (!t981)) else (laws_FnDelays.j0 k l1 t970 t971 t972 t973 t981 t984 t989 t990 t994 false))) else (laws_FnDelays.j0 k l1 t970 t971 t972 t973 t981 t984 t989 t990 t994 true))) else (laws_FnDelays.j0 k l1 t970 t971 t972 t973 t981 t984 t989 t990 t994 true))) else (laws_FnDelays.j0 k l1 t970 t971 t972 t973 t981 t984 t989 t990 t994 true)))) = some r := H
    have A10 := Aside0.mk A100
    clear A100
    have HC11 := Aside0.mk H
    clear H
    go_enter Try.func12, Try.ntmps12
    go_upto_region 10 with (first | ((with_reducible refine gate_callee (f := 41) rfl ?_); refine goesL_ (some 44) rfl rfl Try.func41 (by kernel_rfl) rfl #[.slice A0 l0.length c0] rfl (by (try simp only [List.map_toArray, List.map_cons, List.map_nil]); first | done | rfl | (simp only [List.length_drop, List.length_take]; rfl)) ?_; (with_reducible refine (spec_DrawNextDelays.calls k _ _ l0 t970 t971 t972 t973 _ ?side1 ?side2 A4.out).mono ?_); (case side1 => repeat (first | exact HR0.out | (with_reducible refine Kd.C_alloc ?_ _) | (with_reducible refine Kd.C_drewN ?_ _) | (with_reducible refine Kd.C_drew ?_))); (case side2 => exact HC0.out); rintro e w12 ⟨v974, v976, v978, rfl, ho0, ho1, ho2, hb⟩; refine ⟨_, rfl, ?_⟩; have n0_ := Aside0.mk (Kd.S_lower ho0 (below_size (by repeat (first | (with_reducible first | exact HB.out | apply below_alloc | apply pw_below_drewN | apply below_drew1) | exact HB.out)))); have n1_ := Aside0.mk (Kd.Q_lower ho1 (below_size (by repeat (first | (with_reducible first | exact HB.out | apply below_alloc | apply pw_below_drewN | apply below_drew1) | exact HB.out)))); have n2_ := Aside0.mk (Kd.R_lower ho2 (below_size (by repeat (first | (with_reducible first | exact HB.out | apply below_alloc | apply pw_below_drewN | apply below_drew1) | exact HB.out)))); have n3_ := Aside0.mk (below_step (by repeat (first | (with_reducible first | exact HB.out | apply below_alloc | apply pw_below_drewN | apply below_drew1) | exact HB.out)) hb); clear HB; have HO975 := n0_; have HO977 := n1_; have HO979 := n2_; have HB := n3_; clear n0_ n1_ n2_ n3_; (try clear hb); (try clear hb2); (try clear hk); (try clear hi); (try clear ho0); (try clear ho1); (try clear ho2); obtain ⟨Ao13, co13, eo13⟩ := Kd.S_slice HO975.out; subst eo13; obtain ⟨Ao14, co14, eo14, _⟩ := Kd.Q_slice HO977.out; subst eo14; obtain ⟨Ao15, co15, eo15⟩ := Kd.R_slice HO979.out; subst eo15) | ((with_reducible refine gate_callee (f := 31) rfl ?_); refine goesL_ (some 54) rfl rfl Try.func31 (by kernel_rfl) rfl #[.slice Ao13 t970.length co13, .slice Ao14 t971.length co14, .int .i64 t972, .slice Ao15 t973.length co15] rfl (by (try simp only [List.map_toArray, List.map_cons, List.map_nil]); first | done | rfl | (simp only [List.length_drop, List.length_take]; rfl)) ?_; (with_reducible refine (impl_NextDelays.calls k _ _ t970 _ _ t971 t972 _ _ t973 t980 t981 _ ?side1 ?side2 ?side3 ?side4 ?side5 ?side6 A5.out).mono ?_); (case side1 => repeat (first | exact (Kd.S_reads' HO975.out).2.2 | (with_reducible refine Kd.C_alloc ?_ _) | (with_reducible refine Kd.C_drewN ?_ _) | (with_reducible refine Kd.C_drew ?_))); (case side2 => exact (Kd.S_reads' HO975.out).2.1); (case side3 => repeat (first | exact (Kd.Q_reads' HO977.out).2.2 | (with_reducible refine Kd.C_alloc ?_ _) | (with_reducible refine Kd.C_drewN ?_ _) | (with_reducible refine Kd.C_drew ?_))); (case side4 => exact (Kd.Q_reads' HO977.out).2.1); (case side5 => repeat (first | exact (Kd.R_reads' HO979.out).2.2 | (with_reducible refine Kd.C_alloc ?_ _) | (with_reducible refine Kd.C_drewN ?_ _) | (with_reducible refine Kd.C_drew ?_))); (case side6 => exact (Kd.R_reads' HO979.out).2.1); rintro e w16 ⟨v982, rfl, ho0, hb⟩; refine ⟨_, rfl, ?_⟩; have n0_ := Aside0.mk (Kd.S_elder' (by (with_reducible repeat (first | apply Kd.S_alloc | apply Kd.S_drewN | apply Kd.S_drew)); exact HO975.out) (Kd.R_base ho0) hb); have n1_ := Aside0.mk (Kd.Q_elder' (by (with_reducible repeat (first | apply Kd.Q_alloc | apply Kd.Q_drewN | apply Kd.Q_drew)); exact HO977.out) (Kd.R_base ho0) hb); have n2_ := Aside0.mk (Kd.R_elder' (by (with_reducible repeat (first | apply Kd.R_alloc | apply Kd.R_drewN | apply Kd.R_drew)); exact HO979.out) (Kd.R_base ho0) hb); have n3_ := Aside0.mk (Kd.R_lower (Kd.R_new' (Kd.R_new' ho0 (Kd.Q_lt (by (with_reducible repeat (first | apply Kd.Q_alloc | apply Kd.Q_drewN | apply Kd.Q_drew)); exact HO977.out))) (Kd.R_lt (by (with_reducible repeat (first | apply Kd.R_alloc | apply Kd.R_drewN | apply Kd.R_drew)); exact HO979.out))) (below_size (by repeat (first | (with_reducible first | exact HB.out | apply below_alloc | apply pw_below_drewN | apply below_drew1) | exact HB.out)))); have n4_ := Aside0.mk (below_step (by repeat (first | (with_reducible first | exact HB.out | apply below_alloc | apply pw_below_drewN | apply below_drew1) | exact HB.out)) hb); clear HO975; clear HO977; clear HO979; clear HB; have HO975 := n0_; have HO977 := n1_; have HO979 := n2_; have HO983 := n3_; have HB := n4_; clear n0_ n1_ n2_ n3_ n4_; (try clear hb); (try clear hb2); (try clear hk); (try clear hi); (try clear ho0)) | ((with_reducible refine gate_callee (f := 30) rfl ?_); refine goesL_ (some 62) rfl rfl Try.func30 (by kernel_rfl) rfl #[.slice Ao13 t970.length co13, .slice Ao14 t971.length co14, .int .i64 t972, .slice Ao15 t973.length co15] rfl (by (try simp only [List.map_toArray, List.map_cons, List.map_nil]); first | done | rfl | (simp only [List.length_drop, List.length_take]; rfl)) ?_; (with_reducible refine (spec_NextDelays.calls k _ _ t970 _ _ t971 t972 _ _ t973 t984 t985 _ ?side1 ?side2 ?side3 ?side4 ?side5 ?side6 A6.out).mono ?_); (case side1 => repeat (first | exact (Kd.S_reads' HO975.out).2.2 | (with_reducible refine Kd.C_alloc ?_ _) | (with_reducible refine Kd.C_drewN ?_ _) | (with_reducible refine Kd.C_drew ?_))); (case side2 => exact (Kd.S_reads' HO975.out).2.1); (case side3 => repeat (first | exact (Kd.Q_reads' HO977.out).2.2 | (with_reducible refine Kd.C_alloc ?_ _) | (with_reducible refine Kd.C_drewN ?_ _) | (with_reducible refine Kd.C_drew ?_))); (case side4 => exact (Kd.Q_reads' HO977.out).2.1); (case side5 => repeat (first | exact (Kd.R_reads' HO979.out).2.2 | (with_reducible refine Kd.C_alloc ?_ _) | (with_reducible refine Kd.C_drewN ?_ _) | (with_reducible refine Kd.C_drew ?_))); (case side6 => exact (Kd.R_reads' HO979.out).2.1); rintro e w17 ⟨v986, rfl, ho0, hb⟩; refine ⟨_, rfl, ?_⟩; have n0_ := Aside0.mk (Kd.S_elder' (by (with_reducible repeat (first | apply Kd.S_alloc | apply Kd.S_drewN | apply Kd.S_drew)); exact HO975.out) (Kd.R_base ho0) hb); have n1_ := Aside0.mk (Kd.Q_elder' (by (with_reducible repeat (first | apply Kd.Q_alloc | apply Kd.Q_drewN | apply Kd.Q_drew)); exact HO977.out) (Kd.R_base ho0) hb); have n2_ := Aside0.mk (Kd.R_elder' (by (with_reducible repeat (first | apply Kd.R_alloc | apply Kd.R_drewN | apply Kd.R_drew)); exact HO979.out) (Kd.R_base ho0) hb); have n3_ := Aside0.mk (Kd.R_elder' (by (with_reducible repeat (first | apply Kd.R_alloc | apply Kd.R_drewN | apply Kd.R_drew)); exact HO983.out) (Kd.R_base ho0) hb); have n4_ := Aside0.mk (Kd.R_lower (Kd.R_new' (Kd.R_new' (Kd.R_new' ho0 (Kd.Q_lt (by (with_reducible repeat (first | apply Kd.Q_alloc | apply Kd.Q_drewN | apply Kd.Q_drew)); exact HO977.out))) (Kd.R_lt (by (with_reducible repeat (first | apply Kd.R_alloc | apply Kd.R_drewN | apply Kd.R_drew)); exact HO979.out))) (Kd.R_lt (by (with_reducible repeat (first | apply Kd.R_alloc | apply Kd.R_drewN | apply Kd.R_drew)); exact HO983.out))) (below_size (by repeat (first | (with_reducible first | exact HB.out | apply below_alloc | apply pw_below_drewN | apply below_drew1) | exact HB.out)))); have n5_ := Aside0.mk (below_step (by repeat (first | (with_reducible first | exact HB.out | apply below_alloc | apply pw_below_drewN | apply below_drew1) | exact HB.out)) hb); clear HO975; clear HO977; clear HO979; clear HO983; clear HB; have HO975 := n0_; have HO977 := n1_; have HO979 := n2_; have HO983 := n3_; have HO987 := n4_; have HB := n5_; clear n0_ n1_ n2_ n3_ n4_ n5_; (try clear hb); (try clear hb2); (try clear hk); (try clear hi); (try clear ho0)) | ((with_reducible refine gate_callee (f := 36) rfl ?_); refine goesL_ (some 70) rfl rfl Try.func36 (by kernel_rfl) rfl #[.slice Ao13 t970.length co13, .slice Ao14 t971.length co14, .int .i64 t972, .slice Ao15 t973.length co15] rfl (by (try simp only [List.map_toArray, List.map_cons, List.map_nil]); first | done | rfl | (simp only [List.length_drop, List.length_take]; rfl)) ?_; (with_reducible refine (impl_RoundsToCalm.calls k _ _ t970 _ _ t971 t972 _ _ t973 t988 t989 _ ?side1 ?side2 ?side3 ?side4 ?side5 ?side6 A7.out).mono ?_); (case side1 => repeat (first | exact (Kd.S_reads' HO975.out).2.2 | (with_reducible refine Kd.C_alloc ?_ _) | (with_reducible refine Kd.C_drewN ?_ _) | (with_reducible refine Kd.C_drew ?_))); (case side2 => exact (Kd.S_reads' HO975.out).2.1); (case side3 => repeat (first | exact (Kd.Q_reads' HO977.out).2.2 | (with_reducible refine Kd.C_alloc ?_ _) | (with_reducible refine Kd.C_drewN ?_ _) | (with_reducible refine Kd.C_drew ?_))); (case side4 => exact (Kd.Q_reads' HO977.out).2.1); (case side5 => repeat (first | exact (Kd.R_reads' HO979.out).2.2 | (with_reducible refine Kd.C_alloc ?_ _) | (with_reducible refine Kd.C_drewN ?_ _) | (with_reducible refine Kd.C_drew ?_))); (case side6 => exact (Kd.R_reads' HO979.out).2.1); rintro e w18 ⟨rfl, hb⟩; refine ⟨_, rfl, ?_⟩; have n0_ := Aside0.mk (Kd.S_below (by (with_reducible repeat (first | apply Kd.S_alloc | apply Kd.S_drewN | apply Kd.S_drew)); exact HO975.out) hb); have n1_ := Aside0.mk (Kd.Q_below (by (with_reducible repeat (first | apply Kd.Q_alloc | apply Kd.Q_drewN | apply Kd.Q_drew)); exact HO977.out) hb); have n2_ := Aside0.mk (Kd.R_below (by (with_reducible repeat (first | apply Kd.R_alloc | apply Kd.R_drewN | apply Kd.R_drew)); exact HO979.out) hb); have n3_ := Aside0.mk (Kd.R_below (by (with_reducible repeat (first | apply Kd.R_alloc | apply Kd.R_drewN | apply Kd.R_drew)); exact HO983.out) hb); have n4_ := Aside0.mk (Kd.R_below (by (with_reducible repeat (first | apply Kd.R_alloc | apply Kd.R_drewN | apply Kd.R_drew)); exact HO987.out) hb); have n5_ := Aside0.mk (below_step (by repeat (first | (with_reducible first | exact HB.out | apply below_alloc | apply pw_below_drewN | apply below_drew1) | exact HB.out)) hb); clear HO975; clear HO977; clear HO979; clear HO983; clear HO987; clear HB; have HO975 := n0_; have HO977 := n1_; have HO979 := n2_; have HO983 := n3_; have HO987 := n4_; have HB := n5_; clear n0_ n1_ n2_ n3_ n4_ n5_; (try clear hb); (try clear hb2); (try clear hk); (try clear hi)) | ((with_reducible refine gate_callee (f := 35) rfl ?_); refine goesL_ (some 78) rfl rfl Try.func35 (by kernel_rfl) rfl #[.slice Ao13 t970.length co13, .slice Ao14 t971.length co14, .int .i64 t972, .slice Ao15 t973.length co15] rfl (by (try simp only [List.map_toArray, List.map_cons, List.map_nil]); first | done | rfl | (simp only [List.length_drop, List.length_take]; rfl)) ?_; (with_reducible refine (spec_RoundsToCalm.calls k _ _ t970 _ _ t971 t972 _ _ t973 t990 t991 _ ?side1 ?side2 ?side3 ?side4 ?side5 ?side6 A8.out).mono ?_); (case side1 => repeat (first | exact (Kd.S_reads' HO975.out).2.2 | (with_reducible refine Kd.C_alloc ?_ _) | (with_reducible refine Kd.C_drewN ?_ _) | (with_reducible refine Kd.C_drew ?_))); (case side2 => exact (Kd.S_reads' HO975.out).2.1); (case side3 => repeat (first | exact (Kd.Q_reads' HO977.out).2.2 | (with_reducible refine Kd.C_alloc ?_ _) | (with_reducible refine Kd.C_drewN ?_ _) | (with_reducible refine Kd.C_drew ?_))); (case side4 => exact (Kd.Q_reads' HO977.out).2.1); (case side5 => repeat (first | exact (Kd.R_reads' HO979.out).2.2 | (with_reducible refine Kd.C_alloc ?_ _) | (with_reducible refine Kd.C_drewN ?_ _) | (with_reducible refine Kd.C_drew ?_))); (case side6 => exact (Kd.R_reads' HO979.out).2.1); rintro e w19 ⟨rfl, hb⟩; refine ⟨_, rfl, ?_⟩; have n0_ := Aside0.mk (Kd.S_below (by (with_reducible repeat (first | apply Kd.S_alloc | apply Kd.S_drewN | apply Kd.S_drew)); exact HO975.out) hb); have n1_ := Aside0.mk (Kd.Q_below (by (with_reducible repeat (first | apply Kd.Q_alloc | apply Kd.Q_drewN | apply Kd.Q_drew)); exact HO977.out) hb); have n2_ := Aside0.mk (Kd.R_below (by (with_reducible repeat (first | apply Kd.R_alloc | apply Kd.R_drewN | apply Kd.R_drew)); exact HO979.out) hb); have n3_ := Aside0.mk (Kd.R_below (by (with_reducible repeat (first | apply Kd.R_alloc | apply Kd.R_drewN | apply Kd.R_drew)); exact HO983.out) hb); have n4_ := Aside0.mk (Kd.R_below (by (with_reducible repeat (first | apply Kd.R_alloc | apply Kd.R_drewN | apply Kd.R_drew)); exact HO987.out) hb); have n5_ := Aside0.mk (below_step (by repeat (first | (with_reducible first | exact HB.out | apply below_alloc | apply pw_below_drewN | apply below_drew1) | exact HB.out)) hb); clear HO975; clear HO977; clear HO979; clear HO983; clear HO987; clear HB; have HO975 := n0_; have HO977 := n1_; have HO979 := n2_; have HO983 := n3_; have HO987 := n4_; have HB := n5_; clear n0_ n1_ n2_ n3_ n4_ n5_; (try clear hb); (try clear hb2); (try clear hk); (try clear hi)) | ((with_reducible refine gate_callee (f := 38) rfl ?_); refine goesL_ (some 86) rfl rfl Try.func38 (by kernel_rfl) rfl #[.slice Ao13 t970.length co13, .slice Ao14 t971.length co14, .int .i64 t972, .slice Ao15 t973.length co15] rfl (by (try simp only [List.map_toArray, List.map_cons, List.map_nil]); first | done | rfl | (simp only [List.length_drop, List.length_take]; rfl)) ?_; (with_reducible refine (impl_TotalDelay.calls k _ _ t970 _ _ t971 t972 _ _ t973 t992 t993 _ ?side1 ?side2 ?side3 ?side4 ?side5 ?side6 A9.out).mono ?_); (case side1 => repeat (first | exact (Kd.S_reads' HO975.out).2.2 | (with_reducible refine Kd.C_alloc ?_ _) | (with_reducible refine Kd.C_drewN ?_ _) | (with_reducible refine Kd.C_drew ?_))); (case side2 => exact (Kd.S_reads' HO975.out).2.1); (case side3 => repeat (first | exact (Kd.Q_reads' HO977.out).2.2 | (with_reducible refine Kd.C_alloc ?_ _) | (with_reducible refine Kd.C_drewN ?_ _) | (with_reducible refine Kd.C_drew ?_))); (case side4 => exact (Kd.Q_reads' HO977.out).2.1); (case side5 => repeat (first | exact (Kd.R_reads' HO979.out).2.2 | (with_reducible refine Kd.C_alloc ?_ _) | (with_reducible refine Kd.C_drewN ?_ _) | (with_reducible refine Kd.C_drew ?_))); (case side6 => exact (Kd.R_reads' HO979.out).2.1); rintro e w20 ⟨rfl, hb⟩; refine ⟨_, rfl, ?_⟩; have n0_ := Aside0.mk (Kd.S_below (by (with_reducible repeat (first | apply Kd.S_alloc | apply Kd.S_drewN | apply Kd.S_drew)); exact HO975.out) hb); have n1_ := Aside0.mk (Kd.Q_below (by (with_reducible repeat (first | apply Kd.Q_alloc | apply Kd.Q_drewN | apply Kd.Q_drew)); exact HO977.out) hb); have n2_ := Aside0.mk (Kd.R_below (by (with_reducible repeat (first | apply Kd.R_alloc | apply Kd.R_drewN | apply Kd.R_drew)); exact HO979.out) hb); have n3_ := Aside0.mk (Kd.R_below (by (with_reducible repeat (first | apply Kd.R_alloc | apply Kd.R_drewN | apply Kd.R_drew)); exact HO983.out) hb); have n4_ := Aside0.mk (Kd.R_below (by (with_reducible repeat (first | apply Kd.R_alloc | apply Kd.R_drewN | apply Kd.R_drew)); exact HO987.out) hb); have n5_ := Aside0.mk (below_step (by repeat (first | (with_reducible first | exact HB.out | apply below_alloc | apply pw_below_drewN | apply below_drew1) | exact HB.out)) hb); clear HO975; clear HO977; clear HO979; clear HO983; clear HO987; clear HB; have HO975 := n0_; have HO977 := n1_; have HO979 := n2_; have HO983 := n3_; have HO987 := n4_; have HB := n5_; clear n0_ n1_ n2_ n3_ n4_ n5_; (try clear hb); (try clear hb2); (try clear hk); (try clear hi)) | ((with_reducible refine gate_callee (f := 37) rfl ?_); refine goesL_ (some 94) rfl rfl Try.func37 (by kernel_rfl) rfl #[.slice Ao13 t970.length co13, .slice Ao14 t971.length co14, .int .i64 t972, .slice Ao15 t973.length co15] rfl (by (try simp only [List.map_toArray, List.map_cons, List.map_nil]); first | done | rfl | (simp only [List.length_drop, List.length_take]; rfl)) ?_; (with_reducible refine (spec_TotalDelay.calls k _ _ t970 _ _ t971 t972 _ _ t973 t994 t995 _ ?side1 ?side2 ?side3 ?side4 ?side5 ?side6 A10.out).mono ?_); (case side1 => repeat (first | exact (Kd.S_reads' HO975.out).2.2 | (with_reducible refine Kd.C_alloc ?_ _) | (with_reducible refine Kd.C_drewN ?_ _) | (with_reducible refine Kd.C_drew ?_))); (case side2 => exact (Kd.S_reads' HO975.out).2.1); (case side3 => repeat (first | exact (Kd.Q_reads' HO977.out).2.2 | (with_reducible refine Kd.C_alloc ?_ _) | (with_reducible refine Kd.C_drewN ?_ _) | (with_reducible refine Kd.C_drew ?_))); (case side4 => exact (Kd.Q_reads' HO977.out).2.1); (case side5 => repeat (first | exact (Kd.R_reads' HO979.out).2.2 | (with_reducible refine Kd.C_alloc ?_ _) | (with_reducible refine Kd.C_drewN ?_ _) | (with_reducible refine Kd.C_drew ?_))); (case side6 => exact (Kd.R_reads' HO979.out).2.1); rintro e w21 ⟨rfl, hb⟩; refine ⟨_, rfl, ?_⟩; have n0_ := Aside0.mk (Kd.S_below (by (with_reducible repeat (first | apply Kd.S_alloc | apply Kd.S_drewN | apply Kd.S_drew)); exact HO975.out) hb); have n1_ := Aside0.mk (Kd.Q_below (by (with_reducible repeat (first | apply Kd.Q_alloc | apply Kd.Q_drewN | apply Kd.Q_drew)); exact HO977.out) hb); have n2_ := Aside0.mk (Kd.R_below (by (with_reducible repeat (first | apply Kd.R_alloc | apply Kd.R_drewN | apply Kd.R_drew)); exact HO979.out) hb); have n3_ := Aside0.mk (Kd.R_below (by (with_reducible repeat (first | apply Kd.R_alloc | apply Kd.R_drewN | apply Kd.R_drew)); exact HO983.out) hb); have n4_ := Aside0.mk (Kd.R_below (by (with_reducible repeat (first | apply Kd.R_alloc | apply Kd.R_drewN | apply Kd.R_drew)); exact HO987.out) hb); have n5_ := Aside0.mk (below_step (by repeat (first | (with_reducible first | exact HB.out | apply below_alloc | apply pw_below_drewN | apply below_drew1) | exact HB.out)) hb); clear HO975; clear HO977; clear HO979; clear HO983; clear HO987; clear HB; have HO975 := n0_; have HO977 := n1_; have HO979 := n2_; have HO983 := n3_; have HO987 := n4_; have HB := n5_; clear n0_ n1_ n2_ n3_ n4_ n5_; (try clear hb); (try clear hb2); (try clear hk); (try clear hi)))
    (try simp only [Act.put, List.setIfInBounds_toArray, List.set_cons_zero, List.set_cons_succ])
    go_cut [137] (fun v137 wc => ∃ (kq : Nat) (x137_10 : Bool), v137 = .bool x137_10 ∧ Aside0 (laws_FnDelays.j0 kq l1 t970 t971 t972 t973 t981 t984 t989 t990 t994 x137_10 = some r) ∧ Aside0 (kq ≤ k) ∧ Aside0 (Kd.S (Kd.slice 3 (Kd.int .i64)) 23 wc w.heap.size (fun k_ => some k_ ≠ ((.slice Ao14 t971.length co14) : Value).ownBlock ∧ some k_ ≠ ((.slice Ao15 t973.length co15) : Value).ownBlock ∧ some k_ ≠ (v986 : Value).ownBlock) (.slice Ao13 t970.length co13) t970) ∧ Aside0 (Kd.Q (Kd.int .i64) 3 wc w.heap.size (fun k_ => some k_ ≠ ((.slice Ao15 t973.length co15) : Value).ownBlock ∧ some k_ ≠ (v986 : Value).ownBlock) (.slice Ao14 t971.length co14) t971) ∧ Aside0 (Kd.R (Kd.int .i64) 3 wc w.heap.size (fun k_ => some k_ ≠ ((.slice Ao14 t971.length co14) : Value).ownBlock ∧ some k_ ≠ (v986 : Value).ownBlock) (.slice Ao15 t973.length co15) t973) ∧ Aside0 (Kd.R (Kd.int .i64) 3 wc w.heap.size (fun k_ => some k_ ≠ ((.slice Ao14 t971.length co14) : Value).ownBlock ∧ some k_ ≠ ((.slice Ao15 t973.length co15) : Value).ownBlock) v986 t984) ∧ Aside0 (Below w.heap.size w wc))
    case first =>
      have H := HC11.out
      clear HC11
      by_cases c22 : (t981 != t985) = true
      · rw [if_pos c22] at H
        have c22b0 : (t981 != t985) = true := c22
        (try (have c22b1 : decide (t981 = t985) = false := by simpa using c22))
        (try (have c22b2 : (t981 == t985) = false := by simpa using c22))
        (try (have c22b3 : ¬ (t981 = t985) := by simpa using c22))
        clear c22
        (first | rw [c22b0] | (simp only [i64_w, i32_w]; rw [c22b0]) | skip)
        have H' := Aside0.mk H
        clear H
        go_wp2
        go_meet
        case rel => exact ⟨_, (true), (by first | rfl | (simp; done) | (simp [*]; done)), H', ⟨by first | omega | exact Nat.le_refl _⟩, ⟨by (with_reducible repeat (first | apply Kd.S_alloc | apply Kd.S_drewN | apply Kd.S_drew)); exact Kd.S_mono HO975.out (fun _ hk => ⟨hk.1.1.1, ⟨hk.1.1.2, hk.2⟩⟩)⟩, ⟨by (with_reducible repeat (first | apply Kd.Q_alloc | apply Kd.Q_drewN | apply Kd.Q_drew)); exact Kd.Q_mono HO977.out (fun _ hk => ⟨hk.1.1, hk.2⟩)⟩, ⟨by (with_reducible repeat (first | apply Kd.R_alloc | apply Kd.R_drewN | apply Kd.R_drew)); exact Kd.R_mono HO979.out (fun _ hk => ⟨hk.1.1, hk.2⟩)⟩, ⟨by (with_reducible repeat (first | apply Kd.R_alloc | apply Kd.R_drewN | apply Kd.R_drew)); exact Kd.R_mono HO987.out (fun _ hk => ⟨hk.1.1.2, hk.1.2⟩)⟩, ⟨by repeat (first | (with_reducible first | exact HB.out | apply below_alloc | apply pw_below_drewN | apply below_drew1) | exact HB.out)⟩⟩
      · as_aux_lemma =>
        rw [if_neg c22] at H
        have c22b0 : (t981 != t985) = false := by simpa using c22
        (try (have c22b1 : decide (t981 = t985) = true := by simpa using c22))
        (try (have c22b2 : (t981 == t985) = true := by simpa using c22))
        clear c22
        (first | rw [c22b0] | (simp only [i64_w, i32_w]; rw [c22b0]) | skip)
        replace H := Option.bind_eq_some_iff.mp H
        obtain ⟨t996, A230, H⟩ := H
        replace H : (if t996 = true then (if (t989 != t991) = true then (laws_FnDelays.j0 k l1 t970 t971 t972 t973 t981 t984 t989 t990 t994 true) else (if t988 = t990 then (if (t993 != t995) = true then (laws_FnDelays.j0 k l1 t970 t971 t972 t973 t981 t984 t989 t990 t994 true) else (if t992 = t994 then (if (t993 != t989) = true then (laws_FnDelays.j0 k l1 t970 t971 t972 t973 t981 t984 t989 t990 t994 true) else (if t989 = true then (laws_FnDelays.j0 k l1 t970 t971 t972 t973 t981 t984 t989 t990 t994 (!t981)) else (laws_FnDelays.j0 k l1 t970 t971 t972 t973 t981 t984 t989 t990 t994 false))) else (laws_FnDelays.j0 k l1 t970 t971 t972 t973 t981 t984 t989 t990 t994 true))) else (laws_FnDelays.j0 k l1 t970 t971 t972 t973 t981 t984 t989 t990 t994 true))) else (laws_FnDelays.j0 k l1 t970 t971 t972 t973 t981 t984 t989 t990 t994 true)) = some r := H
        have A23 := Aside0.mk A230
        clear A230
        by_cases c24 : t996 = true
        · as_aux_lemma =>
          subst c24
          have H1 : (if (t989 != t991) = true then (laws_FnDelays.j0 k l1 t970 t971 t972 t973 t981 t984 t989 t990 t994 true) else (if t988 = t990 then (if (t993 != t995) = true then (laws_FnDelays.j0 k l1 t970 t971 t972 t973 t981 t984 t989 t990 t994 true) else (if t992 = t994 then (if (t993 != t989) = true then (laws_FnDelays.j0 k l1 t970 t971 t972 t973 t981 t984 t989 t990 t994 true) else (if t989 = true then (laws_FnDelays.j0 k l1 t970 t971 t972 t973 t981 t984 t989 t990 t994 (!t981)) else (laws_FnDelays.j0 k l1 t970 t971 t972 t973 t981 t984 t989 t990 t994 false))) else (laws_FnDelays.j0 k l1 t970 t971 t972 t973 t981 t984 t989 t990 t994 true))) else (laws_FnDelays.j0 k l1 t970 t971 t972 t973 t981 t984 t989 t990 t994 true))) = some r := by rw [if_pos rfl] at H; exact H
          clear H
          have H := H1
          clear H1
          by_cases c25 : (t989 != t991) = true
          · rw [if_pos c25] at H
            have c25b0 : (t989 != t991) = true := c25
            (try (have c25b1 : decide (t989 = t991) = false := by simpa using c25))
            (try (have c25b2 : (t989 == t991) = false := by simpa using c25))
            (try (have c25b3 : ¬ (t989 = t991) := by simpa using c25))
            clear c25
            have H' := Aside0.mk H
            clear H
            obtain ⟨Ao26, co26, eo26⟩ := Kd.R_slice HO983.out
            subst eo26
            obtain ⟨Ao27, co27, eo27⟩ := Kd.R_slice HO987.out
            subst eo27
            go_wp2_with (first | (go_at_call 42; (with_reducible refine (laws_qInts.calls k _ _ t980 _ _ t984 true _ ?side1 ?side2 ?side3 ?side4 A23.out).mono ?_); (case side1 => repeat (first | exact (Kd.R_reads' HO983.out).2.2 | (with_reducible refine Kd.C_alloc ?_ _) | (with_reducible refine Kd.C_drewN ?_ _) | (with_reducible refine Kd.C_drew ?_))); (case side2 => exact (Kd.R_reads' HO983.out).2.1); (case side3 => repeat (first | exact (Kd.R_reads' HO987.out).2.2 | (with_reducible refine Kd.C_alloc ?_ _) | (with_reducible refine Kd.C_drewN ?_ _) | (with_reducible refine Kd.C_drew ?_))); (case side4 => exact (Kd.R_reads' HO987.out).2.1); rintro e w' ⟨rfl, ⟨nd, rfl⟩⟩))
            go_meet
            case rel => exact ⟨_, (true), (by first | rfl | (simp; done) | (simp [*]; done)), H', ⟨by first | omega | exact Nat.le_refl _⟩, ⟨by (with_reducible repeat (first | apply Kd.S_alloc | apply Kd.S_drewN | apply Kd.S_drew)); exact Kd.S_mono HO975.out (fun _ hk => ⟨hk.1.1.1, ⟨hk.1.1.2, hk.2⟩⟩)⟩, ⟨by (with_reducible repeat (first | apply Kd.Q_alloc | apply Kd.Q_drewN | apply Kd.Q_drew)); exact Kd.Q_mono HO977.out (fun _ hk => ⟨hk.1.1, hk.2⟩)⟩, ⟨by (with_reducible repeat (first | apply Kd.R_alloc | apply Kd.R_drewN | apply Kd.R_drew)); exact Kd.R_mono HO979.out (fun _ hk => ⟨hk.1.1, hk.2⟩)⟩, ⟨by (with_reducible repeat (first | apply Kd.R_alloc | apply Kd.R_drewN | apply Kd.R_drew)); exact Kd.R_mono HO987.out (fun _ hk => ⟨hk.1.1.2, hk.1.2⟩)⟩, ⟨by repeat (first | (with_reducible first | exact HB.out | apply below_alloc | apply pw_below_drewN | apply below_drew1) | exact HB.out)⟩⟩
          · as_aux_lemma =>
            rw [if_neg c25] at H
            have c25b0 : (t989 != t991) = false := by simpa using c25
            (try (have c25b1 : decide (t989 = t991) = true := by simpa using c25))
            (try (have c25b2 : (t989 == t991) = true := by simpa using c25))
            clear c25
            by_cases c28 : t988 = t990
            · as_aux_lemma =>
              rw [if_pos c28] at H
              have c28b0 : (t988 == t990) = true := beq_iff_eq.mpr c28
              have c28b1 : (t988 != t990) = false := bne_eq_false_iff_eq.mpr c28
              clear c28
              by_cases c29 : (t993 != t995) = true
              · rw [if_pos c29] at H
                have c29b0 : (t993 != t995) = true := c29
                (try (have c29b1 : decide (t993 = t995) = false := by simpa using c29))
                (try (have c29b2 : (t993 == t995) = false := by simpa using c29))
                (try (have c29b3 : ¬ (t993 = t995) := by simpa using c29))
                clear c29
                have H' := Aside0.mk H
                clear H
                obtain ⟨Ao30, co30, eo30⟩ := Kd.R_slice HO983.out
                subst eo30
                obtain ⟨Ao31, co31, eo31⟩ := Kd.R_slice HO987.out
                subst eo31
                go_wp2_with (first | (go_at_call 42; (with_reducible refine (laws_qInts.calls k _ _ t980 _ _ t984 true _ ?side1 ?side2 ?side3 ?side4 A23.out).mono ?_); (case side1 => repeat (first | exact (Kd.R_reads' HO983.out).2.2 | (with_reducible refine Kd.C_alloc ?_ _) | (with_reducible refine Kd.C_drewN ?_ _) | (with_reducible refine Kd.C_drew ?_))); (case side2 => exact (Kd.R_reads' HO983.out).2.1); (case side3 => repeat (first | exact (Kd.R_reads' HO987.out).2.2 | (with_reducible refine Kd.C_alloc ?_ _) | (with_reducible refine Kd.C_drewN ?_ _) | (with_reducible refine Kd.C_drew ?_))); (case side4 => exact (Kd.R_reads' HO987.out).2.1); rintro e w' ⟨rfl, ⟨nd, rfl⟩⟩))
                go_meet
                case rel => exact ⟨_, (true), (by first | rfl | (simp; done) | (simp [*]; done)), H', ⟨by first | omega | exact Nat.le_refl _⟩, ⟨by (with_reducible repeat (first | apply Kd.S_alloc | apply Kd.S_drewN | apply Kd.S_drew)); exact Kd.S_mono HO975.out (fun _ hk => ⟨hk.1.1.1, ⟨hk.1.1.2, hk.2⟩⟩)⟩, ⟨by (with_reducible repeat (first | apply Kd.Q_alloc | apply Kd.Q_drewN | apply Kd.Q_drew)); exact Kd.Q_mono HO977.out (fun _ hk => ⟨hk.1.1, hk.2⟩)⟩, ⟨by (with_reducible repeat (first | apply Kd.R_alloc | apply Kd.R_drewN | apply Kd.R_drew)); exact Kd.R_mono HO979.out (fun _ hk => ⟨hk.1.1, hk.2⟩)⟩, ⟨by (with_reducible repeat (first | apply Kd.R_alloc | apply Kd.R_drewN | apply Kd.R_drew)); exact Kd.R_mono HO987.out (fun _ hk => ⟨hk.1.1.2, hk.1.2⟩)⟩, ⟨by repeat (first | (with_reducible first | exact HB.out | apply below_alloc | apply pw_below_drewN | apply below_drew1) | exact HB.out)⟩⟩
              · as_aux_lemma =>
                rw [if_neg c29] at H
                have c29b0 : (t993 != t995) = false := by simpa using c29
                (try (have c29b1 : decide (t993 = t995) = true := by simpa using c29))
                (try (have c29b2 : (t993 == t995) = true := by simpa using c29))
                clear c29
                by_cases c32 : t992 = t994
                · as_aux_lemma =>
                  rw [if_pos c32] at H
                  have c32b0 : (t992 == t994) = true := beq_iff_eq.mpr c32
                  have c32b1 : (t992 != t994) = false := bne_eq_false_iff_eq.mpr c32
                  clear c32
                  by_cases c33 : (t993 != t989) = true
                  · rw [if_pos c33] at H
                    have c33b0 : (t993 != t989) = true := c33
                    (try (have c33b1 : decide (t993 = t989) = false := by simpa using c33))
                    (try (have c33b2 : (t993 == t989) = false := by simpa using c33))
                    (try (have c33b3 : ¬ (t993 = t989) := by simpa using c33))
                    clear c33
                    have H' := Aside0.mk H
                    clear H
                    obtain ⟨Ao34, co34, eo34⟩ := Kd.R_slice HO983.out
                    subst eo34
                    obtain ⟨Ao35, co35, eo35⟩ := Kd.R_slice HO987.out
                    subst eo35
                    go_wp2_with (first | (go_at_call 42; (with_reducible refine (laws_qInts.calls k _ _ t980 _ _ t984 true _ ?side1 ?side2 ?side3 ?side4 A23.out).mono ?_); (case side1 => repeat (first | exact (Kd.R_reads' HO983.out).2.2 | (with_reducible refine Kd.C_alloc ?_ _) | (with_reducible refine Kd.C_drewN ?_ _) | (with_reducible refine Kd.C_drew ?_))); (case side2 => exact (Kd.R_reads' HO983.out).2.1); (case side3 => repeat (first | exact (Kd.R_reads' HO987.out).2.2 | (with_reducible refine Kd.C_alloc ?_ _) | (with_reducible refine Kd.C_drewN ?_ _) | (with_reducible refine Kd.C_drew ?_))); (case side4 => exact (Kd.R_reads' HO987.out).2.1); rintro e w' ⟨rfl, ⟨nd, rfl⟩⟩))
                    go_meet
                    case rel => exact ⟨_, (true), (by first | rfl | (simp; done) | (simp [*]; done)), H', ⟨by first | omega | exact Nat.le_refl _⟩, ⟨by (with_reducible repeat (first | apply Kd.S_alloc | apply Kd.S_drewN | apply Kd.S_drew)); exact Kd.S_mono HO975.out (fun _ hk => ⟨hk.1.1.1, ⟨hk.1.1.2, hk.2⟩⟩)⟩, ⟨by (with_reducible repeat (first | apply Kd.Q_alloc | apply Kd.Q_drewN | apply Kd.Q_drew)); exact Kd.Q_mono HO977.out (fun _ hk => ⟨hk.1.1, hk.2⟩)⟩, ⟨by (with_reducible repeat (first | apply Kd.R_alloc | apply Kd.R_drewN | apply Kd.R_drew)); exact Kd.R_mono HO979.out (fun _ hk => ⟨hk.1.1, hk.2⟩)⟩, ⟨by (with_reducible repeat (first | apply Kd.R_alloc | apply Kd.R_drewN | apply Kd.R_drew)); exact Kd.R_mono HO987.out (fun _ hk => ⟨hk.1.1.2, hk.1.2⟩)⟩, ⟨by repeat (first | (with_reducible first | exact HB.out | apply below_alloc | apply pw_below_drewN | apply below_drew1) | exact HB.out)⟩⟩
                  · rw [if_neg c33] at H
                    have c33b0 : (t993 != t989) = false := by simpa using c33
                    (try (have c33b1 : decide (t993 = t989) = true := by simpa using c33))
                    (try (have c33b2 : (t993 == t989) = true := by simpa using c33))
                    clear c33
                    by_cases c36 : t989 = true
                    · subst c36
                      have H1 : (laws_FnDelays.j0 k l1 t970 t971 t972 t973 t981 t984 true t990 t994 (!t981)) = some r := by rw [if_pos rfl] at H; exact H
                      clear H
                      have H := H1
                      clear H1
                      have H' := Aside0.mk H
                      clear H
                      obtain ⟨Ao37, co37, eo37⟩ := Kd.R_slice HO983.out
                      subst eo37
                      obtain ⟨Ao38, co38, eo38⟩ := Kd.R_slice HO987.out
                      subst eo38
                      go_wp2_with (first | (go_at_call 42; (with_reducible refine (laws_qInts.calls k _ _ t980 _ _ t984 true _ ?side1 ?side2 ?side3 ?side4 A23.out).mono ?_); (case side1 => repeat (first | exact (Kd.R_reads' HO983.out).2.2 | (with_reducible refine Kd.C_alloc ?_ _) | (with_reducible refine Kd.C_drewN ?_ _) | (with_reducible refine Kd.C_drew ?_))); (case side2 => exact (Kd.R_reads' HO983.out).2.1); (case side3 => repeat (first | exact (Kd.R_reads' HO987.out).2.2 | (with_reducible refine Kd.C_alloc ?_ _) | (with_reducible refine Kd.C_drewN ?_ _) | (with_reducible refine Kd.C_drew ?_))); (case side4 => exact (Kd.R_reads' HO987.out).2.1); rintro e w' ⟨rfl, ⟨nd, rfl⟩⟩))
                      go_meet
                      case rel => exact ⟨_, (!t981), (by first | rfl | (simp; done) | (simp [*]; done)), H', ⟨by first | omega | exact Nat.le_refl _⟩, ⟨by (with_reducible repeat (first | apply Kd.S_alloc | apply Kd.S_drewN | apply Kd.S_drew)); exact Kd.S_mono HO975.out (fun _ hk => ⟨hk.1.1.1, ⟨hk.1.1.2, hk.2⟩⟩)⟩, ⟨by (with_reducible repeat (first | apply Kd.Q_alloc | apply Kd.Q_drewN | apply Kd.Q_drew)); exact Kd.Q_mono HO977.out (fun _ hk => ⟨hk.1.1, hk.2⟩)⟩, ⟨by (with_reducible repeat (first | apply Kd.R_alloc | apply Kd.R_drewN | apply Kd.R_drew)); exact Kd.R_mono HO979.out (fun _ hk => ⟨hk.1.1, hk.2⟩)⟩, ⟨by (with_reducible repeat (first | apply Kd.R_alloc | apply Kd.R_drewN | apply Kd.R_drew)); exact Kd.R_mono HO987.out (fun _ hk => ⟨hk.1.1.2, hk.1.2⟩)⟩, ⟨by repeat (first | (with_reducible first | exact HB.out | apply below_alloc | apply pw_below_drewN | apply below_drew1) | exact HB.out)⟩⟩
                    · replace c36 := Bool.eq_false_iff.mpr c36
                      subst c36
                      have H1 : (laws_FnDelays.j0 k l1 t970 t971 t972 t973 t981 t984 false t990 t994 false) = some r := by rw [if_neg (show ¬ (false = true) by decide)] at H; exact H
                      clear H
                      have H := H1
                      clear H1
                      have H' := Aside0.mk H
                      clear H
                      obtain ⟨Ao39, co39, eo39⟩ := Kd.R_slice HO983.out
                      subst eo39
                      obtain ⟨Ao40, co40, eo40⟩ := Kd.R_slice HO987.out
                      subst eo40
                      go_wp2_with (first | (go_at_call 42; (with_reducible refine (laws_qInts.calls k _ _ t980 _ _ t984 true _ ?side1 ?side2 ?side3 ?side4 A23.out).mono ?_); (case side1 => repeat (first | exact (Kd.R_reads' HO983.out).2.2 | (with_reducible refine Kd.C_alloc ?_ _) | (with_reducible refine Kd.C_drewN ?_ _) | (with_reducible refine Kd.C_drew ?_))); (case side2 => exact (Kd.R_reads' HO983.out).2.1); (case side3 => repeat (first | exact (Kd.R_reads' HO987.out).2.2 | (with_reducible refine Kd.C_alloc ?_ _) | (with_reducible refine Kd.C_drewN ?_ _) | (with_reducible refine Kd.C_drew ?_))); (case side4 => exact (Kd.R_reads' HO987.out).2.1); rintro e w' ⟨rfl, ⟨nd, rfl⟩⟩))
                      go_meet
                      case rel => exact ⟨_, (false), (by first | rfl | (simp; done) | (simp [*]; done)), H', ⟨by first | omega | exact Nat.le_refl _⟩, ⟨by (with_reducible repeat (first | apply Kd.S_alloc | apply Kd.S_drewN | apply Kd.S_drew)); exact Kd.S_mono HO975.out (fun _ hk => ⟨hk.1.1.1, ⟨hk.1.1.2, hk.2⟩⟩)⟩, ⟨by (with_reducible repeat (first | apply Kd.Q_alloc | apply Kd.Q_drewN | apply Kd.Q_drew)); exact Kd.Q_mono HO977.out (fun _ hk => ⟨hk.1.1, hk.2⟩)⟩, ⟨by (with_reducible repeat (first | apply Kd.R_alloc | apply Kd.R_drewN | apply Kd.R_drew)); exact Kd.R_mono HO979.out (fun _ hk => ⟨hk.1.1, hk.2⟩)⟩, ⟨by (with_reducible repeat (first | apply Kd.R_alloc | apply Kd.R_drewN | apply Kd.R_drew)); exact Kd.R_mono HO987.out (fun _ hk => ⟨hk.1.1.2, hk.1.2⟩)⟩, ⟨by repeat (first | (with_reducible first | exact HB.out | apply below_alloc | apply pw_below_drewN | apply below_drew1) | exact HB.out)⟩⟩
                · rw [if_neg c32] at H
                  have c32b0 : (t992 == t994) = false := beq_eq_false_iff_ne.mpr c32
                  have c32b1 : (t992 != t994) = true := bne_iff_ne.mpr c32
                  have H' := Aside0.mk H
                  clear H
                  obtain ⟨Ao41, co41, eo41⟩ := Kd.R_slice HO983.out
                  subst eo41
                  obtain ⟨Ao42, co42, eo42⟩ := Kd.R_slice HO987.out
                  subst eo42
                  go_wp2_with (first | (go_at_call 42; (with_reducible refine (laws_qInts.calls k _ _ t980 _ _ t984 true _ ?side1 ?side2 ?side3 ?side4 A23.out).mono ?_); (case side1 => repeat (first | exact (Kd.R_reads' HO983.out).2.2 | (with_reducible refine Kd.C_alloc ?_ _) | (with_reducible refine Kd.C_drewN ?_ _) | (with_reducible refine Kd.C_drew ?_))); (case side2 => exact (Kd.R_reads' HO983.out).2.1); (case side3 => repeat (first | exact (Kd.R_reads' HO987.out).2.2 | (with_reducible refine Kd.C_alloc ?_ _) | (with_reducible refine Kd.C_drewN ?_ _) | (with_reducible refine Kd.C_drew ?_))); (case side4 => exact (Kd.R_reads' HO987.out).2.1); rintro e w' ⟨rfl, ⟨nd, rfl⟩⟩))
                  go_meet
                  case rel => exact ⟨_, (true), (by first | rfl | (simp; done) | (simp [*]; done)), H', ⟨by first | omega | exact Nat.le_refl _⟩, ⟨by (with_reducible repeat (first | apply Kd.S_alloc | apply Kd.S_drewN | apply Kd.S_drew)); exact Kd.S_mono HO975.out (fun _ hk => ⟨hk.1.1.1, ⟨hk.1.1.2, hk.2⟩⟩)⟩, ⟨by (with_reducible repeat (first | apply Kd.Q_alloc | apply Kd.Q_drewN | apply Kd.Q_drew)); exact Kd.Q_mono HO977.out (fun _ hk => ⟨hk.1.1, hk.2⟩)⟩, ⟨by (with_reducible repeat (first | apply Kd.R_alloc | apply Kd.R_drewN | apply Kd.R_drew)); exact Kd.R_mono HO979.out (fun _ hk => ⟨hk.1.1, hk.2⟩)⟩, ⟨by (with_reducible repeat (first | apply Kd.R_alloc | apply Kd.R_drewN | apply Kd.R_drew)); exact Kd.R_mono HO987.out (fun _ hk => ⟨hk.1.1.2, hk.1.2⟩)⟩, ⟨by repeat (first | (with_reducible first | exact HB.out | apply below_alloc | apply pw_below_drewN | apply below_drew1) | exact HB.out)⟩⟩
            · rw [if_neg c28] at H
              have c28b0 : (t988 == t990) = false := beq_eq_false_iff_ne.mpr c28
              have c28b1 : (t988 != t990) = true := bne_iff_ne.mpr c28
              have H' := Aside0.mk H
              clear H
              obtain ⟨Ao43, co43, eo43⟩ := Kd.R_slice HO983.out
              subst eo43
              obtain ⟨Ao44, co44, eo44⟩ := Kd.R_slice HO987.out
              subst eo44
              go_wp2_with (first | (go_at_call 42; (with_reducible refine (laws_qInts.calls k _ _ t980 _ _ t984 true _ ?side1 ?side2 ?side3 ?side4 A23.out).mono ?_); (case side1 => repeat (first | exact (Kd.R_reads' HO983.out).2.2 | (with_reducible refine Kd.C_alloc ?_ _) | (with_reducible refine Kd.C_drewN ?_ _) | (with_reducible refine Kd.C_drew ?_))); (case side2 => exact (Kd.R_reads' HO983.out).2.1); (case side3 => repeat (first | exact (Kd.R_reads' HO987.out).2.2 | (with_reducible refine Kd.C_alloc ?_ _) | (with_reducible refine Kd.C_drewN ?_ _) | (with_reducible refine Kd.C_drew ?_))); (case side4 => exact (Kd.R_reads' HO987.out).2.1); rintro e w' ⟨rfl, ⟨nd, rfl⟩⟩))
              go_meet
              case rel => exact ⟨_, (true), (by first | rfl | (simp; done) | (simp [*]; done)), H', ⟨by first | omega | exact Nat.le_refl _⟩, ⟨by (with_reducible repeat (first | apply Kd.S_alloc | apply Kd.S_drewN | apply Kd.S_drew)); exact Kd.S_mono HO975.out (fun _ hk => ⟨hk.1.1.1, ⟨hk.1.1.2, hk.2⟩⟩)⟩, ⟨by (with_reducible repeat (first | apply Kd.Q_alloc | apply Kd.Q_drewN | apply Kd.Q_drew)); exact Kd.Q_mono HO977.out (fun _ hk => ⟨hk.1.1, hk.2⟩)⟩, ⟨by (with_reducible repeat (first | apply Kd.R_alloc | apply Kd.R_drewN | apply Kd.R_drew)); exact Kd.R_mono HO979.out (fun _ hk => ⟨hk.1.1, hk.2⟩)⟩, ⟨by (with_reducible repeat (first | apply Kd.R_alloc | apply Kd.R_drewN | apply Kd.R_drew)); exact Kd.R_mono HO987.out (fun _ hk => ⟨hk.1.1.2, hk.1.2⟩)⟩, ⟨by repeat (first | (with_reducible first | exact HB.out | apply below_alloc | apply pw_below_drewN | apply below_drew1) | exact HB.out)⟩⟩
        · replace c24 := Bool.eq_false_iff.mpr c24
          subst c24
          have H1 : (laws_FnDelays.j0 k l1 t970 t971 t972 t973 t981 t984 t989 t990 t994 true) = some r := by rw [if_neg (show ¬ (false = true) by decide)] at H; exact H
          clear H
          have H := H1
          clear H1
          have H' := Aside0.mk H
          clear H
          obtain ⟨Ao45, co45, eo45⟩ := Kd.R_slice HO983.out
          subst eo45
          obtain ⟨Ao46, co46, eo46⟩ := Kd.R_slice HO987.out
          subst eo46
          go_wp2_with (first | (go_at_call 42; (with_reducible refine (laws_qInts.calls k _ _ t980 _ _ t984 false _ ?side1 ?side2 ?side3 ?side4 A23.out).mono ?_); (case side1 => repeat (first | exact (Kd.R_reads' HO983.out).2.2 | (with_reducible refine Kd.C_alloc ?_ _) | (with_reducible refine Kd.C_drewN ?_ _) | (with_reducible refine Kd.C_drew ?_))); (case side2 => exact (Kd.R_reads' HO983.out).2.1); (case side3 => repeat (first | exact (Kd.R_reads' HO987.out).2.2 | (with_reducible refine Kd.C_alloc ?_ _) | (with_reducible refine Kd.C_drewN ?_ _) | (with_reducible refine Kd.C_drew ?_))); (case side4 => exact (Kd.R_reads' HO987.out).2.1); rintro e w' ⟨rfl, ⟨nd, rfl⟩⟩))
          go_meet
          case rel => exact ⟨_, (true), (by first | rfl | (simp; done) | (simp [*]; done)), H', ⟨by first | omega | exact Nat.le_refl _⟩, ⟨by (with_reducible repeat (first | apply Kd.S_alloc | apply Kd.S_drewN | apply Kd.S_drew)); exact Kd.S_mono HO975.out (fun _ hk => ⟨hk.1.1.1, ⟨hk.1.1.2, hk.2⟩⟩)⟩, ⟨by (with_reducible repeat (first | apply Kd.Q_alloc | apply Kd.Q_drewN | apply Kd.Q_drew)); exact Kd.Q_mono HO977.out (fun _ hk => ⟨hk.1.1, hk.2⟩)⟩, ⟨by (with_reducible repeat (first | apply Kd.R_alloc | apply Kd.R_drewN | apply Kd.R_drew)); exact Kd.R_mono HO979.out (fun _ hk => ⟨hk.1.1, hk.2⟩)⟩, ⟨by (with_reducible repeat (first | apply Kd.R_alloc | apply Kd.R_drewN | apply Kd.R_drew)); exact Kd.R_mono HO987.out (fun _ hk => ⟨hk.1.1.2, hk.1.2⟩)⟩, ⟨by repeat (first | (with_reducible first | exact HB.out | apply below_alloc | apply pw_below_drewN | apply below_drew1) | exact HB.out)⟩⟩
    case rest =>
      clear HC11
      try clear c1
      try clear c2
      try clear p2
      try clear c3
      try clear c3b0
      try clear c4
      try clear p6
      try clear c12
      try clear c22
      try clear c22b0
      try clear c22b1
      try clear c22b2
      try clear c24
      try clear c25
      try clear c25b0
      try clear c25b1
      try clear c25b2
      try clear c28
      try clear c28b0
      try clear c28b1
      try clear c29
      try clear c29b0
      try clear c29b1
      try clear c29b2
      try clear c30
      try clear c31
      try clear c32
      try clear c32b0
      try clear c32b1
      try clear c33
      try clear c33b0
      try clear c33b1
      try clear c33b2
      try clear c35
      try clear c36
      try clear c37
      try clear c38
      try clear c41
      obtain ⟨kq, x137_10, rfl, HA, HJ10, HO_5, HO_6, HO_8, HO_11, HB⟩ := hcut
      cases kq with
      | zero => exact absurd HA.out (by simp [laws_FnDelays.j0])
      | succ kj10 =>
        have H := HA.out
        clear HA
        simp only [laws_FnDelays.j0] at H
        by_cases c47 : x137_10 = true
        · subst c47
          have H1 : (some false) = some r := by rw [if_pos rfl] at H; exact H
          clear H
          have H := H1
          clear H1
          obtain rfl := Option.some.inj H
          go_wp2
          go_ret
          exact ⟨by first | rfl | (simp [errW_none, errW_some] <;> rfl) | (simp [*, errW_none, errW_some] <;> rfl), by repeat (first | (with_reducible first | exact HB.out | apply below_alloc | apply pw_below_drewN | apply below_drew1) | exact HB.out)⟩
        · as_aux_lemma =>
          replace c47 := Bool.eq_false_iff.mpr c47
          subst c47
          have H1 : (if t981 = true then ((impl_DelaysAfter.f kj10 t970 t971 t972 t973 1).bind fun bt997 => (if bt997.2 = true then ((laws_qInts.f kj10 bt997.1 t984).bind fun t1001 => (if t1001 = true then (laws_FnDelays.j1 kj10 l1 t970 t971 t972 t973 t989 t990 t994) else (some false))) else (some false))) else (laws_FnDelays.j1 kj10 l1 t970 t971 t972 t973 t989 t990 t994)) = some r := by rw [if_neg (show ¬ (false = true) by decide)] at H; exact H
          clear H
          have H := H1
          clear H1
          have HC48 := Aside0.mk H
          clear H
          go_upto_if 138 with (fail)
          go_cut [] (fun wc => ∃ (kq : Nat), Aside0 (laws_FnDelays.j1 kq l1 t970 t971 t972 t973 t989 t990 t994 = some r) ∧ Aside0 (kq ≤ kj10) ∧ Aside0 (Kd.S (Kd.slice 3 (Kd.int .i64)) 23 wc w.heap.size (fun k_ => some k_ ≠ ((.slice Ao14 t971.length co14) : Value).ownBlock ∧ some k_ ≠ ((.slice Ao15 t973.length co15) : Value).ownBlock) (.slice Ao13 t970.length co13) t970) ∧ Aside0 (Kd.Q (Kd.int .i64) 3 wc w.heap.size (fun k_ => some k_ ≠ ((.slice Ao15 t973.length co15) : Value).ownBlock) (.slice Ao14 t971.length co14) t971) ∧ Aside0 (Kd.R (Kd.int .i64) 3 wc w.heap.size (fun k_ => some k_ ≠ ((.slice Ao14 t971.length co14) : Value).ownBlock) (.slice Ao15 t973.length co15) t973) ∧ Aside0 (Below w.heap.size w wc))
          case first =>
            have H := HC48.out
            clear HC48
            by_cases c49 : t981 = true
            · as_aux_lemma =>
              subst c49
              have H1 : ((impl_DelaysAfter.f kj10 t970 t971 t972 t973 1).bind fun bt997 => (if bt997.2 = true then ((laws_qInts.f kj10 bt997.1 t984).bind fun t1001 => (if t1001 = true then (laws_FnDelays.j1 kj10 l1 t970 t971 t972 t973 t989 t990 t994) else (some false))) else (some false))) = some r := by rw [if_pos rfl] at H; exact H
              clear H
              have H := H1
              clear H1
              replace H := Option.bind_eq_some_iff.mp H
              obtain ⟨⟨t997, t998⟩, A500, H⟩ := H
              replace H : (if t998 = true then ((laws_qInts.f kj10 t997 t984).bind fun t1001 => (if t1001 = true then (laws_FnDelays.j1 kj10 l1 t970 t971 t972 t973 t989 t990 t994) else (some false))) else (some false)) = some r := H
              have A50 := Aside0.mk A500
              clear A500
              by_cases c51 : t998 = true
              · subst c51
                have H1 : ((laws_qInts.f kj10 t997 t984).bind fun t1001 => (if t1001 = true then (laws_FnDelays.j1 kj10 l1 t970 t971 t972 t973 t989 t990 t994) else (some false))) = some r := by rw [if_pos rfl] at H; exact H
                clear H
                have H := H1
                clear H1
                replace H := Option.bind_eq_some_iff.mp H
                obtain ⟨t1001, A520, H⟩ := H
                replace H : (if t1001 = true then (laws_FnDelays.j1 kj10 l1 t970 t971 t972 t973 t989 t990 t994) else (some false)) = some r := H
                have A52 := Aside0.mk A520
                clear A520
                by_cases c53 : t1001 = true
                · subst c53
                  have H1 : (laws_FnDelays.j1 kj10 l1 t970 t971 t972 t973 t989 t990 t994) = some r := by rw [if_pos rfl] at H; exact H
                  clear H
                  have H := H1
                  clear H1
                  have H' := Aside0.mk H
                  clear H
                  go_wp2_with (first | ((with_reducible refine gate_callee (f := 34) rfl ?_); refine goesL_ (some 144) rfl rfl Try.func34 (by kernel_rfl) rfl #[.slice Ao13 t970.length co13, .slice Ao14 t971.length co14, .int .i64 t972, .slice Ao15 t973.length co15, .int .i64 1] rfl (by (try simp only [List.map_toArray, List.map_cons, List.map_nil]); first | done | rfl | (simp only [List.length_drop, List.length_take]; rfl)) ?_; (with_reducible refine (impl_DelaysAfter.calls kj10 _ _ t970 _ _ t971 t972 _ _ t973 1 t997 true _ ?side1 ?side2 ?side3 ?side4 ?side5 ?side6 A50.out).mono ?_); (case side1 => repeat (first | exact (Kd.S_reads' HO_5.out).2.2 | (with_reducible refine Kd.C_alloc ?_ _) | (with_reducible refine Kd.C_drewN ?_ _) | (with_reducible refine Kd.C_drew ?_))); (case side2 => exact (Kd.S_reads' HO_5.out).2.1); (case side3 => repeat (first | exact (Kd.Q_reads' HO_6.out).2.2 | (with_reducible refine Kd.C_alloc ?_ _) | (with_reducible refine Kd.C_drewN ?_ _) | (with_reducible refine Kd.C_drew ?_))); (case side4 => exact (Kd.Q_reads' HO_6.out).2.1); (case side5 => repeat (first | exact (Kd.R_reads' HO_8.out).2.2 | (with_reducible refine Kd.C_alloc ?_ _) | (with_reducible refine Kd.C_drewN ?_ _) | (with_reducible refine Kd.C_drew ?_))); (case side6 => exact (Kd.R_reads' HO_8.out).2.1); rintro e w54 ⟨v999, rfl, ho0, hb⟩; refine ⟨_, rfl, ?_⟩; have n0_ := Aside0.mk (Kd.S_elder' (by (with_reducible repeat (first | apply Kd.S_alloc | apply Kd.S_drewN | apply Kd.S_drew)); exact HO_5.out) (Kd.R_base ho0) hb); have n1_ := Aside0.mk (Kd.Q_elder' (by (with_reducible repeat (first | apply Kd.Q_alloc | apply Kd.Q_drewN | apply Kd.Q_drew)); exact HO_6.out) (Kd.R_base ho0) hb); have n2_ := Aside0.mk (Kd.R_elder' (by (with_reducible repeat (first | apply Kd.R_alloc | apply Kd.R_drewN | apply Kd.R_drew)); exact HO_8.out) (Kd.R_base ho0) hb); have n3_ := Aside0.mk (Kd.R_elder' (by (with_reducible repeat (first | apply Kd.R_alloc | apply Kd.R_drewN | apply Kd.R_drew)); exact HO_11.out) (Kd.R_base ho0) hb); have n4_ := Aside0.mk (Kd.R_lower (Kd.R_new' (Kd.R_new' (Kd.R_new' ho0 (Kd.Q_lt (by (with_reducible repeat (first | apply Kd.Q_alloc | apply Kd.Q_drewN | apply Kd.Q_drew)); exact HO_6.out))) (Kd.R_lt (by (with_reducible repeat (first | apply Kd.R_alloc | apply Kd.R_drewN | apply Kd.R_drew)); exact HO_8.out))) (Kd.R_lt (by (with_reducible repeat (first | apply Kd.R_alloc | apply Kd.R_drewN | apply Kd.R_drew)); exact HO_11.out))) (below_size (by repeat (first | (with_reducible first | exact HB.out | apply below_alloc | apply pw_below_drewN | apply below_drew1) | exact HB.out)))); have n5_ := Aside0.mk (below_step (by repeat (first | (with_reducible first | exact HB.out | apply below_alloc | apply pw_below_drewN | apply below_drew1) | exact HB.out)) hb); clear HO_5; clear HO_6; clear HO_8; clear HO_11; clear HB; have HO_5 := n0_; have HO_6 := n1_; have HO_8 := n2_; have HO_11 := n3_; have HO1000 := n4_; have HB := n5_; clear n0_ n1_ n2_ n3_ n4_ n5_; (try clear hb); (try clear hb2); (try clear hk); (try clear hi); (try clear ho0); obtain ⟨Ao55, co55, eo55⟩ := Kd.R_slice HO1000.out; subst eo55; obtain ⟨Ao56, co56, eo56⟩ := Kd.R_slice HO_11.out; subst eo56) | (go_at_call 42; (with_reducible refine (laws_qInts.calls kj10 _ _ t997 _ _ t984 true _ ?side1 ?side2 ?side3 ?side4 A52.out).mono ?_); (case side1 => repeat (first | exact (Kd.R_reads' HO1000.out).2.2 | (with_reducible refine Kd.C_alloc ?_ _) | (with_reducible refine Kd.C_drewN ?_ _) | (with_reducible refine Kd.C_drew ?_))); (case side2 => exact (Kd.R_reads' HO1000.out).2.1); (case side3 => repeat (first | exact (Kd.R_reads' HO_11.out).2.2 | (with_reducible refine Kd.C_alloc ?_ _) | (with_reducible refine Kd.C_drewN ?_ _) | (with_reducible refine Kd.C_drew ?_))); (case side4 => exact (Kd.R_reads' HO_11.out).2.1); rintro e w' ⟨rfl, ⟨nd, rfl⟩⟩))
                  go_meet
                  case rel => exact ⟨_, H', ⟨by have := HJ10.out; first | omega | exact Nat.le_refl _⟩, ⟨by (with_reducible repeat (first | apply Kd.S_alloc | apply Kd.S_drewN | apply Kd.S_drew)); exact Kd.S_mono HO_5.out (fun _ hk => ⟨hk.1.1, hk.1.2.1⟩)⟩, ⟨by (with_reducible repeat (first | apply Kd.Q_alloc | apply Kd.Q_drewN | apply Kd.Q_drew)); exact Kd.Q_mono HO_6.out (fun _ hk => hk.1.1)⟩, ⟨by (with_reducible repeat (first | apply Kd.R_alloc | apply Kd.R_drewN | apply Kd.R_drew)); exact Kd.R_mono HO_8.out (fun _ hk => hk.1.1)⟩, ⟨by repeat (first | (with_reducible first | exact HB.out | apply below_alloc | apply pw_below_drewN | apply below_drew1) | exact HB.out)⟩⟩
                · replace c53 := Bool.eq_false_iff.mpr c53
                  subst c53
                  have H1 : (some false) = some r := by rw [if_neg (show ¬ (false = true) by decide)] at H; exact H
                  clear H
                  have H := H1
                  clear H1
                  obtain rfl := Option.some.inj H
                  go_wp2_with (first | ((with_reducible refine gate_callee (f := 34) rfl ?_); refine goesL_ (some 144) rfl rfl Try.func34 (by kernel_rfl) rfl #[.slice Ao13 t970.length co13, .slice Ao14 t971.length co14, .int .i64 t972, .slice Ao15 t973.length co15, .int .i64 1] rfl (by (try simp only [List.map_toArray, List.map_cons, List.map_nil]); first | done | rfl | (simp only [List.length_drop, List.length_take]; rfl)) ?_; (with_reducible refine (impl_DelaysAfter.calls kj10 _ _ t970 _ _ t971 t972 _ _ t973 1 t997 true _ ?side1 ?side2 ?side3 ?side4 ?side5 ?side6 A50.out).mono ?_); (case side1 => repeat (first | exact (Kd.S_reads' HO_5.out).2.2 | (with_reducible refine Kd.C_alloc ?_ _) | (with_reducible refine Kd.C_drewN ?_ _) | (with_reducible refine Kd.C_drew ?_))); (case side2 => exact (Kd.S_reads' HO_5.out).2.1); (case side3 => repeat (first | exact (Kd.Q_reads' HO_6.out).2.2 | (with_reducible refine Kd.C_alloc ?_ _) | (with_reducible refine Kd.C_drewN ?_ _) | (with_reducible refine Kd.C_drew ?_))); (case side4 => exact (Kd.Q_reads' HO_6.out).2.1); (case side5 => repeat (first | exact (Kd.R_reads' HO_8.out).2.2 | (with_reducible refine Kd.C_alloc ?_ _) | (with_reducible refine Kd.C_drewN ?_ _) | (with_reducible refine Kd.C_drew ?_))); (case side6 => exact (Kd.R_reads' HO_8.out).2.1); rintro e w57 ⟨v999, rfl, ho0, hb⟩; refine ⟨_, rfl, ?_⟩; have n0_ := Aside0.mk (Kd.S_elder' (by (with_reducible repeat (first | apply Kd.S_alloc | apply Kd.S_drewN | apply Kd.S_drew)); exact HO_5.out) (Kd.R_base ho0) hb); have n1_ := Aside0.mk (Kd.Q_elder' (by (with_reducible repeat (first | apply Kd.Q_alloc | apply Kd.Q_drewN | apply Kd.Q_drew)); exact HO_6.out) (Kd.R_base ho0) hb); have n2_ := Aside0.mk (Kd.R_elder' (by (with_reducible repeat (first | apply Kd.R_alloc | apply Kd.R_drewN | apply Kd.R_drew)); exact HO_8.out) (Kd.R_base ho0) hb); have n3_ := Aside0.mk (Kd.R_elder' (by (with_reducible repeat (first | apply Kd.R_alloc | apply Kd.R_drewN | apply Kd.R_drew)); exact HO_11.out) (Kd.R_base ho0) hb); have n4_ := Aside0.mk (Kd.R_lower (Kd.R_new' (Kd.R_new' (Kd.R_new' ho0 (Kd.Q_lt (by (with_reducible repeat (first | apply Kd.Q_alloc | apply Kd.Q_drewN | apply Kd.Q_drew)); exact HO_6.out))) (Kd.R_lt (by (with_reducible repeat (first | apply Kd.R_alloc | apply Kd.R_drewN | apply Kd.R_drew)); exact HO_8.out))) (Kd.R_lt (by (with_reducible repeat (first | apply Kd.R_alloc | apply Kd.R_drewN | apply Kd.R_drew)); exact HO_11.out))) (below_size (by repeat (first | (with_reducible first | exact HB.out | apply below_alloc | apply pw_below_drewN | apply below_drew1) | exact HB.out)))); have n5_ := Aside0.mk (below_step (by repeat (first | (with_reducible first | exact HB.out | apply below_alloc | apply pw_below_drewN | apply below_drew1) | exact HB.out)) hb); clear HO_5; clear HO_6; clear HO_8; clear HO_11; clear HB; have HO_5 := n0_; have HO_6 := n1_; have HO_8 := n2_; have HO_11 := n3_; have HO1000 := n4_; have HB := n5_; clear n0_ n1_ n2_ n3_ n4_ n5_; (try clear hb); (try clear hb2); (try clear hk); (try clear hi); (try clear ho0); obtain ⟨Ao58, co58, eo58⟩ := Kd.R_slice HO1000.out; subst eo58; obtain ⟨Ao59, co59, eo59⟩ := Kd.R_slice HO_11.out; subst eo59) | (go_at_call 42; (with_reducible refine (laws_qInts.calls kj10 _ _ t997 _ _ t984 false _ ?side1 ?side2 ?side3 ?side4 A52.out).mono ?_); (case side1 => repeat (first | exact (Kd.R_reads' HO1000.out).2.2 | (with_reducible refine Kd.C_alloc ?_ _) | (with_reducible refine Kd.C_drewN ?_ _) | (with_reducible refine Kd.C_drew ?_))); (case side2 => exact (Kd.R_reads' HO1000.out).2.1); (case side3 => repeat (first | exact (Kd.R_reads' HO_11.out).2.2 | (with_reducible refine Kd.C_alloc ?_ _) | (with_reducible refine Kd.C_drewN ?_ _) | (with_reducible refine Kd.C_drew ?_))); (case side4 => exact (Kd.R_reads' HO_11.out).2.1); rintro e w' ⟨rfl, ⟨nd, rfl⟩⟩))
                  go_ret
                  exact ⟨by first | rfl | (simp [errW_none, errW_some] <;> rfl) | (simp [*, errW_none, errW_some] <;> rfl), by repeat (first | (with_reducible first | exact HB.out | apply below_alloc | apply pw_below_drewN | apply below_drew1) | exact HB.out)⟩
              · replace c51 := Bool.eq_false_iff.mpr c51
                subst c51
                have H1 : (some false) = some r := by rw [if_neg (show ¬ (false = true) by decide)] at H; exact H
                clear H
                have H := H1
                clear H1
                obtain rfl := Option.some.inj H
                go_wp2_with (first | ((with_reducible refine gate_callee (f := 34) rfl ?_); refine goesL_ (some 144) rfl rfl Try.func34 (by kernel_rfl) rfl #[.slice Ao13 t970.length co13, .slice Ao14 t971.length co14, .int .i64 t972, .slice Ao15 t973.length co15, .int .i64 1] rfl (by (try simp only [List.map_toArray, List.map_cons, List.map_nil]); first | done | rfl | (simp only [List.length_drop, List.length_take]; rfl)) ?_; (with_reducible refine (impl_DelaysAfter.calls kj10 _ _ t970 _ _ t971 t972 _ _ t973 1 t997 false _ ?side1 ?side2 ?side3 ?side4 ?side5 ?side6 A50.out).mono ?_); (case side1 => repeat (first | exact (Kd.S_reads' HO_5.out).2.2 | (with_reducible refine Kd.C_alloc ?_ _) | (with_reducible refine Kd.C_drewN ?_ _) | (with_reducible refine Kd.C_drew ?_))); (case side2 => exact (Kd.S_reads' HO_5.out).2.1); (case side3 => repeat (first | exact (Kd.Q_reads' HO_6.out).2.2 | (with_reducible refine Kd.C_alloc ?_ _) | (with_reducible refine Kd.C_drewN ?_ _) | (with_reducible refine Kd.C_drew ?_))); (case side4 => exact (Kd.Q_reads' HO_6.out).2.1); (case side5 => repeat (first | exact (Kd.R_reads' HO_8.out).2.2 | (with_reducible refine Kd.C_alloc ?_ _) | (with_reducible refine Kd.C_drewN ?_ _) | (with_reducible refine Kd.C_drew ?_))); (case side6 => exact (Kd.R_reads' HO_8.out).2.1); rintro e w60 ⟨v999, rfl, ho0, hb⟩; refine ⟨_, rfl, ?_⟩; have n0_ := Aside0.mk (Kd.S_elder' (by (with_reducible repeat (first | apply Kd.S_alloc | apply Kd.S_drewN | apply Kd.S_drew)); exact HO_5.out) (Kd.R_base ho0) hb); have n1_ := Aside0.mk (Kd.Q_elder' (by (with_reducible repeat (first | apply Kd.Q_alloc | apply Kd.Q_drewN | apply Kd.Q_drew)); exact HO_6.out) (Kd.R_base ho0) hb); have n2_ := Aside0.mk (Kd.R_elder' (by (with_reducible repeat (first | apply Kd.R_alloc | apply Kd.R_drewN | apply Kd.R_drew)); exact HO_8.out) (Kd.R_base ho0) hb); have n3_ := Aside0.mk (Kd.R_elder' (by (with_reducible repeat (first | apply Kd.R_alloc | apply Kd.R_drewN | apply Kd.R_drew)); exact HO_11.out) (Kd.R_base ho0) hb); have n4_ := Aside0.mk (Kd.R_lower (Kd.R_new' (Kd.R_new' (Kd.R_new' ho0 (Kd.Q_lt (by (with_reducible repeat (first | apply Kd.Q_alloc | apply Kd.Q_drewN | apply Kd.Q_drew)); exact HO_6.out))) (Kd.R_lt (by (with_reducible repeat (first | apply Kd.R_alloc | apply Kd.R_drewN | apply Kd.R_drew)); exact HO_8.out))) (Kd.R_lt (by (with_reducible repeat (first | apply Kd.R_alloc | apply Kd.R_drewN | apply Kd.R_drew)); exact HO_11.out))) (below_size (by repeat (first | (with_reducible first | exact HB.out | apply below_alloc | apply pw_below_drewN | apply below_drew1) | exact HB.out)))); have n5_ := Aside0.mk (below_step (by repeat (first | (with_reducible first | exact HB.out | apply below_alloc | apply pw_below_drewN | apply below_drew1) | exact HB.out)) hb); clear HO_5; clear HO_6; clear HO_8; clear HO_11; clear HB; have HO_5 := n0_; have HO_6 := n1_; have HO_8 := n2_; have HO_11 := n3_; have HO1000 := n4_; have HB := n5_; clear n0_ n1_ n2_ n3_ n4_ n5_; (try clear hb); (try clear hb2); (try clear hk); (try clear hi); (try clear ho0)))
                go_ret
                exact ⟨by first | rfl | (simp [errW_none, errW_some] <;> rfl) | (simp [*, errW_none, errW_some] <;> rfl), by repeat (first | (with_reducible first | exact HB.out | apply below_alloc | apply pw_below_drewN | apply below_drew1) | exact HB.out)⟩
            · replace c49 := Bool.eq_false_iff.mpr c49
              subst c49
              have H1 : (laws_FnDelays.j1 kj10 l1 t970 t971 t972 t973 t989 t990 t994) = some r := by rw [if_neg (show ¬ (false = true) by decide)] at H; exact H
              clear H
              have H := H1
              clear H1
              have H' := Aside0.mk H
              clear H
              go_wp2
              go_meet
              case rel => exact ⟨_, H', ⟨by have := HJ10.out; first | omega | exact Nat.le_refl _⟩, ⟨by (with_reducible repeat (first | apply Kd.S_alloc | apply Kd.S_drewN | apply Kd.S_drew)); exact Kd.S_mono HO_5.out (fun _ hk => ⟨hk.1, hk.2.1⟩)⟩, ⟨by (with_reducible repeat (first | apply Kd.Q_alloc | apply Kd.Q_drewN | apply Kd.Q_drew)); exact Kd.Q_mono HO_6.out (fun _ hk => hk.1)⟩, ⟨by (with_reducible repeat (first | apply Kd.R_alloc | apply Kd.R_drewN | apply Kd.R_drew)); exact Kd.R_mono HO_8.out (fun _ hk => hk.1)⟩, ⟨by repeat (first | (with_reducible first | exact HB.out | apply below_alloc | apply pw_below_drewN | apply below_drew1) | exact HB.out)⟩⟩
          case rest =>
            clear HC48
            try clear c1
            try clear c2
            try clear p2
            try clear c3
            try clear c3b0
            try clear c4
            try clear c5
            try clear p6
            try clear c12
            try clear c22
            try clear c22b0
            try clear c22b1
            try clear c22b2
            try clear c24
            try clear c25
            try clear c25b0
            try clear c25b1
            try clear c25b2
            try clear c28
            try clear c28b0
            try clear c28b1
            try clear c29
            try clear c29b0
            try clear c29b1
            try clear c29b2
            try clear c30
            try clear c31
            try clear c32
            try clear c32b0
            try clear c32b1
            try clear c33
            try clear c33b0
            try clear c33b1
            try clear c33b2
            try clear c34
            try clear c35
            try clear c36
            try clear c37
            try clear c38
            try clear c41
            try clear c47
            try clear c49
            try clear c51
            try clear c53
            try clear p2
            try clear p6
            obtain ⟨kq, HA, HJ47, HO_5, HO_6, HO_8, HB⟩ := hcut
            cases kq with
            | zero => exact absurd HA.out (by simp [laws_FnDelays.j1])
            | succ kj47 =>
              have H := HA.out
              clear HA
              simp only [laws_FnDelays.j1] at H
              have HC61 := Aside0.mk H
              clear H
              go_upto_if 155 with (fail)
              go_cut [] (fun wc => ∃ (kq : Nat), Aside0 (laws_FnDelays.j3 kq l1 = some r) ∧ Aside0 (kq ≤ kj47) ∧ Aside0 (Below w.heap.size w wc))
              case first =>
                have H := HC61.out
                clear HC61
                by_cases c62 : t989 = true
                · as_aux_lemma =>
                  subst c62
                  have H1 : ((impl_DelaysAfter.f kj47 t970 t971 t972 t973 t990).bind fun bt1002 => (if bt1002.2 = true then ((laws_qSum.f kj47 bt1002.1).bind fun t1006 => (if t1006 = 0 then ((laws_qSum.f kj47 t973).bind fun t1007 => (laws_FnDelays.j2 kj47 l1 t970 t971 t972 t973 t990 (decide (t994 < t1007)))) else (laws_FnDelays.j2 kj47 l1 t970 t971 t972 t973 t990 true))) else (laws_FnDelays.j2 kj47 l1 t970 t971 t972 t973 t990 true))) = some r := by rw [if_pos rfl] at H; exact H
                  clear H
                  have H := H1
                  clear H1
                  replace H := Option.bind_eq_some_iff.mp H
                  obtain ⟨⟨t1002, t1003⟩, A630, H⟩ := H
                  replace H : (if t1003 = true then ((laws_qSum.f kj47 t1002).bind fun t1006 => (if t1006 = 0 then ((laws_qSum.f kj47 t973).bind fun t1007 => (laws_FnDelays.j2 kj47 l1 t970 t971 t972 t973 t990 (decide (t994 < t1007)))) else (laws_FnDelays.j2 kj47 l1 t970 t971 t972 t973 t990 true))) else (laws_FnDelays.j2 kj47 l1 t970 t971 t972 t973 t990 true)) = some r := H
                  have A63 := Aside0.mk A630
                  clear A630
                  have HC64 := Aside0.mk H
                  clear H
                  go_upto_region 18 with (first | ((with_reducible refine gate_callee (f := 34) rfl ?_); refine goesL_ (some 162) rfl rfl Try.func34 (by kernel_rfl) rfl #[.slice Ao13 t970.length co13, .slice Ao14 t971.length co14, .int .i64 t972, .slice Ao15 t973.length co15, .int .i64 t990] rfl (by (try simp only [List.map_toArray, List.map_cons, List.map_nil]); first | done | rfl | (simp only [List.length_drop, List.length_take]; rfl)) ?_; (with_reducible refine (impl_DelaysAfter.calls kj47 _ _ t970 _ _ t971 t972 _ _ t973 t990 t1002 t1003 _ ?side1 ?side2 ?side3 ?side4 ?side5 ?side6 A63.out).mono ?_); (case side1 => repeat (first | exact (Kd.S_reads' HO_5.out).2.2 | (with_reducible refine Kd.C_alloc ?_ _) | (with_reducible refine Kd.C_drewN ?_ _) | (with_reducible refine Kd.C_drew ?_))); (case side2 => exact (Kd.S_reads' HO_5.out).2.1); (case side3 => repeat (first | exact (Kd.Q_reads' HO_6.out).2.2 | (with_reducible refine Kd.C_alloc ?_ _) | (with_reducible refine Kd.C_drewN ?_ _) | (with_reducible refine Kd.C_drew ?_))); (case side4 => exact (Kd.Q_reads' HO_6.out).2.1); (case side5 => repeat (first | exact (Kd.R_reads' HO_8.out).2.2 | (with_reducible refine Kd.C_alloc ?_ _) | (with_reducible refine Kd.C_drewN ?_ _) | (with_reducible refine Kd.C_drew ?_))); (case side6 => exact (Kd.R_reads' HO_8.out).2.1); rintro e w65 ⟨v1004, rfl, ho0, hb⟩; refine ⟨_, rfl, ?_⟩; have n0_ := Aside0.mk (Kd.S_elder' (by (with_reducible repeat (first | apply Kd.S_alloc | apply Kd.S_drewN | apply Kd.S_drew)); exact HO_5.out) (Kd.R_base ho0) hb); have n1_ := Aside0.mk (Kd.Q_elder' (by (with_reducible repeat (first | apply Kd.Q_alloc | apply Kd.Q_drewN | apply Kd.Q_drew)); exact HO_6.out) (Kd.R_base ho0) hb); have n2_ := Aside0.mk (Kd.R_elder' (by (with_reducible repeat (first | apply Kd.R_alloc | apply Kd.R_drewN | apply Kd.R_drew)); exact HO_8.out) (Kd.R_base ho0) hb); have n3_ := Aside0.mk (Kd.R_lower (Kd.R_new' (Kd.R_new' ho0 (Kd.Q_lt (by (with_reducible repeat (first | apply Kd.Q_alloc | apply Kd.Q_drewN | apply Kd.Q_drew)); exact HO_6.out))) (Kd.R_lt (by (with_reducible repeat (first | apply Kd.R_alloc | apply Kd.R_drewN | apply Kd.R_drew)); exact HO_8.out))) (below_size (by repeat (first | (with_reducible first | exact HB.out | apply below_alloc | apply pw_below_drewN | apply below_drew1) | exact HB.out)))); have n4_ := Aside0.mk (below_step (by repeat (first | (with_reducible first | exact HB.out | apply below_alloc | apply pw_below_drewN | apply below_drew1) | exact HB.out)) hb); clear HO_5; clear HO_6; clear HO_8; clear HB; have HO_5 := n0_; have HO_6 := n1_; have HO_8 := n2_; have HO1005 := n3_; have HB := n4_; clear n0_ n1_ n2_ n3_ n4_; (try clear hb); (try clear hb2); (try clear hk); (try clear hi); (try clear ho0)))
                  (try simp only [Act.put, List.setIfInBounds_toArray, List.set_cons_zero, List.set_cons_succ])
                  go_cut [177] (fun v177 wc => ∃ (kq : Nat) (x177_63 : Bool), v177 = .bool x177_63 ∧ Aside0 (laws_FnDelays.j2 kq l1 t970 t971 t972 t973 t990 x177_63 = some r) ∧ Aside0 (kq ≤ kj47) ∧ Aside0 (Kd.S (Kd.slice 3 (Kd.int .i64)) 23 wc w.heap.size (fun k_ => some k_ ≠ ((.slice Ao14 t971.length co14) : Value).ownBlock ∧ some k_ ≠ ((.slice Ao15 t973.length co15) : Value).ownBlock) (.slice Ao13 t970.length co13) t970) ∧ Aside0 (Kd.Q (Kd.int .i64) 3 wc w.heap.size (fun k_ => some k_ ≠ ((.slice Ao15 t973.length co15) : Value).ownBlock) (.slice Ao14 t971.length co14) t971) ∧ Aside0 (Kd.R (Kd.int .i64) 3 wc w.heap.size (fun k_ => some k_ ≠ ((.slice Ao14 t971.length co14) : Value).ownBlock) (.slice Ao15 t973.length co15) t973) ∧ Aside0 (Below w.heap.size w wc))
                  case first =>
                    have H := HC64.out
                    clear HC64
                    by_cases c66 : t1003 = true
                    · subst c66
                      have H1 : ((laws_qSum.f kj47 t1002).bind fun t1006 => (if t1006 = 0 then ((laws_qSum.f kj47 t973).bind fun t1007 => (laws_FnDelays.j2 kj47 l1 t970 t971 t972 t973 t990 (decide (t994 < t1007)))) else (laws_FnDelays.j2 kj47 l1 t970 t971 t972 t973 t990 true))) = some r := by rw [if_pos rfl] at H; exact H
                      clear H
                      have H := H1
                      clear H1
                      replace H := Option.bind_eq_some_iff.mp H
                      obtain ⟨t1006, A670, H⟩ := H
                      replace H : (if t1006 = 0 then ((laws_qSum.f kj47 t973).bind fun t1007 => (laws_FnDelays.j2 kj47 l1 t970 t971 t972 t973 t990 (decide (t994 < t1007)))) else (laws_FnDelays.j2 kj47 l1 t970 t971 t972 t973 t990 true)) = some r := H
                      have A67 := Aside0.mk A670
                      clear A670
                      by_cases c68 : t1006 = 0
                      · rw [if_pos c68] at H
                        have c68b0 : (t1006 == 0) = true := beq_iff_eq.mpr c68
                        have c68b1 : (t1006 != 0) = false := bne_eq_false_iff_eq.mpr c68
                        clear c68
                        (first | rw [c68b0] | (simp only [i64_w, i32_w]; rw [c68b0]) | skip)
                        replace H := Option.bind_eq_some_iff.mp H
                        obtain ⟨t1007, A690, H⟩ := H
                        replace H : (laws_FnDelays.j2 kj47 l1 t970 t971 t972 t973 t990 (decide (t994 < t1007))) = some r := H
                        have A69 := Aside0.mk A690
                        clear A690
                        have H' := Aside0.mk H
                        clear H
                        obtain ⟨Ao70, co70, eo70⟩ := Kd.R_slice HO1005.out
                        subst eo70
                        go_wp2_with (first | (go_at_call 43; (with_reducible refine (laws_qSum.calls kj47 _ _ t1002 t1006 _ ?side1 ?side2 A67.out).mono ?_); (case side1 => repeat (first | exact (Kd.R_reads' HO1005.out).2.2 | (with_reducible refine Kd.C_alloc ?_ _) | (with_reducible refine Kd.C_drewN ?_ _) | (with_reducible refine Kd.C_drew ?_))); (case side2 => exact (Kd.R_reads' HO1005.out).2.1); rintro e w' ⟨rfl, ⟨nd, rfl⟩⟩) | (go_at_call 43; (with_reducible refine (laws_qSum.calls kj47 _ _ t973 t1007 _ ?side1 ?side2 A69.out).mono ?_); (case side1 => repeat (first | exact (Kd.R_reads' HO_8.out).2.2 | (with_reducible refine Kd.C_alloc ?_ _) | (with_reducible refine Kd.C_drewN ?_ _) | (with_reducible refine Kd.C_drew ?_))); (case side2 => exact (Kd.R_reads' HO_8.out).2.1); rintro e w' ⟨rfl, ⟨nd, rfl⟩⟩))
                        go_meet
                        case rel => exact ⟨_, (decide (t994 < t1007)), (by first | rfl | (simp; done) | (simp [*]; done)), H', ⟨by have := HJ10.out; have := HJ47.out; first | omega | exact Nat.le_refl _⟩, ⟨by (with_reducible repeat (first | apply Kd.S_alloc | apply Kd.S_drewN | apply Kd.S_drew)); exact Kd.S_mono HO_5.out (fun _ hk => ⟨hk.1.1, hk.1.2⟩)⟩, ⟨by (with_reducible repeat (first | apply Kd.Q_alloc | apply Kd.Q_drewN | apply Kd.Q_drew)); exact Kd.Q_mono HO_6.out (fun _ hk => hk.1)⟩, ⟨by (with_reducible repeat (first | apply Kd.R_alloc | apply Kd.R_drewN | apply Kd.R_drew)); exact Kd.R_mono HO_8.out (fun _ hk => hk.1)⟩, ⟨by repeat (first | (with_reducible first | exact HB.out | apply below_alloc | apply pw_below_drewN | apply below_drew1) | exact HB.out)⟩⟩
                      · rw [if_neg c68] at H
                        have c68b0 : (t1006 == 0) = false := beq_eq_false_iff_ne.mpr c68
                        have c68b1 : (t1006 != 0) = true := bne_iff_ne.mpr c68
                        (first | rw [c68b0] | (simp only [i64_w, i32_w]; rw [c68b0]) | skip)
                        have H' := Aside0.mk H
                        clear H
                        obtain ⟨Ao71, co71, eo71⟩ := Kd.R_slice HO1005.out
                        subst eo71
                        go_wp2_with (first | (go_at_call 43; (with_reducible refine (laws_qSum.calls kj47 _ _ t1002 t1006 _ ?side1 ?side2 A67.out).mono ?_); (case side1 => repeat (first | exact (Kd.R_reads' HO1005.out).2.2 | (with_reducible refine Kd.C_alloc ?_ _) | (with_reducible refine Kd.C_drewN ?_ _) | (with_reducible refine Kd.C_drew ?_))); (case side2 => exact (Kd.R_reads' HO1005.out).2.1); rintro e w' ⟨rfl, ⟨nd, rfl⟩⟩))
                        go_meet
                        case rel => exact ⟨_, (true), (by first | rfl | (simp; done) | (simp [*]; done)), H', ⟨by have := HJ10.out; have := HJ47.out; first | omega | exact Nat.le_refl _⟩, ⟨by (with_reducible repeat (first | apply Kd.S_alloc | apply Kd.S_drewN | apply Kd.S_drew)); exact Kd.S_mono HO_5.out (fun _ hk => ⟨hk.1.1, hk.1.2⟩)⟩, ⟨by (with_reducible repeat (first | apply Kd.Q_alloc | apply Kd.Q_drewN | apply Kd.Q_drew)); exact Kd.Q_mono HO_6.out (fun _ hk => hk.1)⟩, ⟨by (with_reducible repeat (first | apply Kd.R_alloc | apply Kd.R_drewN | apply Kd.R_drew)); exact Kd.R_mono HO_8.out (fun _ hk => hk.1)⟩, ⟨by repeat (first | (with_reducible first | exact HB.out | apply below_alloc | apply pw_below_drewN | apply below_drew1) | exact HB.out)⟩⟩
                    · replace c66 := Bool.eq_false_iff.mpr c66
                      subst c66
                      have H1 : (laws_FnDelays.j2 kj47 l1 t970 t971 t972 t973 t990 true) = some r := by rw [if_neg (show ¬ (false = true) by decide)] at H; exact H
                      clear H
                      have H := H1
                      clear H1
                      have H' := Aside0.mk H
                      clear H
                      go_wp2
                      go_meet
                      case rel => exact ⟨_, (true), (by first | rfl | (simp; done) | (simp [*]; done)), H', ⟨by have := HJ10.out; have := HJ47.out; first | omega | exact Nat.le_refl _⟩, ⟨by (with_reducible repeat (first | apply Kd.S_alloc | apply Kd.S_drewN | apply Kd.S_drew)); exact Kd.S_mono HO_5.out (fun _ hk => ⟨hk.1.1, hk.1.2⟩)⟩, ⟨by (with_reducible repeat (first | apply Kd.Q_alloc | apply Kd.Q_drewN | apply Kd.Q_drew)); exact Kd.Q_mono HO_6.out (fun _ hk => hk.1)⟩, ⟨by (with_reducible repeat (first | apply Kd.R_alloc | apply Kd.R_drewN | apply Kd.R_drew)); exact Kd.R_mono HO_8.out (fun _ hk => hk.1)⟩, ⟨by repeat (first | (with_reducible first | exact HB.out | apply below_alloc | apply pw_below_drewN | apply below_drew1) | exact HB.out)⟩⟩
                  case rest =>
                    clear HC64
                    try clear c1
                    try clear c2
                    try clear p2
                    try clear c3
                    try clear c3b0
                    try clear c4
                    try clear c5
                    try clear c6
                    try clear p6
                    try clear c12
                    try clear c22
                    try clear c22b0
                    try clear c22b1
                    try clear c22b2
                    try clear c24
                    try clear c25
                    try clear c25b0
                    try clear c25b1
                    try clear c25b2
                    try clear c28
                    try clear c28b0
                    try clear c28b1
                    try clear c29
                    try clear c29b0
                    try clear c29b1
                    try clear c29b2
                    try clear c30
                    try clear c31
                    try clear c32
                    try clear c32b0
                    try clear c32b1
                    try clear c33
                    try clear c33b0
                    try clear c33b1
                    try clear c33b2
                    try clear c34
                    try clear c35
                    try clear c36
                    try clear c37
                    try clear c38
                    try clear c41
                    try clear c47
                    try clear c49
                    try clear c51
                    try clear c53
                    try clear c62
                    try clear p64
                    try clear c66
                    try clear c68
                    try clear c68b0
                    try clear c68b1
                    try clear p2
                    try clear p6
                    obtain ⟨kq, x177_63, rfl, HA, HJ63, HO_5, HO_6, HO_8, HB⟩ := hcut
                    cases kq with
                    | zero => exact absurd HA.out (by simp [laws_FnDelays.j2])
                    | succ kj63 =>
                      have H := HA.out
                      clear HA
                      simp only [laws_FnDelays.j2] at H
                      by_cases c72 : x177_63 = true
                      · subst c72
                        have H1 : (some false) = some r := by rw [if_pos rfl] at H; exact H
                        clear H
                        have H := H1
                        clear H1
                        obtain rfl := Option.some.inj H
                        go_wp2
                        go_ret
                        exact ⟨by first | rfl | (simp [errW_none, errW_some] <;> rfl) | (simp [*, errW_none, errW_some] <;> rfl), by repeat (first | (with_reducible first | exact HB.out | apply below_alloc | apply pw_below_drewN | apply below_drew1) | exact HB.out)⟩
                      · as_aux_lemma =>
                        replace c72 := Bool.eq_false_iff.mpr c72
                        subst c72
                        have H1 : (if t990 > 0 then ((impl_DelaysAfter.f kj63 t970 t971 t972 t973 (wrap64 (t990 - 1))).bind fun bt1008 => (if bt1008.2 = true then ((laws_qSum.f kj63 bt1008.1).bind fun t1012 => (if t1012 = 0 then (some false) else (laws_FnDelays.j3 kj63 l1))) else (some false))) else (laws_FnDelays.j3 kj63 l1)) = some r := by rw [if_neg (show ¬ (false = true) by decide)] at H; exact H
                        clear H
                        have H := H1
                        clear H1
                        by_cases c73 : t990 > 0
                        · as_aux_lemma =>
                          rw [if_pos c73] at H
                          have c73b0 : decide (0 < t990) = true := decide_eq_true c73
                          clear c73
                          replace H := Option.bind_eq_some_iff.mp H
                          obtain ⟨⟨t1008, t1009⟩, A740, H⟩ := H
                          replace H : (if t1009 = true then ((laws_qSum.f kj63 t1008).bind fun t1012 => (if t1012 = 0 then (some false) else (laws_FnDelays.j3 kj63 l1))) else (some false)) = some r := H
                          have A74 := Aside0.mk A740
                          clear A740
                          by_cases c75 : t1009 = true
                          · subst c75
                            have H1 : ((laws_qSum.f kj63 t1008).bind fun t1012 => (if t1012 = 0 then (some false) else (laws_FnDelays.j3 kj63 l1))) = some r := by rw [if_pos rfl] at H; exact H
                            clear H
                            have H := H1
                            clear H1
                            replace H := Option.bind_eq_some_iff.mp H
                            obtain ⟨t1012, A760, H⟩ := H
                            replace H : (if t1012 = 0 then (some false) else (laws_FnDelays.j3 kj63 l1)) = some r := H
                            have A76 := Aside0.mk A760
                            clear A760
                            by_cases c77 : t1012 = 0
                            · rw [if_pos c77] at H
                              have c77b0 : (t1012 == 0) = true := beq_iff_eq.mpr c77
                              have c77b1 : (t1012 != 0) = false := bne_eq_false_iff_eq.mpr c77
                              clear c77
                              obtain rfl := Option.some.inj H
                              go_wp2_with (first | ((with_reducible refine gate_callee (f := 34) rfl ?_); refine goesL_ (some 187) rfl rfl Try.func34 (by kernel_rfl) rfl #[.slice Ao13 t970.length co13, .slice Ao14 t971.length co14, .int .i64 t972, .slice Ao15 t973.length co15, .int .i64 (wrap64 (t990 - 1))] rfl (by (try simp only [List.map_toArray, List.map_cons, List.map_nil]); first | done | rfl | (simp only [List.length_drop, List.length_take]; rfl)) ?_; (with_reducible refine (impl_DelaysAfter.calls kj63 _ _ t970 _ _ t971 t972 _ _ t973 (wrap64 (t990 - 1)) t1008 true _ ?side1 ?side2 ?side3 ?side4 ?side5 ?side6 A74.out).mono ?_); (case side1 => repeat (first | exact (Kd.S_reads' HO_5.out).2.2 | (with_reducible refine Kd.C_alloc ?_ _) | (with_reducible refine Kd.C_drewN ?_ _) | (with_reducible refine Kd.C_drew ?_))); (case side2 => exact (Kd.S_reads' HO_5.out).2.1); (case side3 => repeat (first | exact (Kd.Q_reads' HO_6.out).2.2 | (with_reducible refine Kd.C_alloc ?_ _) | (with_reducible refine Kd.C_drewN ?_ _) | (with_reducible refine Kd.C_drew ?_))); (case side4 => exact (Kd.Q_reads' HO_6.out).2.1); (case side5 => repeat (first | exact (Kd.R_reads' HO_8.out).2.2 | (with_reducible refine Kd.C_alloc ?_ _) | (with_reducible refine Kd.C_drewN ?_ _) | (with_reducible refine Kd.C_drew ?_))); (case side6 => exact (Kd.R_reads' HO_8.out).2.1); rintro e w78 ⟨v1010, rfl, ho0, hb⟩; refine ⟨_, rfl, ?_⟩; have n0_ := Aside0.mk (Kd.S_elder' (by (with_reducible repeat (first | apply Kd.S_alloc | apply Kd.S_drewN | apply Kd.S_drew)); exact HO_5.out) (Kd.R_base ho0) hb); have n1_ := Aside0.mk (Kd.Q_elder' (by (with_reducible repeat (first | apply Kd.Q_alloc | apply Kd.Q_drewN | apply Kd.Q_drew)); exact HO_6.out) (Kd.R_base ho0) hb); have n2_ := Aside0.mk (Kd.R_elder' (by (with_reducible repeat (first | apply Kd.R_alloc | apply Kd.R_drewN | apply Kd.R_drew)); exact HO_8.out) (Kd.R_base ho0) hb); have n3_ := Aside0.mk (Kd.R_lower (Kd.R_new' (Kd.R_new' ho0 (Kd.Q_lt (by (with_reducible repeat (first | apply Kd.Q_alloc | apply Kd.Q_drewN | apply Kd.Q_drew)); exact HO_6.out))) (Kd.R_lt (by (with_reducible repeat (first | apply Kd.R_alloc | apply Kd.R_drewN | apply Kd.R_drew)); exact HO_8.out))) (below_size (by repeat (first | (with_reducible first | exact HB.out | apply below_alloc | apply pw_below_drewN | apply below_drew1) | exact HB.out)))); have n4_ := Aside0.mk (below_step (by repeat (first | (with_reducible first | exact HB.out | apply below_alloc | apply pw_below_drewN | apply below_drew1) | exact HB.out)) hb); clear HO_5; clear HO_6; clear HO_8; clear HB; have HO_5 := n0_; have HO_6 := n1_; have HO_8 := n2_; have HO1011 := n3_; have HB := n4_; clear n0_ n1_ n2_ n3_ n4_; (try clear hb); (try clear hb2); (try clear hk); (try clear hi); (try clear ho0); obtain ⟨Ao79, co79, eo79⟩ := Kd.R_slice HO1011.out; subst eo79) | (go_at_call 43; (with_reducible refine (laws_qSum.calls kj63 _ _ t1008 t1012 _ ?side1 ?side2 A76.out).mono ?_); (case side1 => repeat (first | exact (Kd.R_reads' HO1011.out).2.2 | (with_reducible refine Kd.C_alloc ?_ _) | (with_reducible refine Kd.C_drewN ?_ _) | (with_reducible refine Kd.C_drew ?_))); (case side2 => exact (Kd.R_reads' HO1011.out).2.1); rintro e w' ⟨rfl, ⟨nd, rfl⟩⟩))
                              go_ret
                              exact ⟨by first | rfl | (simp [errW_none, errW_some] <;> rfl) | (simp [*, errW_none, errW_some] <;> rfl), by repeat (first | (with_reducible first | exact HB.out | apply below_alloc | apply pw_below_drewN | apply below_drew1) | exact HB.out)⟩
                            · rw [if_neg c77] at H
                              have c77b0 : (t1012 == 0) = false := beq_eq_false_iff_ne.mpr c77
                              have c77b1 : (t1012 != 0) = true := bne_iff_ne.mpr c77
                              have H' := Aside0.mk H
                              clear H
                              go_wp2_with (first | ((with_reducible refine gate_callee (f := 34) rfl ?_); refine goesL_ (some 187) rfl rfl Try.func34 (by kernel_rfl) rfl #[.slice Ao13 t970.length co13, .slice Ao14 t971.length co14, .int .i64 t972, .slice Ao15 t973.length co15, .int .i64 (wrap64 (t990 - 1))] rfl (by (try simp only [List.map_toArray, List.map_cons, List.map_nil]); first | done | rfl | (simp only [List.length_drop, List.length_take]; rfl)) ?_; (with_reducible refine (impl_DelaysAfter.calls kj63 _ _ t970 _ _ t971 t972 _ _ t973 (wrap64 (t990 - 1)) t1008 true _ ?side1 ?side2 ?side3 ?side4 ?side5 ?side6 A74.out).mono ?_); (case side1 => repeat (first | exact (Kd.S_reads' HO_5.out).2.2 | (with_reducible refine Kd.C_alloc ?_ _) | (with_reducible refine Kd.C_drewN ?_ _) | (with_reducible refine Kd.C_drew ?_))); (case side2 => exact (Kd.S_reads' HO_5.out).2.1); (case side3 => repeat (first | exact (Kd.Q_reads' HO_6.out).2.2 | (with_reducible refine Kd.C_alloc ?_ _) | (with_reducible refine Kd.C_drewN ?_ _) | (with_reducible refine Kd.C_drew ?_))); (case side4 => exact (Kd.Q_reads' HO_6.out).2.1); (case side5 => repeat (first | exact (Kd.R_reads' HO_8.out).2.2 | (with_reducible refine Kd.C_alloc ?_ _) | (with_reducible refine Kd.C_drewN ?_ _) | (with_reducible refine Kd.C_drew ?_))); (case side6 => exact (Kd.R_reads' HO_8.out).2.1); rintro e w80 ⟨v1010, rfl, ho0, hb⟩; refine ⟨_, rfl, ?_⟩; have n0_ := Aside0.mk (Kd.S_elder' (by (with_reducible repeat (first | apply Kd.S_alloc | apply Kd.S_drewN | apply Kd.S_drew)); exact HO_5.out) (Kd.R_base ho0) hb); have n1_ := Aside0.mk (Kd.Q_elder' (by (with_reducible repeat (first | apply Kd.Q_alloc | apply Kd.Q_drewN | apply Kd.Q_drew)); exact HO_6.out) (Kd.R_base ho0) hb); have n2_ := Aside0.mk (Kd.R_elder' (by (with_reducible repeat (first | apply Kd.R_alloc | apply Kd.R_drewN | apply Kd.R_drew)); exact HO_8.out) (Kd.R_base ho0) hb); have n3_ := Aside0.mk (Kd.R_lower (Kd.R_new' (Kd.R_new' ho0 (Kd.Q_lt (by (with_reducible repeat (first | apply Kd.Q_alloc | apply Kd.Q_drewN | apply Kd.Q_drew)); exact HO_6.out))) (Kd.R_lt (by (with_reducible repeat (first | apply Kd.R_alloc | apply Kd.R_drewN | apply Kd.R_drew)); exact HO_8.out))) (below_size (by repeat (first | (with_reducible first | exact HB.out | apply below_alloc | apply pw_below_drewN | apply below_drew1) | exact HB.out)))); have n4_ := Aside0.mk (below_step (by repeat (first | (with_reducible first | exact HB.out | apply below_alloc | apply pw_below_drewN | apply below_drew1) | exact HB.out)) hb); clear HO_5; clear HO_6; clear HO_8; clear HB; have HO_5 := n0_; have HO_6 := n1_; have HO_8 := n2_; have HO1011 := n3_; have HB := n4_; clear n0_ n1_ n2_ n3_ n4_; (try clear hb); (try clear hb2); (try clear hk); (try clear hi); (try clear ho0); obtain ⟨Ao81, co81, eo81⟩ := Kd.R_slice HO1011.out; subst eo81) | (go_at_call 43; (with_reducible refine (laws_qSum.calls kj63 _ _ t1008 t1012 _ ?side1 ?side2 A76.out).mono ?_); (case side1 => repeat (first | exact (Kd.R_reads' HO1011.out).2.2 | (with_reducible refine Kd.C_alloc ?_ _) | (with_reducible refine Kd.C_drewN ?_ _) | (with_reducible refine Kd.C_drew ?_))); (case side2 => exact (Kd.R_reads' HO1011.out).2.1); rintro e w' ⟨rfl, ⟨nd, rfl⟩⟩))
                              go_meet
                              case rel => exact ⟨_, H', ⟨by have := HJ10.out; have := HJ47.out; have := HJ63.out; first | omega | exact Nat.le_refl _⟩, ⟨by repeat (first | (with_reducible first | exact HB.out | apply below_alloc | apply pw_below_drewN | apply below_drew1) | exact HB.out)⟩⟩
                          · replace c75 := Bool.eq_false_iff.mpr c75
                            subst c75
                            have H1 : (some false) = some r := by rw [if_neg (show ¬ (false = true) by decide)] at H; exact H
                            clear H
                            have H := H1
                            clear H1
                            obtain rfl := Option.some.inj H
                            go_wp2_with (first | ((with_reducible refine gate_callee (f := 34) rfl ?_); refine goesL_ (some 187) rfl rfl Try.func34 (by kernel_rfl) rfl #[.slice Ao13 t970.length co13, .slice Ao14 t971.length co14, .int .i64 t972, .slice Ao15 t973.length co15, .int .i64 (wrap64 (t990 - 1))] rfl (by (try simp only [List.map_toArray, List.map_cons, List.map_nil]); first | done | rfl | (simp only [List.length_drop, List.length_take]; rfl)) ?_; (with_reducible refine (impl_DelaysAfter.calls kj63 _ _ t970 _ _ t971 t972 _ _ t973 (wrap64 (t990 - 1)) t1008 false _ ?side1 ?side2 ?side3 ?side4 ?side5 ?side6 A74.out).mono ?_); (case side1 => repeat (first | exact (Kd.S_reads' HO_5.out).2.2 | (with_reducible refine Kd.C_alloc ?_ _) | (with_reducible refine Kd.C_drewN ?_ _) | (with_reducible refine Kd.C_drew ?_))); (case side2 => exact (Kd.S_reads' HO_5.out).2.1); (case side3 => repeat (first | exact (Kd.Q_reads' HO_6.out).2.2 | (with_reducible refine Kd.C_alloc ?_ _) | (with_reducible refine Kd.C_drewN ?_ _) | (with_reducible refine Kd.C_drew ?_))); (case side4 => exact (Kd.Q_reads' HO_6.out).2.1); (case side5 => repeat (first | exact (Kd.R_reads' HO_8.out).2.2 | (with_reducible refine Kd.C_alloc ?_ _) | (with_reducible refine Kd.C_drewN ?_ _) | (with_reducible refine Kd.C_drew ?_))); (case side6 => exact (Kd.R_reads' HO_8.out).2.1); rintro e w82 ⟨v1010, rfl, ho0, hb⟩; refine ⟨_, rfl, ?_⟩; have n0_ := Aside0.mk (Kd.S_elder' (by (with_reducible repeat (first | apply Kd.S_alloc | apply Kd.S_drewN | apply Kd.S_drew)); exact HO_5.out) (Kd.R_base ho0) hb); have n1_ := Aside0.mk (Kd.Q_elder' (by (with_reducible repeat (first | apply Kd.Q_alloc | apply Kd.Q_drewN | apply Kd.Q_drew)); exact HO_6.out) (Kd.R_base ho0) hb); have n2_ := Aside0.mk (Kd.R_elder' (by (with_reducible repeat (first | apply Kd.R_alloc | apply Kd.R_drewN | apply Kd.R_drew)); exact HO_8.out) (Kd.R_base ho0) hb); have n3_ := Aside0.mk (Kd.R_lower (Kd.R_new' (Kd.R_new' ho0 (Kd.Q_lt (by (with_reducible repeat (first | apply Kd.Q_alloc | apply Kd.Q_drewN | apply Kd.Q_drew)); exact HO_6.out))) (Kd.R_lt (by (with_reducible repeat (first | apply Kd.R_alloc | apply Kd.R_drewN | apply Kd.R_drew)); exact HO_8.out))) (below_size (by repeat (first | (with_reducible first | exact HB.out | apply below_alloc | apply pw_below_drewN | apply below_drew1) | exact HB.out)))); have n4_ := Aside0.mk (below_step (by repeat (first | (with_reducible first | exact HB.out | apply below_alloc | apply pw_below_drewN | apply below_drew1) | exact HB.out)) hb); clear HO_5; clear HO_6; clear HO_8; clear HB; have HO_5 := n0_; have HO_6 := n1_; have HO_8 := n2_; have HO1011 := n3_; have HB := n4_; clear n0_ n1_ n2_ n3_ n4_; (try clear hb); (try clear hb2); (try clear hk); (try clear hi); (try clear ho0)))
                            go_ret
                            exact ⟨by first | rfl | (simp [errW_none, errW_some] <;> rfl) | (simp [*, errW_none, errW_some] <;> rfl), by repeat (first | (with_reducible first | exact HB.out | apply below_alloc | apply pw_below_drewN | apply below_drew1) | exact HB.out)⟩
                        · rw [if_neg c73] at H
                          have c73b0 : decide (0 < t990) = false := decide_eq_false c73
                          clear c73
                          have H' := Aside0.mk H
                          clear H
                          go_wp2
                          go_meet
                          case rel => exact ⟨_, H', ⟨by have := HJ10.out; have := HJ47.out; have := HJ63.out; first | omega | exact Nat.le_refl _⟩, ⟨by repeat (first | (with_reducible first | exact HB.out | apply below_alloc | apply pw_below_drewN | apply below_drew1) | exact HB.out)⟩⟩
                · replace c62 := Bool.eq_false_iff.mpr c62
                  subst c62
                  have H1 : (laws_FnDelays.j3 kj47 l1) = some r := by rw [if_neg (show ¬ (false = true) by decide)] at H; exact H
                  clear H
                  have H := H1
                  clear H1
                  have H' := Aside0.mk H
                  clear H
                  go_wp2
                  go_meet
                  case rel => exact ⟨_, H', ⟨by have := HJ10.out; have := HJ47.out; first | omega | exact Nat.le_refl _⟩, ⟨by repeat (first | (with_reducible first | exact HB.out | apply below_alloc | apply pw_below_drewN | apply below_drew1) | exact HB.out)⟩⟩
              case rest =>
                clear HC61
                try clear c1
                try clear c2
                try clear p2
                try clear c3
                try clear c3b0
                try clear c4
                try clear c5
                try clear c6
                try clear p6
                try clear c7
                try clear c12
                try clear c22
                try clear c22b0
                try clear c22b1
                try clear c22b2
                try clear c24
                try clear c25
                try clear c25b0
                try clear c25b1
                try clear c25b2
                try clear c28
                try clear c28b0
                try clear c28b1
                try clear c29
                try clear c29b0
                try clear c29b1
                try clear c29b2
                try clear c30
                try clear c31
                try clear c32
                try clear c32b0
                try clear c32b1
                try clear c33
                try clear c33b0
                try clear c33b1
                try clear c33b2
                try clear c34
                try clear c35
                try clear c36
                try clear c37
                try clear c38
                try clear c41
                try clear c47
                try clear c49
                try clear c51
                try clear c53
                try clear c62
                try clear p64
                try clear c66
                try clear c68
                try clear c68b0
                try clear c68b1
                try clear c72
                try clear c73
                try clear c73b0
                try clear c75
                try clear c77
                try clear c77b0
                try clear c77b1
                try clear p2
                try clear p6
                try clear p64
                obtain ⟨kq, HA, HJ60, HB⟩ := hcut
                cases kq with
                | zero => exact absurd HA.out (by simp [laws_FnDelays.j3])
                | succ kj60 =>
                  have H := HA.out
                  clear HA
                  simp only [laws_FnDelays.j3] at H
                  replace H := Option.bind_eq_some_iff.mp H
                  obtain ⟨⟨t1013, t1014, t1015, t1016, t1017⟩, A830, H⟩ := H
                  replace H : ((impl_DelaysAfter.f kj60 t1013 t1014 t1015 t1016 t1017).bind fun bt1024 => ((spec_DelaysAfter.f kj60 t1013 t1014 t1015 t1016 t1017).bind fun bt1028 => (if (bt1024.2 == bt1028.2) = true then ((laws_qInts.f kj60 bt1024.1 bt1028.1).bind fun t1032 => (some t1032)) else (some false)))) = some r := H
                  have A83 := Aside0.mk A830
                  clear A830
                  replace H := Option.bind_eq_some_iff.mp H
                  obtain ⟨⟨t1024, t1025⟩, A840, H⟩ := H
                  replace H : ((spec_DelaysAfter.f kj60 t1013 t1014 t1015 t1016 t1017).bind fun bt1028 => (if (t1025 == bt1028.2) = true then ((laws_qInts.f kj60 t1024 bt1028.1).bind fun t1032 => (some t1032)) else (some false))) = some r := H
                  have A84 := Aside0.mk A840
                  clear A840
                  replace H := Option.bind_eq_some_iff.mp H
                  obtain ⟨⟨t1028, t1029⟩, A850, H⟩ := H
                  replace H : (if (t1025 == t1029) = true then ((laws_qInts.f kj60 t1024 t1028).bind fun t1032 => (some t1032)) else (some false)) = some r := H
                  have A85 := Aside0.mk A850
                  clear A850
                  by_cases c86 : (t1025 == t1029) = true
                  · rw [if_pos c86] at H
                    have c86b0 : (t1025 == t1029) = true := c86
                    (try (have c86b1 : decide (t1025 = t1029) = true := by simpa using c86))
                    (try (have c86b2 : (t1025 == t1029) = true := by simpa using c86))
                    clear c86
                    replace H := Option.bind_eq_some_iff.mp H
                    obtain ⟨t1032, A870, H⟩ := H
                    replace H : (some t1032) = some r := H
                    have A87 := Aside0.mk A870
                    clear A870
                    obtain rfl := Option.some.inj H
                    go_wp2_with (first | ((with_reducible refine gate_callee (f := 44) rfl ?_); refine goesL_ (some 199) rfl rfl Try.func44 (by kernel_rfl) rfl #[.slice A1 l1.length c1] rfl (by (try simp only [List.map_toArray, List.map_cons, List.map_nil]); first | done | rfl | (simp only [List.length_drop, List.length_take]; rfl)) ?_; (with_reducible refine (spec_DrawDelaysAfter.calls kj60 _ _ l1 t1013 t1014 t1015 t1016 t1017 _ ?side1 ?side2 A83.out).mono ?_); (case side1 => repeat (first | exact (Kd.C_below HR1.out HB.out) | (with_reducible refine Kd.C_alloc ?_ _) | (with_reducible refine Kd.C_drewN ?_ _) | (with_reducible refine Kd.C_drew ?_))); (case side2 => exact HC1.out); rintro e w88 ⟨v1018, v1020, v1022, rfl, ho0, ho1, ho2, hb⟩; refine ⟨_, rfl, ?_⟩; have n0_ := Aside0.mk (Kd.S_lower ho0 (below_size (by repeat (first | (with_reducible first | exact HB.out | apply below_alloc | apply pw_below_drewN | apply below_drew1) | exact HB.out)))); have n1_ := Aside0.mk (Kd.Q_lower ho1 (below_size (by repeat (first | (with_reducible first | exact HB.out | apply below_alloc | apply pw_below_drewN | apply below_drew1) | exact HB.out)))); have n2_ := Aside0.mk (Kd.R_lower ho2 (below_size (by repeat (first | (with_reducible first | exact HB.out | apply below_alloc | apply pw_below_drewN | apply below_drew1) | exact HB.out)))); have n3_ := Aside0.mk (below_step (by repeat (first | (with_reducible first | exact HB.out | apply below_alloc | apply pw_below_drewN | apply below_drew1) | exact HB.out)) hb); clear HB; have HO1019 := n0_; have HO1021 := n1_; have HO1023 := n2_; have HB := n3_; clear n0_ n1_ n2_ n3_; (try clear hb); (try clear hb2); (try clear hk); (try clear hi); (try clear ho0); (try clear ho1); (try clear ho2); obtain ⟨Ao89, co89, eo89⟩ := Kd.S_slice HO1019.out; subst eo89; obtain ⟨Ao90, co90, eo90, _⟩ := Kd.Q_slice HO1021.out; subst eo90; obtain ⟨Ao91, co91, eo91⟩ := Kd.R_slice HO1023.out; subst eo91) | ((with_reducible refine gate_callee (f := 34) rfl ?_); refine goesL_ (some 211) rfl rfl Try.func34 (by kernel_rfl) rfl #[.slice Ao89 t1013.length co89, .slice Ao90 t1014.length co90, .int .i64 t1015, .slice Ao91 t1016.length co91, .int .i64 t1017] rfl (by (try simp only [List.map_toArray, List.map_cons, List.map_nil]); first | done | rfl | (simp only [List.length_drop, List.length_take]; rfl)) ?_; (with_reducible refine (impl_DelaysAfter.calls kj60 _ _ t1013 _ _ t1014 t1015 _ _ t1016 t1017 t1024 t1025 _ ?side1 ?side2 ?side3 ?side4 ?side5 ?side6 A84.out).mono ?_); (case side1 => repeat (first | exact (Kd.S_reads' HO1019.out).2.2 | (with_reducible refine Kd.C_alloc ?_ _) | (with_reducible refine Kd.C_drewN ?_ _) | (with_reducible refine Kd.C_drew ?_))); (case side2 => exact (Kd.S_reads' HO1019.out).2.1); (case side3 => repeat (first | exact (Kd.Q_reads' HO1021.out).2.2 | (with_reducible refine Kd.C_alloc ?_ _) | (with_reducible refine Kd.C_drewN ?_ _) | (with_reducible refine Kd.C_drew ?_))); (case side4 => exact (Kd.Q_reads' HO1021.out).2.1); (case side5 => repeat (first | exact (Kd.R_reads' HO1023.out).2.2 | (with_reducible refine Kd.C_alloc ?_ _) | (with_reducible refine Kd.C_drewN ?_ _) | (with_reducible refine Kd.C_drew ?_))); (case side6 => exact (Kd.R_reads' HO1023.out).2.1); rintro e w92 ⟨v1026, rfl, ho0, hb⟩; refine ⟨_, rfl, ?_⟩; have n0_ := Aside0.mk (Kd.S_elder' (by (with_reducible repeat (first | apply Kd.S_alloc | apply Kd.S_drewN | apply Kd.S_drew)); exact HO1019.out) (Kd.R_base ho0) hb); have n1_ := Aside0.mk (Kd.Q_elder' (by (with_reducible repeat (first | apply Kd.Q_alloc | apply Kd.Q_drewN | apply Kd.Q_drew)); exact HO1021.out) (Kd.R_base ho0) hb); have n2_ := Aside0.mk (Kd.R_elder' (by (with_reducible repeat (first | apply Kd.R_alloc | apply Kd.R_drewN | apply Kd.R_drew)); exact HO1023.out) (Kd.R_base ho0) hb); have n3_ := Aside0.mk (Kd.R_lower (Kd.R_new' (Kd.R_new' ho0 (Kd.Q_lt (by (with_reducible repeat (first | apply Kd.Q_alloc | apply Kd.Q_drewN | apply Kd.Q_drew)); exact HO1021.out))) (Kd.R_lt (by (with_reducible repeat (first | apply Kd.R_alloc | apply Kd.R_drewN | apply Kd.R_drew)); exact HO1023.out))) (below_size (by repeat (first | (with_reducible first | exact HB.out | apply below_alloc | apply pw_below_drewN | apply below_drew1) | exact HB.out)))); have n4_ := Aside0.mk (below_step (by repeat (first | (with_reducible first | exact HB.out | apply below_alloc | apply pw_below_drewN | apply below_drew1) | exact HB.out)) hb); clear HO1019; clear HO1021; clear HO1023; clear HB; have HO1019 := n0_; have HO1021 := n1_; have HO1023 := n2_; have HO1027 := n3_; have HB := n4_; clear n0_ n1_ n2_ n3_ n4_; (try clear hb); (try clear hb2); (try clear hk); (try clear hi); (try clear ho0)) | ((with_reducible refine gate_callee (f := 33) rfl ?_); refine goesL_ (some 220) rfl rfl Try.func33 (by kernel_rfl) rfl #[.slice Ao89 t1013.length co89, .slice Ao90 t1014.length co90, .int .i64 t1015, .slice Ao91 t1016.length co91, .int .i64 t1017] rfl (by (try simp only [List.map_toArray, List.map_cons, List.map_nil]); first | done | rfl | (simp only [List.length_drop, List.length_take]; rfl)) ?_; (with_reducible refine (spec_DelaysAfter.calls kj60 _ _ t1013 _ _ t1014 t1015 _ _ t1016 t1017 t1028 t1029 _ ?side1 ?side2 ?side3 ?side4 ?side5 ?side6 A85.out).mono ?_); (case side1 => repeat (first | exact (Kd.S_reads' HO1019.out).2.2 | (with_reducible refine Kd.C_alloc ?_ _) | (with_reducible refine Kd.C_drewN ?_ _) | (with_reducible refine Kd.C_drew ?_))); (case side2 => exact (Kd.S_reads' HO1019.out).2.1); (case side3 => repeat (first | exact (Kd.Q_reads' HO1021.out).2.2 | (with_reducible refine Kd.C_alloc ?_ _) | (with_reducible refine Kd.C_drewN ?_ _) | (with_reducible refine Kd.C_drew ?_))); (case side4 => exact (Kd.Q_reads' HO1021.out).2.1); (case side5 => repeat (first | exact (Kd.R_reads' HO1023.out).2.2 | (with_reducible refine Kd.C_alloc ?_ _) | (with_reducible refine Kd.C_drewN ?_ _) | (with_reducible refine Kd.C_drew ?_))); (case side6 => exact (Kd.R_reads' HO1023.out).2.1); rintro e w93 ⟨v1030, rfl, ho0, hb⟩; refine ⟨_, rfl, ?_⟩; have n0_ := Aside0.mk (Kd.S_elder' (by (with_reducible repeat (first | apply Kd.S_alloc | apply Kd.S_drewN | apply Kd.S_drew)); exact HO1019.out) (Kd.R_base ho0) hb); have n1_ := Aside0.mk (Kd.Q_elder' (by (with_reducible repeat (first | apply Kd.Q_alloc | apply Kd.Q_drewN | apply Kd.Q_drew)); exact HO1021.out) (Kd.R_base ho0) hb); have n2_ := Aside0.mk (Kd.R_elder' (by (with_reducible repeat (first | apply Kd.R_alloc | apply Kd.R_drewN | apply Kd.R_drew)); exact HO1023.out) (Kd.R_base ho0) hb); have n3_ := Aside0.mk (Kd.R_elder' (by (with_reducible repeat (first | apply Kd.R_alloc | apply Kd.R_drewN | apply Kd.R_drew)); exact HO1027.out) (Kd.R_base ho0) hb); have n4_ := Aside0.mk (Kd.R_lower (Kd.R_new' (Kd.R_new' (Kd.R_new' ho0 (Kd.Q_lt (by (with_reducible repeat (first | apply Kd.Q_alloc | apply Kd.Q_drewN | apply Kd.Q_drew)); exact HO1021.out))) (Kd.R_lt (by (with_reducible repeat (first | apply Kd.R_alloc | apply Kd.R_drewN | apply Kd.R_drew)); exact HO1023.out))) (Kd.R_lt (by (with_reducible repeat (first | apply Kd.R_alloc | apply Kd.R_drewN | apply Kd.R_drew)); exact HO1027.out))) (below_size (by repeat (first | (with_reducible first | exact HB.out | apply below_alloc | apply pw_below_drewN | apply below_drew1) | exact HB.out)))); have n5_ := Aside0.mk (below_step (by repeat (first | (with_reducible first | exact HB.out | apply below_alloc | apply pw_below_drewN | apply below_drew1) | exact HB.out)) hb); clear HO1019; clear HO1021; clear HO1023; clear HO1027; clear HB; have HO1019 := n0_; have HO1021 := n1_; have HO1023 := n2_; have HO1027 := n3_; have HO1031 := n4_; have HB := n5_; clear n0_ n1_ n2_ n3_ n4_ n5_; (try clear hb); (try clear hb2); (try clear hk); (try clear hi); (try clear ho0); obtain ⟨Ao94, co94, eo94⟩ := Kd.R_slice HO1027.out; subst eo94; obtain ⟨Ao95, co95, eo95⟩ := Kd.R_slice HO1031.out; subst eo95) | (go_at_call 42; (with_reducible refine (laws_qInts.calls kj60 _ _ t1024 _ _ t1028 t1032 _ ?side1 ?side2 ?side3 ?side4 A87.out).mono ?_); (case side1 => repeat (first | exact (Kd.R_reads' HO1027.out).2.2 | (with_reducible refine Kd.C_alloc ?_ _) | (with_reducible refine Kd.C_drewN ?_ _) | (with_reducible refine Kd.C_drew ?_))); (case side2 => exact (Kd.R_reads' HO1027.out).2.1); (case side3 => repeat (first | exact (Kd.R_reads' HO1031.out).2.2 | (with_reducible refine Kd.C_alloc ?_ _) | (with_reducible refine Kd.C_drewN ?_ _) | (with_reducible refine Kd.C_drew ?_))); (case side4 => exact (Kd.R_reads' HO1031.out).2.1); rintro e w' ⟨rfl, ⟨nd, rfl⟩⟩))
                    go_ret
                    exact ⟨by first | rfl | (simp [errW_none, errW_some] <;> rfl) | (simp [*, errW_none, errW_some] <;> rfl), by repeat (first | (with_reducible first | exact HB.out | apply below_alloc | apply pw_below_drewN | apply below_drew1) | exact HB.out)⟩
                  · rw [if_neg c86] at H
                    have c86b0 : (t1025 == t1029) = false := by simpa using c86
                    (try (have c86b1 : decide (t1025 = t1029) = false := by simpa using c86))
                    (try (have c86b2 : (t1025 == t1029) = false := by simpa using c86))
                    (try (have c86b3 : ¬ (t1025 = t1029) := by simpa using c86))
                    clear c86
                    obtain rfl := Option.some.inj H
                    go_wp2_with (first | ((with_reducible refine gate_callee (f := 44) rfl ?_); refine goesL_ (some 199) rfl rfl Try.func44 (by kernel_rfl) rfl #[.slice A1 l1.length c1] rfl (by (try simp only [List.map_toArray, List.map_cons, List.map_nil]); first | done | rfl | (simp only [List.length_drop, List.length_take]; rfl)) ?_; (with_reducible refine (spec_DrawDelaysAfter.calls kj60 _ _ l1 t1013 t1014 t1015 t1016 t1017 _ ?side1 ?side2 A83.out).mono ?_); (case side1 => repeat (first | exact (Kd.C_below HR1.out HB.out) | (with_reducible refine Kd.C_alloc ?_ _) | (with_reducible refine Kd.C_drewN ?_ _) | (with_reducible refine Kd.C_drew ?_))); (case side2 => exact HC1.out); rintro e w96 ⟨v1018, v1020, v1022, rfl, ho0, ho1, ho2, hb⟩; refine ⟨_, rfl, ?_⟩; have n0_ := Aside0.mk (Kd.S_lower ho0 (below_size (by repeat (first | (with_reducible first | exact HB.out | apply below_alloc | apply pw_below_drewN | apply below_drew1) | exact HB.out)))); have n1_ := Aside0.mk (Kd.Q_lower ho1 (below_size (by repeat (first | (with_reducible first | exact HB.out | apply below_alloc | apply pw_below_drewN | apply below_drew1) | exact HB.out)))); have n2_ := Aside0.mk (Kd.R_lower ho2 (below_size (by repeat (first | (with_reducible first | exact HB.out | apply below_alloc | apply pw_below_drewN | apply below_drew1) | exact HB.out)))); have n3_ := Aside0.mk (below_step (by repeat (first | (with_reducible first | exact HB.out | apply below_alloc | apply pw_below_drewN | apply below_drew1) | exact HB.out)) hb); clear HB; have HO1019 := n0_; have HO1021 := n1_; have HO1023 := n2_; have HB := n3_; clear n0_ n1_ n2_ n3_; (try clear hb); (try clear hb2); (try clear hk); (try clear hi); (try clear ho0); (try clear ho1); (try clear ho2); obtain ⟨Ao97, co97, eo97⟩ := Kd.S_slice HO1019.out; subst eo97; obtain ⟨Ao98, co98, eo98, _⟩ := Kd.Q_slice HO1021.out; subst eo98; obtain ⟨Ao99, co99, eo99⟩ := Kd.R_slice HO1023.out; subst eo99) | ((with_reducible refine gate_callee (f := 34) rfl ?_); refine goesL_ (some 211) rfl rfl Try.func34 (by kernel_rfl) rfl #[.slice Ao97 t1013.length co97, .slice Ao98 t1014.length co98, .int .i64 t1015, .slice Ao99 t1016.length co99, .int .i64 t1017] rfl (by (try simp only [List.map_toArray, List.map_cons, List.map_nil]); first | done | rfl | (simp only [List.length_drop, List.length_take]; rfl)) ?_; (with_reducible refine (impl_DelaysAfter.calls kj60 _ _ t1013 _ _ t1014 t1015 _ _ t1016 t1017 t1024 t1025 _ ?side1 ?side2 ?side3 ?side4 ?side5 ?side6 A84.out).mono ?_); (case side1 => repeat (first | exact (Kd.S_reads' HO1019.out).2.2 | (with_reducible refine Kd.C_alloc ?_ _) | (with_reducible refine Kd.C_drewN ?_ _) | (with_reducible refine Kd.C_drew ?_))); (case side2 => exact (Kd.S_reads' HO1019.out).2.1); (case side3 => repeat (first | exact (Kd.Q_reads' HO1021.out).2.2 | (with_reducible refine Kd.C_alloc ?_ _) | (with_reducible refine Kd.C_drewN ?_ _) | (with_reducible refine Kd.C_drew ?_))); (case side4 => exact (Kd.Q_reads' HO1021.out).2.1); (case side5 => repeat (first | exact (Kd.R_reads' HO1023.out).2.2 | (with_reducible refine Kd.C_alloc ?_ _) | (with_reducible refine Kd.C_drewN ?_ _) | (with_reducible refine Kd.C_drew ?_))); (case side6 => exact (Kd.R_reads' HO1023.out).2.1); rintro e w100 ⟨v1026, rfl, ho0, hb⟩; refine ⟨_, rfl, ?_⟩; have n0_ := Aside0.mk (Kd.S_elder' (by (with_reducible repeat (first | apply Kd.S_alloc | apply Kd.S_drewN | apply Kd.S_drew)); exact HO1019.out) (Kd.R_base ho0) hb); have n1_ := Aside0.mk (Kd.Q_elder' (by (with_reducible repeat (first | apply Kd.Q_alloc | apply Kd.Q_drewN | apply Kd.Q_drew)); exact HO1021.out) (Kd.R_base ho0) hb); have n2_ := Aside0.mk (Kd.R_elder' (by (with_reducible repeat (first | apply Kd.R_alloc | apply Kd.R_drewN | apply Kd.R_drew)); exact HO1023.out) (Kd.R_base ho0) hb); have n3_ := Aside0.mk (Kd.R_lower (Kd.R_new' (Kd.R_new' ho0 (Kd.Q_lt (by (with_reducible repeat (first | apply Kd.Q_alloc | apply Kd.Q_drewN | apply Kd.Q_drew)); exact HO1021.out))) (Kd.R_lt (by (with_reducible repeat (first | apply Kd.R_alloc | apply Kd.R_drewN | apply Kd.R_drew)); exact HO1023.out))) (below_size (by repeat (first | (with_reducible first | exact HB.out | apply below_alloc | apply pw_below_drewN | apply below_drew1) | exact HB.out)))); have n4_ := Aside0.mk (below_step (by repeat (first | (with_reducible first | exact HB.out | apply below_alloc | apply pw_below_drewN | apply below_drew1) | exact HB.out)) hb); clear HO1019; clear HO1021; clear HO1023; clear HB; have HO1019 := n0_; have HO1021 := n1_; have HO1023 := n2_; have HO1027 := n3_; have HB := n4_; clear n0_ n1_ n2_ n3_ n4_; (try clear hb); (try clear hb2); (try clear hk); (try clear hi); (try clear ho0)) | ((with_reducible refine gate_callee (f := 33) rfl ?_); refine goesL_ (some 220) rfl rfl Try.func33 (by kernel_rfl) rfl #[.slice Ao97 t1013.length co97, .slice Ao98 t1014.length co98, .int .i64 t1015, .slice Ao99 t1016.length co99, .int .i64 t1017] rfl (by (try simp only [List.map_toArray, List.map_cons, List.map_nil]); first | done | rfl | (simp only [List.length_drop, List.length_take]; rfl)) ?_; (with_reducible refine (spec_DelaysAfter.calls kj60 _ _ t1013 _ _ t1014 t1015 _ _ t1016 t1017 t1028 t1029 _ ?side1 ?side2 ?side3 ?side4 ?side5 ?side6 A85.out).mono ?_); (case side1 => repeat (first | exact (Kd.S_reads' HO1019.out).2.2 | (with_reducible refine Kd.C_alloc ?_ _) | (with_reducible refine Kd.C_drewN ?_ _) | (with_reducible refine Kd.C_drew ?_))); (case side2 => exact (Kd.S_reads' HO1019.out).2.1); (case side3 => repeat (first | exact (Kd.Q_reads' HO1021.out).2.2 | (with_reducible refine Kd.C_alloc ?_ _) | (with_reducible refine Kd.C_drewN ?_ _) | (with_reducible refine Kd.C_drew ?_))); (case side4 => exact (Kd.Q_reads' HO1021.out).2.1); (case side5 => repeat (first | exact (Kd.R_reads' HO1023.out).2.2 | (with_reducible refine Kd.C_alloc ?_ _) | (with_reducible refine Kd.C_drewN ?_ _) | (with_reducible refine Kd.C_drew ?_))); (case side6 => exact (Kd.R_reads' HO1023.out).2.1); rintro e w101 ⟨v1030, rfl, ho0, hb⟩; refine ⟨_, rfl, ?_⟩; have n0_ := Aside0.mk (Kd.S_elder' (by (with_reducible repeat (first | apply Kd.S_alloc | apply Kd.S_drewN | apply Kd.S_drew)); exact HO1019.out) (Kd.R_base ho0) hb); have n1_ := Aside0.mk (Kd.Q_elder' (by (with_reducible repeat (first | apply Kd.Q_alloc | apply Kd.Q_drewN | apply Kd.Q_drew)); exact HO1021.out) (Kd.R_base ho0) hb); have n2_ := Aside0.mk (Kd.R_elder' (by (with_reducible repeat (first | apply Kd.R_alloc | apply Kd.R_drewN | apply Kd.R_drew)); exact HO1023.out) (Kd.R_base ho0) hb); have n3_ := Aside0.mk (Kd.R_elder' (by (with_reducible repeat (first | apply Kd.R_alloc | apply Kd.R_drewN | apply Kd.R_drew)); exact HO1027.out) (Kd.R_base ho0) hb); have n4_ := Aside0.mk (Kd.R_lower (Kd.R_new' (Kd.R_new' (Kd.R_new' ho0 (Kd.Q_lt (by (with_reducible repeat (first | apply Kd.Q_alloc | apply Kd.Q_drewN | apply Kd.Q_drew)); exact HO1021.out))) (Kd.R_lt (by (with_reducible repeat (first | apply Kd.R_alloc | apply Kd.R_drewN | apply Kd.R_drew)); exact HO1023.out))) (Kd.R_lt (by (with_reducible repeat (first | apply Kd.R_alloc | apply Kd.R_drewN | apply Kd.R_drew)); exact HO1027.out))) (below_size (by repeat (first | (with_reducible first | exact HB.out | apply below_alloc | apply pw_below_drewN | apply below_drew1) | exact HB.out)))); have n5_ := Aside0.mk (below_step (by repeat (first | (with_reducible first | exact HB.out | apply below_alloc | apply pw_below_drewN | apply below_drew1) | exact HB.out)) hb); clear HO1019; clear HO1021; clear HO1023; clear HO1027; clear HB; have HO1019 := n0_; have HO1021 := n1_; have HO1023 := n2_; have HO1027 := n3_; have HO1031 := n4_; have HB := n5_; clear n0_ n1_ n2_ n3_ n4_ n5_; (try clear hb); (try clear hb2); (try clear hk); (try clear hi); (try clear ho0)))
                    go_ret
                    exact ⟨by first | rfl | (simp [errW_none, errW_some] <;> rfl) | (simp [*, errW_none, errW_some] <;> rfl), by repeat (first | (with_reducible first | exact HB.out | apply below_alloc | apply pw_below_drewN | apply below_drew1) | exact HB.out)⟩

/-- THE ONE PURE STATEMENT of laws_FnDelays: yours. -/
def laws_FnDelays.Pure : Prop := ∀ (l0 : List Int) (l1 : List Int), l0.length ≤ maxLen → l0.length * 1 ≤ 140737488351232 → (∀ x ∈ l0, (Lit.int .u8 x).wf = true) → l1.length ≤ maxLen → l1.length * 1 ≤ 140737488351232 → (∀ x ∈ l1, (Lit.int .u8 x).wf = true) → ∃ k, laws_FnDelays.f k l0 l1 = some true
theorem laws_FnDelays.walk (P : laws_FnDelays.Pure) (a0 : Option Addr) (len0 cap0 : Nat) (z0 : List Int) (a1 : Option Addr) (len1 cap1 : Nat) (z1 : List Int) (w : World) (w0 : (a0 = none ∧ len0 = 0 ∧ cap0 = 0 ∧ z0 = []) ∨ ∃ x, a0 = some x ∧ len0 ≤ cap0 ∧ cap0 ≤ maxLen ∧ z0.length = cap0 ∧ (∀ i, i < z0.length → w.cell? (x.add i) = some (.int .u8 (z0.getD i 0))) ∧ ∀ n ∈ z0, (Lit.int .u8 n).wf = true) (y0 : len0 * 1 ≤ 140737488351232) (w1 : (a1 = none ∧ len1 = 0 ∧ cap1 = 0 ∧ z1 = []) ∨ ∃ x, a1 = some x ∧ len1 ≤ cap1 ∧ cap1 ≤ maxLen ∧ z1.length = cap1 ∧ (∀ i, i < z1.length → w.cell? (x.add i) = some (.int .u8 (z1.getD i 0))) ∧ ∀ n ∈ z1, (Lit.int .u8 n).wf = true) (y1 : len1 * 1 ≤ 140737488351232) :
    Calls Try.prog 12 #[.slice a0 len0 cap0, .slice a1 len1 cap1] w fun e w' => e = .returned (.bool true) ∧ Below w.heap.size w w' := by
  obtain ⟨l0, rfl, hr0, hm0, hw0, hc0⟩ := ReadsInt.ofRowC w0
  obtain ⟨l1, rfl, hr1, hm1, hw1, hc1⟩ := ReadsInt.ofRowC w1
  obtain ⟨k, h⟩ := P l0 l1 hm0 y0 hw0 hm1 y1 hw1
  refine (laws_FnDelays.calls k _ _ l0 _ _ l1 true w (Kd.C_of_reads (d := (0 : Int)) (h1 := fun _ => rfl) hr0) hc0 (Kd.C_of_reads (d := (0 : Int)) (h1 := fun _ => rfl) hr1) hc1 h).mono ?_
  rintro e w' ⟨rfl, hd⟩
  exact ⟨rfl, hd⟩

end Go.Proofs.Ytebjiooojkhkpaa.X
