-- Shaken out of the printed texts.
import Derived.Test.YtebjiooojkhkpaaZFnBuffersWBX0
import Derived.Test.YtebjiooojkhkpaaZFnBuffersQ
import Derived.Test.YtebjiooojkhkpaaZFnBuffersX6
import Derived.Test.YtebjiooojkhkpaaZFnBuffersX7
namespace Go.Proofs.Ytebjiooojkhkpaa.X
open Go.RowKit Go.Proofs.YtebjiooojkhkpaaW.PrintWords Go.Proofs.YtebjiooojkhkpaaW.PrintLast Go.Proofs.YtebjiooojkhkpaaW.PrintMore
attribute [local go_sem] max2_int min2_int max_two min_two max_three min_three max_four min_four   -- for this text's walks alone
set_option linter.unusedVariables false
set_option linter.unusedSimpArgs false

/-! ### spec_l1Cur_planned: function 74 -/
mutual
def spec_l1Cur_planned.j0 : Nat → Int → List Int → Int → Int → Option ((List (List Int)) × List Int × Int × Int × Int)
  | 0, _, _, _, _ => none
  | k + 1, x5, x1000, x1001, x1002 => spec_l1Cur_planned.l0 k x5 ([] : List (List Int)) 0 x1000 x1001 x1002
def spec_l1Cur_planned.l0 : Nat → Int → List (List Int) → Int → List Int → Int → Int → Option ((List (List Int)) × List Int × Int × Int × Int)
  | 0, _, _, _, _, _, _ => none
  | k + 1, x5, x6, x7, x1000, x1001, x1002 => if x7 < x5 then (spec_l1Cur_planned.l1 k x5 x6 x7 ([] : List Int) 0 x1000 x1001 x1002) else ((spec_l1Cur_among.f x1000 x1001 x1002 (([6, 8, 10, 12, 14, 20] : List Int))).bind fun bt836 => ((spec_l1Cur_one.f x1000 bt836.2.1 bt836.2.2 24).bind fun bt839 => (if bt839.1 = true then (if 0 < (x6.length : Int) then ((spec_l1Cur_among.f x1000 bt839.2.1 bt839.2.2 (([1000, 1001, (-1), 0] : List Int))).bind fun bt846 => (if 0 < ((rd_L1 x6 0).length : Int) then (spec_l1Cur_planned.j3 k x5 (x6.set (0 : Int).toNat ((rd_L1 x6 0).set (0 : Int).toNat bt846.1)) bt836.1 x1000 bt846.2.1 bt846.2.2) else (none))) else (none)) else (spec_l1Cur_planned.j3 k x5 x6 bt836.1 x1000 bt839.2.1 bt839.2.2))))
def spec_l1Cur_planned.l1 : Nat → Int → List (List Int) → Int → List Int → Int → List Int → Int → Int → Option ((List (List Int)) × List Int × Int × Int × Int)
  | 0, _, _, _, _, _, _, _, _ => none
  | k + 1, x5, x6, x7, x8, x9, x1000, x1001, x1002 => if x9 < x5 then ((spec_l1Cur_pick.f x1000 x1001 x1002 12).bind fun bt818 => (if x5 = 0 then (none) else (if x9 = (Int.tmod (wrap64 (x7 + 1)) x5) then (if x8.length < 17592186044416 then (spec_l1Cur_planned.l1 k x5 x6 x7 (x8 ++ [wrap64 (1 + bt818.1)]) (wrap64 (x9 + 1)) x1000 bt818.2.1 bt818.2.2) else (none)) else ((spec_l1Cur_one.f x1000 bt818.2.1 bt818.2.2 2).bind fun bt824 => (if bt824.1 = true then (if x8.length < 17592186044416 then (spec_l1Cur_planned.l1 k x5 x6 x7 (x8 ++ [1000000000]) (wrap64 (x9 + 1)) x1000 bt824.2.1 bt824.2.2) else (none)) else (if x8.length < 17592186044416 then (spec_l1Cur_planned.l1 k x5 x6 x7 (x8 ++ [wrap64 (1 + bt818.1)]) (wrap64 (x9 + 1)) x1000 bt824.2.1 bt824.2.2) else (none))))))) else (if x6.length < 5864062014805 then (spec_l1Cur_planned.l0 k x5 (x6 ++ [x8]) (wrap64 (x7 + 1)) x1000 x1001 x1002) else (none))
def spec_l1Cur_planned.j3 : Nat → Int → List (List Int) → Int → List Int → Int → Int → Option ((List (List Int)) × List Int × Int × Int × Int)
  | 0, _, _, _, _, _, _ => none
  | k + 1, x5, x6, x11, x1000, x1001, x1002 => (spec_SteadyStarts.f k x6 x11).bind fun bt852 => (if bt852.2 = true then (spec_l1Cur_planned.j4 k x5 x6 x11 bt852.1 bt852.2 x1000 x1001 x1002) else ((spec_SteadyStarts.f k x6 1000).bind fun bt856 => (spec_l1Cur_planned.j4 k x5 x6 1000 bt856.1 bt856.2 x1000 x1001 x1002)))
def spec_l1Cur_planned.j4 : Nat → Int → List (List Int) → Int → List Int → Bool → List Int → Int → Int → Option ((List (List Int)) × List Int × Int × Int × Int)
  | 0, _, _, _, _, _, _, _, _ => none
  | k + 1, x5, x6, x11, x12, x13, x1000, x1001, x1002 => if x13 = true then ((spec_l1Cur_one.f x1000 x1001 x1002 3).bind fun bt865 => (if bt865.1 = true then ((spec_l1Cur_pick.f x1000 bt865.2.1 bt865.2.2 4).bind fun bt868 => (spec_l1Cur_planned.l2 k x5 x6 x11 x12 bt868.1 (x12.length : Int) 0 x1000 bt868.2.1 bt868.2.2)) else (spec_l1Cur_planned.j6 k x6 x11 x12 x1000 bt865.2.1 bt865.2.2))) else ((spec_l1Cur_plain.f k x1000 x1001 x1002 x5).bind fun bt860 => (some (x6, bt860.1, x11, bt860.2.1, bt860.2.2)))
def spec_l1Cur_planned.j6 : Nat → List (List Int) → Int → List Int → List Int → Int → Int → Option ((List (List Int)) × List Int × Int × Int × Int)
  | 0, _, _, _, _, _, _ => none
  | k + 1, x6, x11, x12, x1000, x1001, x1002 => (spec_l1Cur_pick.f x1000 x1001 x1002 24).bind fun bt881 => (if bt881.1 = 0 then ((spec_l1Cur_among.f x1000 bt881.2.1 bt881.2.2 (([0, 100000, 100001, (-1)] : List Int))).bind fun bt887 => (some (x6, x12, bt887.1, bt887.2.1, bt887.2.2))) else (if bt881.1 = 1 then ((spec_l1Cur_among.f x1000 bt881.2.1 bt881.2.2 (([100000, 100001, (-1)] : List Int))).bind fun bt893 => (if 0 < (x12.length : Int) then (some (x6, (x12.set (0 : Int).toNat bt893.1), x11, bt893.2.1, bt893.2.2)) else (none))) else (if bt881.1 = 2 then (if 1 ≤ (x12.length : Int) then (some (x6, (x12.drop (1 : Int).toNat), x11, bt881.2.1, bt881.2.2)) else (none)) else (some (x6, x12, x11, bt881.2.1, bt881.2.2)))))
def spec_l1Cur_planned.l2 : Nat → Int → List (List Int) → Int → List Int → Int → Int → Int → List Int → Int → Int → Option ((List (List Int)) × List Int × Int × Int × Int)
  | 0, _, _, _, _, _, _, _, _, _, _ => none
  | k + 1, x5, x6, x11, x12, x14, x90, x91, x1000, x1001, x1002 => if x91 < x90 then (if 0 ≤ x91 then (if x91 < (x12.length : Int) then (spec_l1Cur_planned.l2 k x5 x6 x11 (x12.set (x91 : Int).toNat (wrap64 ((rd x12 x91) + x14))) x14 x90 (wrap64 (x91 + 1)) x1000 x1001 x1002) else (none)) else (none)) else ((spec_l1Cur_pick.f x1000 x1001 x1002 x5).bind fun bt873 => (if 0 ≤ bt873.1 then (if bt873.1 < (x12.length : Int) then ((spec_l1Cur_pick.f x1000 bt873.2.1 bt873.2.2 2).bind fun bt877 => (spec_l1Cur_planned.j6 k x6 x11 (x12.set (bt873.1 : Int).toNat (wrap64 ((rd x12 bt873.1) + bt877.1))) x1000 bt877.2.1 bt877.2.2)) else (none)) else (none)))
end
def spec_l1Cur_planned.f (k : Nat) (s0_0 : List Int) (s0_1 : Int) (s0_2 : Int) : Option ((List (List Int)) × List Int × Int × Int × Int) := (spec_l1Cur_pick.f s0_0 s0_1 s0_2 4).bind fun bt809 => ((spec_l1Cur_one.f s0_0 bt809.2.1 bt809.2.2 16).bind fun bt812 => (if bt812.1 = true then (spec_l1Cur_planned.j0 k 6 s0_0 bt812.2.1 bt812.2.2) else (spec_l1Cur_planned.j0 k (wrap64 (1 + bt809.1)) s0_0 bt812.2.1 bt812.2.2)))
theorem spec_l1Cur_planned.mono_l : ∀ k, (∀ y0 y1 y2 y3, LeO (spec_l1Cur_planned.j0 k y0 y1 y2 y3) (spec_l1Cur_planned.j0 (k + 1) y0 y1 y2 y3)) ∧ (∀ y0 y1 y2 y3 y4 y5, LeO (spec_l1Cur_planned.l0 k y0 y1 y2 y3 y4 y5) (spec_l1Cur_planned.l0 (k + 1) y0 y1 y2 y3 y4 y5)) ∧ (∀ y0 y1 y2 y3 y4 y5 y6 y7, LeO (spec_l1Cur_planned.l1 k y0 y1 y2 y3 y4 y5 y6 y7) (spec_l1Cur_planned.l1 (k + 1) y0 y1 y2 y3 y4 y5 y6 y7)) ∧ (∀ y0 y1 y2 y3 y4 y5, LeO (spec_l1Cur_planned.j3 k y0 y1 y2 y3 y4 y5) (spec_l1Cur_planned.j3 (k + 1) y0 y1 y2 y3 y4 y5)) ∧ (∀ y0 y1 y2 y3 y4 y5 y6 y7, LeO (spec_l1Cur_planned.j4 k y0 y1 y2 y3 y4 y5 y6 y7) (spec_l1Cur_planned.j4 (k + 1) y0 y1 y2 y3 y4 y5 y6 y7)) ∧ (∀ y0 y1 y2 y3 y4 y5, LeO (spec_l1Cur_planned.j6 k y0 y1 y2 y3 y4 y5) (spec_l1Cur_planned.j6 (k + 1) y0 y1 y2 y3 y4 y5)) ∧ (∀ y0 y1 y2 y3 y4 y5 y6 y7 y8 y9, LeO (spec_l1Cur_planned.l2 k y0 y1 y2 y3 y4 y5 y6 y7 y8 y9) (spec_l1Cur_planned.l2 (k + 1) y0 y1 y2 y3 y4 y5 y6 y7 y8 y9))
  | 0 => ⟨fun _ _ _ _ r h => by simp [spec_l1Cur_planned.j0] at h, fun _ _ _ _ _ _ r h => by simp [spec_l1Cur_planned.l0] at h, fun _ _ _ _ _ _ _ _ r h => by simp [spec_l1Cur_planned.l1] at h, fun _ _ _ _ _ _ r h => by simp [spec_l1Cur_planned.j3] at h, fun _ _ _ _ _ _ _ _ r h => by simp [spec_l1Cur_planned.j4] at h, fun _ _ _ _ _ _ r h => by simp [spec_l1Cur_planned.j6] at h, fun _ _ _ _ _ _ _ _ _ _ r h => by simp [spec_l1Cur_planned.l2] at h⟩
  | k + 1 => by
    obtain ⟨ih0, ih1, ih2, ih3, ih4, ih5, ih6⟩ := spec_l1Cur_planned.mono_l k
    refine ⟨?_, ?_, ?_, ?_, ?_, ?_, ?_⟩
    all_goals (intros; first | unfold spec_l1Cur_planned.j0 | unfold spec_l1Cur_planned.l0 | unfold spec_l1Cur_planned.l1 | unfold spec_l1Cur_planned.j3 | unfold spec_l1Cur_planned.j4 | unfold spec_l1Cur_planned.j6 | unfold spec_l1Cur_planned.l2)
    all_goals (repeat' first | (with_reducible first | exact ih0 _ _ _ _ | exact ih1 _ _ _ _ _ _ | exact ih2 _ _ _ _ _ _ _ _ | exact ih3 _ _ _ _ _ _ | exact ih4 _ _ _ _ _ _ _ _ | exact ih5 _ _ _ _ _ _ | exact ih6 _ _ _ _ _ _ _ _ _ _ | exact spec_SteadyStarts.mono _ _ _ | exact spec_l1Cur_plain.mono _ _ _ _ _ | exact LeO.refl _ | exact LeO.none _ | refine LeO.ite ?_ ?_ | refine LeO.bind ?_ (fun _ => ?_)) | exact ih0 _ _ _ _ | exact ih1 _ _ _ _ _ _ | exact ih2 _ _ _ _ _ _ _ _ | exact ih3 _ _ _ _ _ _ | exact ih4 _ _ _ _ _ _ _ _ | exact ih5 _ _ _ _ _ _ | exact ih6 _ _ _ _ _ _ _ _ _ _ | exact spec_SteadyStarts.mono _ _ _ | exact spec_l1Cur_plain.mono _ _ _ _ _ | exact LeO.none _ | refine LeO.ite ?_ ?_ | refine LeO.bind ?_ (fun _ => ?_))
theorem spec_l1Cur_planned.mono : ∀ a0 a1 a2 k, LeO (spec_l1Cur_planned.f k a0 a1 a2) (spec_l1Cur_planned.f (k + 1) a0 a1 a2) := by
 intro a0 a1 a2 k
 obtain ⟨ih0, ih1, ih2, ih3, ih4, ih5, ih6⟩ := spec_l1Cur_planned.mono_l k
 unfold spec_l1Cur_planned.f
 repeat' first | (with_reducible first | exact ih0 _ _ _ _ | exact ih1 _ _ _ _ _ _ | exact ih2 _ _ _ _ _ _ _ _ | exact ih3 _ _ _ _ _ _ | exact ih4 _ _ _ _ _ _ _ _ | exact ih5 _ _ _ _ _ _ | exact ih6 _ _ _ _ _ _ _ _ _ _ | exact spec_SteadyStarts.mono _ _ _ | exact spec_l1Cur_plain.mono _ _ _ _ _ | exact LeO.refl _ | exact LeO.none _ | refine LeO.ite ?_ ?_ | refine LeO.bind ?_ (fun _ => ?_)) | exact ih0 _ _ _ _ | exact ih1 _ _ _ _ _ _ | exact ih2 _ _ _ _ _ _ _ _ | exact ih3 _ _ _ _ _ _ | exact ih4 _ _ _ _ _ _ _ _ | exact ih5 _ _ _ _ _ _ | exact ih6 _ _ _ _ _ _ _ _ _ _ | exact spec_SteadyStarts.mono _ _ _ | exact spec_l1Cur_plain.mono _ _ _ _ _ | exact LeO.none _ | refine LeO.ite ?_ ?_ | refine LeO.bind ?_ (fun _ => ?_)
def spec_l1Cur_planned.T19 : Bool × List (List Nat × List Nat) := (true, [([], []), ([0], [0]), ([1], [1]), ([], []), ([], []), ([3, 4], [3, 4]), ([2, 0, 1, 2, 3, 4, 5], [2]), ([6, 5, 5, 0, 1, 2, 3, 4, 5], [5, 6])])
def spec_l1Cur_planned.B19 : List Nat := [0, 1, 3, 0, 0, 24, 63, 127]
theorem spec_l1Cur_planned.tab19 : rtab .any (opsOf Try.f74 19) = spec_l1Cur_planned.T19 := by kernel_rfl
theorem spec_l1Cur_planned.bits19 : waitsOk spec_l1Cur_planned.T19.2 spec_l1Cur_planned.B19 = true := by kernel_rfl
def spec_l1Cur_planned.T33 : Bool × List (List Nat × List Nat) := (true, [([], []), ([], []), ([], []), ([1, 2], [1, 2]), ([0, 3], [0, 3]), ([4], [4]), ([], []), ([6, 3], [6]), ([5, 7], [5, 7]), ([0, 3, 0, 1, 2, 3, 4, 5, 6, 7, 8], [0, 3]), ([9, 8, 7, 0, 1, 2, 3, 4, 5, 6, 7, 8], [8, 9])])
def spec_l1Cur_planned.B33 : List Nat := [0, 0, 0, 6, 15, 31, 0, 78, 255, 511, 1023]
theorem spec_l1Cur_planned.tab33 : rtab .any (opsOf Try.f74 33) = spec_l1Cur_planned.T33 := by kernel_rfl
theorem spec_l1Cur_planned.bits33 : waitsOk spec_l1Cur_planned.T33.2 spec_l1Cur_planned.B33 = true := by kernel_rfl
set_option maxHeartbeats 8000000 in
set_option maxRecDepth 100000 in
theorem spec_l1Cur_planned.calls (k : Nat) (g : Nat) (s0_0 : List Int) (s0_1 : Int) (s0_2 : Int) (r1 : List (List Int)) (r2 : List Int) (r3 : Int) (r4 : Int) (r5 : Int) (w0 w : World) (hI : IsS83 w0 w g s0_0 s0_1 s0_2) (hB : Below w0.heap.size w0 w) (h : spec_l1Cur_planned.f k s0_0 s0_1 s0_2 = some (r1, r2, r3, r4, r5)) :
 Calls Try.prog 74 #[.pointer (some ⟨g, 0, none⟩)] w fun e w' => ∃ v0_ v1_ : Value, e = .returned (.tuple #[v0_, v1_, .int .i64 r3]) ∧ Kd.S (Kd.slice 3 (Kd.int .i64)) 23 w' w.heap.size (fun k_ => some k_ ≠ (v1_ : Value).ownBlock) v0_ r1 ∧ Kd.Q (Kd.int .i64) 3 w' w.heap.size (fun _ => True) v1_ r2 ∧ IsS83 w0 w' g s0_0 r4 r5 ∧ Below w0.heap.size w0 w' ∧ KeepBut w w' g none := by
 have HI0 := A_ hI
 have HK := A_ (KeepBut.refl w g none)
 have HL := A_ hB.size
 clear hI
 have HW0 := A_ hB.size
 have HB := A_ hB
 clear hB
 have H : ((spec_l1Cur_pick.f s0_0 s0_1 s0_2 4).bind fun bt809 => ((spec_l1Cur_one.f s0_0 bt809.2.1 bt809.2.2 16).bind fun bt812 => (if bt812.1 = true then (spec_l1Cur_planned.j0 k 6 s0_0 bt812.2.1 bt812.2.2) else (spec_l1Cur_planned.j0 k (wrap64 (1 + bt809.1)) s0_0 bt812.2.1 bt812.2.2)))) = some (r1, r2, r3, r4, r5) := h
 clear h
 obtain ⟨⟨t809, t810, t811⟩, A20, H⟩ := Option.bind_eq_some_iff.mp H
 try dsimp only at H
 have A2 := A_ A20; clear A20
 obtain ⟨⟨t812, t813, t814⟩, A30, H⟩ := Option.bind_eq_some_iff.mp H
 try dsimp only at H
 have A3 := A_ A30; clear A30
 have HC4 := A_ H
 clear H
 go_enter Try.func74, Try.ntmps74
 go_upto_if 20 with (first | ((with_reducible refine gate_callee (f := 90) rfl ?_); refine goesL_ (some 17) rfl rfl Try.func90 kr_ rfl #[.pointer (some ⟨g, 0, none⟩), .int .i64 4] rfl am_ ?_; (with_reducible refine (spec_l1Cur_pick.calls g s0_0 s0_1 s0_2 4 t809 t810 t811 w0 _ ?side1 ?side2 A2.out).mono ?_); (case side1 => exact kI_83 HI0.out); (case side2 => exact bs_ (IsS83.ge HI0.out)); rintro e w5 ⟨rfl, hi, hb, hk⟩; refine ⟨_, rfl, ?_⟩; have n0_ := A_ (KeepBut.trans hk_ hk (.inl rfl)); have n1_ := A_ (hb); have n2_ := A_ (hi); clear HK; clear HB; clear HI0; have HK := n0_; have HB := n1_; have HI0 := n2_; clear n0_ n1_ n2_; (try clear hb); (try clear hb2); (try clear hk); (try clear hi)) | ((with_reducible refine gate_callee (f := 78) rfl ?_); refine goesL_ (some 20) rfl rfl Try.func78 kr_ rfl #[.pointer (some ⟨g, 0, none⟩), .int .i64 16] rfl am_ ?_; (with_reducible refine (spec_l1Cur_one.calls g s0_0 t810 t811 16 t812 t813 t814 w0 _ ?side1 ?side2 A3.out).mono ?_); (case side1 => exact kI_83 HI0.out); (case side2 => exact bs_ (IsS83.ge HI0.out)); rintro e w6 ⟨rfl, hi, hb, hk⟩; refine ⟨_, rfl, ?_⟩; have n0_ := A_ (KeepBut.trans hk_ hk (.inl rfl)); have n1_ := A_ (hb); have n2_ := A_ (hi); clear HK; clear HB; clear HI0; have HK := n0_; have HB := n1_; have HI0 := n2_; clear n0_ n1_ n2_; (try clear hb); (try clear hb2); (try clear hk); (try clear hi)))
 (try simp only [Act.put, List.setIfInBounds_toArray, List.set_cons_zero, List.set_cons_succ])
 go_cut [5] (fun v5 wc => ∃ (kq : Nat) (x5_3 : Int), v5 = .int .i64 x5_3 ∧ Aside0 (spec_l1Cur_planned.j0 kq x5_3 s0_0 t813 t814 = some (r1, r2, r3, r4, r5)) ∧ Aside0 (kq ≤ k) ∧ Aside0 (IsS83 w0 wc g s0_0 t813 t814) ∧ Aside0 (KeepBut w wc g none) ∧ Aside0 (Below w0.heap.size w0 wc))
 case first =>
  have H := HC4.out
  clear HC4
  by_cases c7 : t812 = true
  ·
   subst c7
   rw [if_pos rfl] at H
   have H' := A_ H; clear H
   go_wp2
   go_meet
   case rel => exact ⟨_, (6), es_, H', ⟨by first | omega | exact Nat.le_refl _⟩, ⟨kI_83 HI0.out⟩, ⟨hk_⟩, ⟨bs_ (IsS83.ge HI0.out)⟩⟩
  ·
   replace c7 := Bool.eq_false_iff.mpr c7
   subst c7
   rw [if_neg (show ¬ (false = true) by decide)] at H
   have H' := A_ H; clear H
   go_wp2
   go_meet
   case rel => exact ⟨_, (wrap64 (1 + t809)), es_, H', ⟨by first | omega | exact Nat.le_refl _⟩, ⟨kI_83 HI0.out⟩, ⟨hk_⟩, ⟨bs_ (IsS83.ge HI0.out)⟩⟩
 case rest =>
  clear HC4
  (try clear p2); (try clear p6); (try clear c7)
  obtain ⟨kq, x5_3, rfl, HA, HJ3, HI0, HK, HB⟩ := hcut
  cases kq with
  | zero => exact absurd HA.out (by simp [spec_l1Cur_planned.j0])
  | succ kj3 =>
   have H := HA.out
   clear HA
   simp only [spec_l1Cur_planned.j0] at H
   have H' := A_ H; clear H
   go_wp2
   go_loopg [6, 7] kj3 (fun kq v6 v7 w' => ∃ (x6_2 : List (List Int)) (x7_2 : Int) (x1001_2 : Int) (x1002_2 : Int), v7 = .int .i64 x7_2 ∧ Aside0 (spec_l1Cur_planned.l0 kq x5_3 x6_2 x7_2 s0_0 x1001_2 x1002_2 = some (r1, r2, r3, r4, r5)) ∧ Aside0 (kq ≤ kj3) ∧ Aside0 (Kd.S (Kd.slice 3 (Kd.int .i64)) 23 w' w.heap.size (fun _ => True) v6 x6_2) ∧ Aside0 (IsS83 w0 w' g s0_0 x1001_2 x1002_2) ∧ Aside0 (KeepBut w w' g none) ∧ Aside0 (Below w0.heap.size w0 w'))
   case atStart => exact ⟨(([] : List (List Int))), (0), (t813), (t814), es_, H', ⟨Nat.le_refl _⟩, ⟨by first | exact Kd.S_nil _ _ _ _ _ | exact Kd.N_nil _ _ _ _ _ | exact Kd.V_nil _ _ _ _ _ | exact Kd.Q_nil _ _ _ _ _ | exact Kd.R_nil _ _ _ _ _⟩, ⟨kI_83 HI0.out⟩, ⟨hk_⟩, ⟨bs_ (IsS83.ge HI0.out)⟩⟩
   case round =>
    clear H'
    (try clear p2); (try clear p6); (try clear c7); (try clear p2); (try clear p6)
    obtain ⟨x6_2, x7_2, x1001_2, x1002_2, rfl, HA, HK2, HO_6, HI0, HK, HB⟩ := hrel
    cases gk with
    | zero => exact absurd HA.out (by simp [spec_l1Cur_planned.l0])
    | succ k2 =>
     have H := HA.out
     clear HA
     simp only [spec_l1Cur_planned.l0] at H
     by_cases c8 : x7_2 < x5_3
     ·
      rw [if_pos c8] at H
      have c8b0 := decide_eq_true c8
      clear c8
      have H' := A_ H; clear H
      go_wp2
      go_loopg [8, 9] k2 (fun kq v8 v9 w' => ∃ (x8_3 : List Int) (x9_3 : Int) (x1001_3 : Int) (x1002_3 : Int), v9 = .int .i64 x9_3 ∧ Aside0 (spec_l1Cur_planned.l1 kq x5_3 x6_2 x7_2 x8_3 x9_3 s0_0 x1001_3 x1002_3 = some (r1, r2, r3, r4, r5)) ∧ Aside0 (kq ≤ k2) ∧ Aside0 (Kd.S (Kd.slice 3 (Kd.int .i64)) 23 w' w.heap.size (fun k_ => some k_ ≠ (v8 : Value).ownBlock) u6 x6_2) ∧ Aside0 (Kd.R (Kd.int .i64) 3 w' w.heap.size (fun _ => True) v8 x8_3) ∧ Aside0 (IsS83 w0 w' g s0_0 x1001_3 x1002_3) ∧ Aside0 (KeepBut w w' g none) ∧ Aside0 (Below w0.heap.size w0 w'))
      case atStart => exact ⟨(([] : List Int)), (0), (x1001_2), (x1002_2), es_, H', ⟨Nat.le_refl _⟩, ⟨by (with_reducible repeat (first | apply Kd.S_alloc | apply Kd.S_drewN | apply Kd.S_drew)); exact Kd.S_mono HO_6.out (fun _ hk => (by simp [Value.ownBlock]))⟩, ⟨by first | exact Kd.R_nil _ _ _ _ _ | exact Kd.N_nil _ _ _ _ _ | exact Kd.V_nil _ _ _ _ _ | exact Kd.Q_nil _ _ _ _ _ | exact Kd.S_nil _ _ _ _ _⟩, ⟨kI_83 HI0.out⟩, ⟨hk_⟩, ⟨bs_ (IsS83.ge HI0.out)⟩⟩
      case round =>
       clear H'
       (try clear p2); (try clear p6); (try clear c7); (try clear c8); (try clear c8b0); (try clear p2); (try clear p6)
       obtain ⟨x8_3, x9_3, x1001_3, x1002_3, rfl, HA, HK3, HO_6, HO_8, HI0, HK, HB⟩ := hrel
       cases gk with
       | zero => exact absurd HA.out (by simp [spec_l1Cur_planned.l1])
       | succ k3 =>
        have H := HA.out
        clear HA
        simp only [spec_l1Cur_planned.l1] at H
        by_cases c9 : x9_3 < x5_3
        ·
         rw [if_pos c9] at H
         have c9b0 := decide_eq_true c9
         clear c9
         obtain ⟨⟨t818, t819, t820⟩, A100, H⟩ := Option.bind_eq_some_iff.mp H
         try dsimp only at H
         have A10 := A_ A100; clear A100
         by_cases c11 : x5_3 = 0
         ·
          rw [if_pos c11] at H
          exact absurd H (by simp)
         ·
          rw [if_neg c11] at H
          have c11b0 : (x5_3 == 0) = false := beq_eq_false_iff_ne.mpr c11
          have c11b1 : (x5_3 != 0) = true := bne_iff_ne.mpr c11
          by_cases c12 : x9_3 = (Int.tmod (wrap64 (x7_2 + 1)) x5_3)
          ·
           rw [if_pos c12] at H
           have c12b0 : (x9_3 == (Int.tmod (wrap64 (x7_2 + 1)) x5_3)) = true := beq_iff_eq.mpr c12
           have c12b1 : (x9_3 != (Int.tmod (wrap64 (x7_2 + 1)) x5_3)) = false := bne_eq_false_iff_eq.mpr c12
           clear c12
           by_cases c13 : x8_3.length < 17592186044416
           ·
            rw [if_pos c13] at H
            have LMc13 := A_ c13
            clear c13
            obtain ⟨y821, hy821⟩ : ∃ y_ : List Int, y_ = (x8_3 ++ [wrap64 (1 + t818)]) := ⟨_, rfl⟩
            replace H : (spec_l1Cur_planned.l1 k3 x5_3 x6_2 x7_2 y821 (wrap64 (x9_3 + 1)) s0_0 t819 t820) = some (r1, r2, r3, r4, r5) := by first | (rw [hy821]; with_reducible exact H) | (have H2_ := (Option.bind_some _ _).symm.trans H; rw [hy821]; with_reducible exact H2_) | (have H2_ := (Option.bind_some _ _).symm.trans H; with_reducible exact H2_) | with_reducible exact H | (rw [hy821]; exact H) | exact H
            have Ny821 := A_ hy821
            clear hy821
            have H' := A_ H; clear H
            go_wp2_with (first | ((with_reducible refine gate_callee (f := 90) rfl ?_); refine goesL_ (some 32) rfl rfl Try.func90 kr_ rfl #[.pointer (some ⟨g, 0, none⟩), .int .i64 12] rfl am_ ?_; (with_reducible refine (spec_l1Cur_pick.calls g s0_0 x1001_3 x1002_3 12 t818 t819 t820 w0 _ ?side1 ?side2 A10.out).mono ?_); (case side1 => exact kI_83 HI0.out); (case side2 => exact bs_ (IsS83.ge HI0.out)); rintro e w14 ⟨rfl, hi, hb, hk⟩; refine ⟨_, rfl, ?_⟩; have n0_ := A_ (Kd.S_mono (Kd.S_keep (IsS83.apartS (show IsS83 w0 _ g s0_0 x1001_3 x1002_3 from kI_83 HI0.out) (kS_ HO_6.out) (by decide)) hk (fun _ h => h.2)) (fun _ h => h.1)); have n1_ := A_ (Kd.R_mono (Kd.R_keep (IsS83.apart (show IsS83 w0 _ g s0_0 x1001_3 x1002_3 from kI_83 HI0.out) (kR_ HO_8.out) (by decide)) hk (fun _ h => h.2)) (fun _ h => h.1)); have n2_ := A_ (KeepBut.trans hk_ hk (.inl rfl)); have n3_ := A_ (hb); have n4_ := A_ (hi); clear HO_6; clear HO_8; clear HK; clear HB; clear HI0; have HO_6 := n0_; have HO_8 := n1_; have HK := n2_; have HB := n3_; have HI0 := n4_; clear n0_ n1_ n2_ n3_ n4_; (try clear hb); (try clear hb2); (try clear hk); (try clear hi)) | ((with_reducible refine gate_builtin (b := .append) (xs := #[.tmp 44, .tmp 46]) rfl ?_); at_builtin; refine Kd.R_append (Kd.int .i64) w.heap.size rfl (.tmp 44) (.tmp 46) 23 3 (.int .i64 0) 8 rfl Try.underlying23 info3 rfl (by decide) (by omega) u8 x8_3 (wrap64 (1 + t818)) [.int .i64 (wrap64 (1 + t818))] (fun _ => True) (fun _ => False) rfl rfl ?aP (fun _ hk => hk.elim) ?aF ?aO (Below.refl _ _) ?aS ?aL ?_; (case aP => exact rfl); (case aF => exact (fun _ _ => trivial)); (case aO => exact (kR_ HO_8.out)); (case aS => exact (keep_size (w := w) (g := g) (row := none) hk_)); (case aL => have := LMc13.out; omega); intro v822 w15 ho hb hg hat; rw [← Ny821.out] at ho; have n0_ := A_ (Kd.S_after (ok := (fun _ => True)) (by (with_reducible repeat (first | apply Kd.S_alloc | apply Kd.S_drewN | apply Kd.S_drew)); exact Kd.S_mono HO_6.out (fun _ hk => ⟨trivial, hk⟩)) hg hat); have n1_ := A_ (IsS83.grown (kI_83 HI0.out) hg (IsS83.own_ne HI0.out HO_8.out (by decide))); have n2_ := A_ (below_weaken (bs_ (IsS83.ge HI0.out)) HL.out hb); have n3_ := A_ (KeepBut.trans hk_ (KeepBut.of_grown hg g) (Kd.R_base2 HO_8.out)); have n4_ := A_ (ho); clear HO_6; clear HI0; clear HB; clear HK; clear HO_8; have HO_6 := n0_; have HI0 := n1_; have HB := n2_; have HK := n3_; have HO823 := n4_; clear n0_ n1_ n2_ n3_ n4_; clear ho hb hg hat))
            go_roundg k3
            case measure => have := HJ3.out; have := HK2.out; have := HK3.out; omega
            case rel => exact ⟨(y821), (wrap64 (x9_3 + 1)), (t819), (t820), es_, H', ⟨by have := HJ3.out; have := HK2.out; have := HK3.out; omega⟩, ⟨by (with_reducible repeat (first | apply Kd.S_alloc | apply Kd.S_drewN | apply Kd.S_drew)); exact Kd.S_mono HO_6.out (fun _ hk => hk.2)⟩, ⟨kR_ HO823.out⟩, ⟨kI_83 HI0.out⟩, ⟨hk_⟩, ⟨bs_ (IsS83.ge HI0.out)⟩⟩
           ·
            rw [if_neg c13] at H; cases H
          ·
           rw [if_neg c12] at H
           have c12b0 : (x9_3 == (Int.tmod (wrap64 (x7_2 + 1)) x5_3)) = false := beq_eq_false_iff_ne.mpr c12
           have c12b1 : (x9_3 != (Int.tmod (wrap64 (x7_2 + 1)) x5_3)) = true := bne_iff_ne.mpr c12
           obtain ⟨⟨t824, t825, t826⟩, A160, H⟩ := Option.bind_eq_some_iff.mp H
           try dsimp only at H
           have A16 := A_ A160; clear A160
           by_cases c17 : t824 = true
           ·
            subst c17
            rw [if_pos rfl] at H
            by_cases c18 : x8_3.length < 17592186044416
            ·
             rw [if_pos c18] at H
             have LMc18 := A_ c18
             clear c18
             obtain ⟨y827, hy827⟩ : ∃ y_ : List Int, y_ = (x8_3 ++ [1000000000]) := ⟨_, rfl⟩
             replace H : (spec_l1Cur_planned.l1 k3 x5_3 x6_2 x7_2 y827 (wrap64 (x9_3 + 1)) s0_0 t825 t826) = some (r1, r2, r3, r4, r5) := by first | (rw [hy827]; with_reducible exact H) | (have H2_ := (Option.bind_some _ _).symm.trans H; rw [hy827]; with_reducible exact H2_) | (have H2_ := (Option.bind_some _ _).symm.trans H; with_reducible exact H2_) | with_reducible exact H | (rw [hy827]; exact H) | exact H
             have Ny827 := A_ hy827
             clear hy827
             have H' := A_ H; clear H
             go_wp2_with (first | ((with_reducible refine gate_callee (f := 90) rfl ?_); refine goesL_ (some 32) rfl rfl Try.func90 kr_ rfl #[.pointer (some ⟨g, 0, none⟩), .int .i64 12] rfl am_ ?_; (with_reducible refine (spec_l1Cur_pick.calls g s0_0 x1001_3 x1002_3 12 t818 t819 t820 w0 _ ?side1 ?side2 A10.out).mono ?_); (case side1 => exact kI_83 HI0.out); (case side2 => exact bs_ (IsS83.ge HI0.out)); rintro e w19 ⟨rfl, hi, hb, hk⟩; refine ⟨_, rfl, ?_⟩; have n0_ := A_ (Kd.S_mono (Kd.S_keep (IsS83.apartS (show IsS83 w0 _ g s0_0 x1001_3 x1002_3 from kI_83 HI0.out) (kS_ HO_6.out) (by decide)) hk (fun _ h => h.2)) (fun _ h => h.1)); have n1_ := A_ (Kd.R_mono (Kd.R_keep (IsS83.apart (show IsS83 w0 _ g s0_0 x1001_3 x1002_3 from kI_83 HI0.out) (kR_ HO_8.out) (by decide)) hk (fun _ h => h.2)) (fun _ h => h.1)); have n2_ := A_ (KeepBut.trans hk_ hk (.inl rfl)); have n3_ := A_ (hb); have n4_ := A_ (hi); clear HO_6; clear HO_8; clear HK; clear HB; clear HI0; have HO_6 := n0_; have HO_8 := n1_; have HK := n2_; have HB := n3_; have HI0 := n4_; clear n0_ n1_ n2_ n3_ n4_; (try clear hb); (try clear hb2); (try clear hk); (try clear hi)) | (go_at_call 78; (with_reducible refine (spec_l1Cur_one.calls g s0_0 t819 t820 2 true t825 t826 w0 _ ?side1 ?side2 A16.out).mono ?_); (case side1 => exact kI_83 HI0.out); (case side2 => exact bs_ (IsS83.ge HI0.out)); rintro e w20 ⟨rfl, hi, hb, hk⟩; have n0_ := A_ (Kd.S_mono (Kd.S_keep (IsS83.apartS (show IsS83 w0 _ g s0_0 t819 t820 from kI_83 HI0.out) (kS_ HO_6.out) (by decide)) hk (fun _ h => h.2)) (fun _ h => h.1)); have n1_ := A_ (Kd.R_mono (Kd.R_keep (IsS83.apart (show IsS83 w0 _ g s0_0 t819 t820 from kI_83 HI0.out) (kR_ HO_8.out) (by decide)) hk (fun _ h => h.2)) (fun _ h => h.1)); have n2_ := A_ (KeepBut.trans hk_ hk (.inl rfl)); have n3_ := A_ (hb); have n4_ := A_ (hi); clear HO_6; clear HO_8; clear HK; clear HB; clear HI0; have HO_6 := n0_; have HO_8 := n1_; have HK := n2_; have HB := n3_; have HI0 := n4_; clear n0_ n1_ n2_ n3_ n4_; (try clear hb); (try clear hb2); (try clear hk); (try clear hi)) | ((with_reducible refine gate_builtin (b := .append) (xs := #[.tmp 44, .tmp 46]) rfl ?_); at_builtin; refine Kd.R_append (Kd.int .i64) w.heap.size rfl (.tmp 44) (.tmp 46) 23 3 (.int .i64 0) 8 rfl Try.underlying23 info3 rfl (by decide) (by omega) u8 x8_3 1000000000 [.int .i64 1000000000] (fun _ => True) (fun _ => False) rfl rfl ?aP (fun _ hk => hk.elim) ?aF ?aO (Below.refl _ _) ?aS ?aL ?_; (case aP => exact rfl); (case aF => exact (fun _ _ => trivial)); (case aO => exact (kR_ HO_8.out)); (case aS => exact (keep_size (w := w) (g := g) (row := none) hk_)); (case aL => have := LMc18.out; omega); intro v828 w21 ho hb hg hat; rw [← Ny827.out] at ho; have n0_ := A_ (Kd.S_after (ok := (fun _ => True)) (by (with_reducible repeat (first | apply Kd.S_alloc | apply Kd.S_drewN | apply Kd.S_drew)); exact Kd.S_mono HO_6.out (fun _ hk => ⟨trivial, hk⟩)) hg hat); have n1_ := A_ (IsS83.grown (kI_83 HI0.out) hg (IsS83.own_ne HI0.out HO_8.out (by decide))); have n2_ := A_ (below_weaken (bs_ (IsS83.ge HI0.out)) HL.out hb); have n3_ := A_ (KeepBut.trans hk_ (KeepBut.of_grown hg g) (Kd.R_base2 HO_8.out)); have n4_ := A_ (ho); clear HO_6; clear HI0; clear HB; clear HK; clear HO_8; have HO_6 := n0_; have HI0 := n1_; have HB := n2_; have HK := n3_; have HO829 := n4_; clear n0_ n1_ n2_ n3_ n4_; clear ho hb hg hat))
             go_roundg k3
             case measure => have := HJ3.out; have := HK2.out; have := HK3.out; omega
             case rel => exact ⟨(y827), (wrap64 (x9_3 + 1)), (t825), (t826), es_, H', ⟨by have := HJ3.out; have := HK2.out; have := HK3.out; omega⟩, ⟨by (with_reducible repeat (first | apply Kd.S_alloc | apply Kd.S_drewN | apply Kd.S_drew)); exact Kd.S_mono HO_6.out (fun _ hk => hk.2)⟩, ⟨kR_ HO829.out⟩, ⟨kI_83 HI0.out⟩, ⟨hk_⟩, ⟨bs_ (IsS83.ge HI0.out)⟩⟩
            ·
             rw [if_neg c18] at H; cases H
           ·
            replace c17 := Bool.eq_false_iff.mpr c17
            subst c17
            rw [if_neg (show ¬ (false = true) by decide)] at H
            by_cases c22 : x8_3.length < 17592186044416
            ·
             rw [if_pos c22] at H
             have LMc22 := A_ c22
             clear c22
             obtain ⟨y830, hy830⟩ : ∃ y_ : List Int, y_ = (x8_3 ++ [wrap64 (1 + t818)]) := ⟨_, rfl⟩
             replace H : (spec_l1Cur_planned.l1 k3 x5_3 x6_2 x7_2 y830 (wrap64 (x9_3 + 1)) s0_0 t825 t826) = some (r1, r2, r3, r4, r5) := by first | (rw [hy830]; with_reducible exact H) | (have H2_ := (Option.bind_some _ _).symm.trans H; rw [hy830]; with_reducible exact H2_) | (have H2_ := (Option.bind_some _ _).symm.trans H; with_reducible exact H2_) | with_reducible exact H | (rw [hy830]; exact H) | exact H
             have Ny830 := A_ hy830
             clear hy830
             have H' := A_ H; clear H
             go_wp2_with (first | ((with_reducible refine gate_callee (f := 90) rfl ?_); refine goesL_ (some 32) rfl rfl Try.func90 kr_ rfl #[.pointer (some ⟨g, 0, none⟩), .int .i64 12] rfl am_ ?_; (with_reducible refine (spec_l1Cur_pick.calls g s0_0 x1001_3 x1002_3 12 t818 t819 t820 w0 _ ?side1 ?side2 A10.out).mono ?_); (case side1 => exact kI_83 HI0.out); (case side2 => exact bs_ (IsS83.ge HI0.out)); rintro e w23 ⟨rfl, hi, hb, hk⟩; refine ⟨_, rfl, ?_⟩; have n0_ := A_ (Kd.S_mono (Kd.S_keep (IsS83.apartS (show IsS83 w0 _ g s0_0 x1001_3 x1002_3 from kI_83 HI0.out) (kS_ HO_6.out) (by decide)) hk (fun _ h => h.2)) (fun _ h => h.1)); have n1_ := A_ (Kd.R_mono (Kd.R_keep (IsS83.apart (show IsS83 w0 _ g s0_0 x1001_3 x1002_3 from kI_83 HI0.out) (kR_ HO_8.out) (by decide)) hk (fun _ h => h.2)) (fun _ h => h.1)); have n2_ := A_ (KeepBut.trans hk_ hk (.inl rfl)); have n3_ := A_ (hb); have n4_ := A_ (hi); clear HO_6; clear HO_8; clear HK; clear HB; clear HI0; have HO_6 := n0_; have HO_8 := n1_; have HK := n2_; have HB := n3_; have HI0 := n4_; clear n0_ n1_ n2_ n3_ n4_; (try clear hb); (try clear hb2); (try clear hk); (try clear hi)) | (go_at_call 78; (with_reducible refine (spec_l1Cur_one.calls g s0_0 t819 t820 2 false t825 t826 w0 _ ?side1 ?side2 A16.out).mono ?_); (case side1 => exact kI_83 HI0.out); (case side2 => exact bs_ (IsS83.ge HI0.out)); rintro e w24 ⟨rfl, hi, hb, hk⟩; have n0_ := A_ (Kd.S_mono (Kd.S_keep (IsS83.apartS (show IsS83 w0 _ g s0_0 t819 t820 from kI_83 HI0.out) (kS_ HO_6.out) (by decide)) hk (fun _ h => h.2)) (fun _ h => h.1)); have n1_ := A_ (Kd.R_mono (Kd.R_keep (IsS83.apart (show IsS83 w0 _ g s0_0 t819 t820 from kI_83 HI0.out) (kR_ HO_8.out) (by decide)) hk (fun _ h => h.2)) (fun _ h => h.1)); have n2_ := A_ (KeepBut.trans hk_ hk (.inl rfl)); have n3_ := A_ (hb); have n4_ := A_ (hi); clear HO_6; clear HO_8; clear HK; clear HB; clear HI0; have HO_6 := n0_; have HO_8 := n1_; have HK := n2_; have HB := n3_; have HI0 := n4_; clear n0_ n1_ n2_ n3_ n4_; (try clear hb); (try clear hb2); (try clear hk); (try clear hi)) | ((with_reducible refine gate_builtin (b := .append) (xs := #[.tmp 44, .tmp 46]) rfl ?_); at_builtin; refine Kd.R_append (Kd.int .i64) w.heap.size rfl (.tmp 44) (.tmp 46) 23 3 (.int .i64 0) 8 rfl Try.underlying23 info3 rfl (by decide) (by omega) u8 x8_3 (wrap64 (1 + t818)) [.int .i64 (wrap64 (1 + t818))] (fun _ => True) (fun _ => False) rfl rfl ?aP (fun _ hk => hk.elim) ?aF ?aO (Below.refl _ _) ?aS ?aL ?_; (case aP => exact rfl); (case aF => exact (fun _ _ => trivial)); (case aO => exact (kR_ HO_8.out)); (case aS => exact (keep_size (w := w) (g := g) (row := none) hk_)); (case aL => have := LMc22.out; omega); intro v831 w25 ho hb hg hat; rw [← Ny830.out] at ho; have n0_ := A_ (Kd.S_after (ok := (fun _ => True)) (by (with_reducible repeat (first | apply Kd.S_alloc | apply Kd.S_drewN | apply Kd.S_drew)); exact Kd.S_mono HO_6.out (fun _ hk => ⟨trivial, hk⟩)) hg hat); have n1_ := A_ (IsS83.grown (kI_83 HI0.out) hg (IsS83.own_ne HI0.out HO_8.out (by decide))); have n2_ := A_ (below_weaken (bs_ (IsS83.ge HI0.out)) HL.out hb); have n3_ := A_ (KeepBut.trans hk_ (KeepBut.of_grown hg g) (Kd.R_base2 HO_8.out)); have n4_ := A_ (ho); clear HO_6; clear HI0; clear HB; clear HK; clear HO_8; have HO_6 := n0_; have HI0 := n1_; have HB := n2_; have HK := n3_; have HO832 := n4_; clear n0_ n1_ n2_ n3_ n4_; clear ho hb hg hat))
             go_roundg k3
             case measure => have := HJ3.out; have := HK2.out; have := HK3.out; omega
             case rel => exact ⟨(y830), (wrap64 (x9_3 + 1)), (t825), (t826), es_, H', ⟨by have := HJ3.out; have := HK2.out; have := HK3.out; omega⟩, ⟨by (with_reducible repeat (first | apply Kd.S_alloc | apply Kd.S_drewN | apply Kd.S_drew)); exact Kd.S_mono HO_6.out (fun _ hk => hk.2)⟩, ⟨kR_ HO832.out⟩, ⟨kI_83 HI0.out⟩, ⟨hk_⟩, ⟨bs_ (IsS83.ge HI0.out)⟩⟩
            ·
             rw [if_neg c22] at H; cases H
        ·
         rw [if_neg c9] at H
         have c9b0 := decide_eq_false c9
         clear c9
         by_cases c26 : x6_2.length < 5864062014805
         ·
          rw [if_pos c26] at H
          have LMc26 := A_ c26
          clear c26
          obtain ⟨y815, hy815⟩ : ∃ y_ : List (List Int), y_ = (x6_2 ++ [x8_3]) := ⟨_, rfl⟩
          replace H : (spec_l1Cur_planned.l0 k3 x5_3 y815 (wrap64 (x7_2 + 1)) s0_0 x1001_3 x1002_3) = some (r1, r2, r3, r4, r5) := by first | (rw [hy815]; with_reducible exact H) | (have H2_ := (Option.bind_some _ _).symm.trans H; rw [hy815]; with_reducible exact H2_) | (have H2_ := (Option.bind_some _ _).symm.trans H; with_reducible exact H2_) | with_reducible exact H | (rw [hy815]; exact H) | exact H
          have Ny815 := A_ hy815
          clear hy815
          have H' := A_ H; clear H
          obtain ⟨Ao28, co28, eo28⟩ := Kd.R_slice HO_8.out
          subst eo28
          go_wp2_with (first | ((with_reducible refine gate_builtin (b := .append) (xs := #[.tmp 48, .tmp 50]) rfl ?_); at_builtin; refine Kd.S_append (Kd.slice 3 (Kd.int .i64)) w.heap.size rfl (.tmp 48) (.tmp 50) 22 23 (.slice none 0 0) 24 rfl Try.underlying22 info23 rfl (by decide) (by omega) u6 x6_2 x8_3 [.slice Ao28 x8_3.length co28] (fun _ => True) (fun k_ => some k_ = (.slice Ao28 x8_3.length co28 : Value).ownBlock) rfl rfl ?aP (fun k_ hk_ => ((Kd.R_mono (ok' := fun k_ => ((fun _ => True)) k_ ∧ some k_ ≠ (u6 : Value).ownBlock) (Kd.R_apart' (HO_8.out) (Kd.S_typed HO_6.out) (by decide)) (fun k_ hk => ⟨trivial, hk.2⟩))).1 k_ hk_.symm) ?aF ?aO (Below.refl _ _) ?aS ?aL ?_; (case aP => exact Kd.M_row (Kd.R_mono (Kd.R_tight rfl (Kd.R_mono (ok' := fun k_ => ((fun _ => True)) k_ ∧ some k_ ≠ (u6 : Value).ownBlock) (Kd.R_apart' (HO_8.out) (Kd.S_typed HO_6.out) (by decide)) (fun k_ hk => ⟨trivial, hk.2⟩))) (fun _ h_ => h_))); (case aF => exact (fun _ _ => trivial)); (case aO => exact (by (with_reducible repeat (first | apply Kd.S_alloc | apply Kd.S_drewN | apply Kd.S_drew)); exact Kd.S_mono HO_6.out (fun k_ hk => ⟨trivial, fun e_ => hk e_⟩))); (case aS => exact (keep_size (w := w) (g := g) (row := none) hk_)); (case aL => have := LMc26.out; omega); intro v816 w27 ho hb hg hat; rw [← Ny815.out] at ho; have n0_ := A_ (IsS83.grown (kI_83 HI0.out) hg (IsS83.own_neS HI0.out HO_6.out (by decide))); have n1_ := A_ (below_weaken (bs_ (IsS83.ge HI0.out)) HL.out hb); have n2_ := A_ (KeepBut.trans hk_ (KeepBut.of_grown hg g) (Kd.S_base2 HO_6.out)); have n3_ := A_ (ho); clear HI0; clear HB; clear HK; clear HO_6; clear HO_8; have HI0 := n0_; have HB := n1_; have HK := n2_; have HO817 := n3_; clear n0_ n1_ n2_ n3_; clear ho hb hg hat))
          go_roundg k3
          case measure => have := HJ3.out; have := HK2.out; have := HK3.out; omega
          case rel => exact ⟨(y815), (wrap64 (x7_2 + 1)), (x1001_3), (x1002_3), es_, H', ⟨by have := HJ3.out; have := HK2.out; have := HK3.out; omega⟩, ⟨kS_ HO817.out⟩, ⟨kI_83 HI0.out⟩, ⟨hk_⟩, ⟨bs_ (IsS83.ge HI0.out)⟩⟩
         ·
          rw [if_neg c26] at H; cases H
     ·
      rw [if_neg c8] at H
      have c8b0 := decide_eq_false c8
      clear c8
      obtain ⟨y833, hy833⟩ : ∃ y_ : List Int, y_ = (([6, 8, 10, 12, 14, 20] : List Int)) := ⟨_, rfl⟩
      replace H : ((spec_l1Cur_among.f s0_0 x1001_2 x1002_2 y833).bind fun bt836 => ((spec_l1Cur_one.f s0_0 bt836.2.1 bt836.2.2 24).bind fun bt839 => (if bt839.1 = true then (if 0 < (x6_2.length : Int) then ((spec_l1Cur_among.f s0_0 bt839.2.1 bt839.2.2 (([1000, 1001, (-1), 0] : List Int))).bind fun bt846 => (if 0 < ((rd_L1 x6_2 0).length : Int) then (spec_l1Cur_planned.j3 k2 x5_3 (x6_2.set (0 : Int).toNat ((rd_L1 x6_2 0).set (0 : Int).toNat bt846.1)) bt836.1 s0_0 bt846.2.1 bt846.2.2) else (none))) else (none)) else (spec_l1Cur_planned.j3 k2 x5_3 x6_2 bt836.1 s0_0 bt839.2.1 bt839.2.2)))) = some (r1, r2, r3, r4, r5) := by first | (rw [hy833]; with_reducible exact H) | (have H2_ := (Option.bind_some _ _).symm.trans H; rw [hy833]; with_reducible exact H2_) | (have H2_ := (Option.bind_some _ _).symm.trans H; with_reducible exact H2_) | with_reducible exact H | (rw [hy833]; exact H) | exact H
      have Ny833 := A_ hy833
      clear hy833
      obtain ⟨⟨t836, t837, t838⟩, A290, H⟩ := Option.bind_eq_some_iff.mp H
      try dsimp only at H
      have A29 := A_ A290; clear A290
      obtain ⟨⟨t839, t840, t841⟩, A300, H⟩ := Option.bind_eq_some_iff.mp H
      try dsimp only at H
      have A30 := A_ A300; clear A300
      have HC31 := A_ H
      clear H
      go_upto_if 56 with (first | ((with_reducible refine gate_dst (N := 53) rfl ?_); refine Kd.R_lit (Kd.int .i64) _ 3 ?hg (N := 53) ?hd (xs := ([6, 8, 10, 12, 14, 20] : List Int)) (inner := [.int .i64 6, .int .i64 8, .int .i64 10, .int .i64 12, .int .i64 14, .int .i64 20]) (ok := fun _ => True) (okp := fun _ => True) ?hr ?hp (fun _ hk => hk) trivial (Below.refl _ _) (Nat.le_refl _) (by simp) ?_; (case hd => rfl); (case hg => rfl); (case hr => first | (go_simp; done) | (go_simp; rfl)); (case hp => exact (Reps.one (show Kd.M (Kd.int .i64) _ _ _ 6 [.int .i64 6] from rfl) (Reps.one (show Kd.M (Kd.int .i64) _ _ _ 8 [.int .i64 8] from rfl) (Reps.one (show Kd.M (Kd.int .i64) _ _ _ 10 [.int .i64 10] from rfl) (Reps.one (show Kd.M (Kd.int .i64) _ _ _ 12 [.int .i64 12] from rfl) (Reps.one (show Kd.M (Kd.int .i64) _ _ _ 14 [.int .i64 14] from rfl) (Reps.one (show Kd.M (Kd.int .i64) _ _ _ 20 [.int .i64 20] from rfl) (Reps.none _ _)))))))); intro v834 w32 ho33 hb hg_ hnew_; clear hg_ hnew_; (first | rw [← Ny833.out] at ho33 | (simp only [Int.reduceToNat] at ho33; rw [← Ny833.out] at ho33)); have n0_ := A_ (Kd.S_elder' (kS_ HO_6.out) (Kd.R_base ho33) hb); have n1_ := A_ (Kd.R_lower ho33 (keep_size (w := w) (g := g) (row := none) hk_)); have n2_ := A_ (IsS83.below (kI_83 HI0.out) hb); have n3_ := A_ (KeepBut.trans hk_ (KeepBut.of_below hb g none) (.inl rfl)); have n4_ := A_ (below_step (bs_ (IsS83.ge HI0.out)) hb); clear HO_6; clear HI0; clear HK; clear HB; have HO_6 := n0_; have HO835 := n1_; have HI0 := n2_; have HK := n3_; have HB := n4_; clear n0_ n1_ n2_ n3_ n4_; clear hb ho33; obtain ⟨Ao34, co34, eo34⟩ := Kd.R_slice HO835.out; subst eo34) | ((with_reducible refine gate_callee (f := 76) rfl ?_); refine goesL_ (some 54) rfl rfl Try.func76 kr_ rfl #[.pointer (some ⟨g, 0, none⟩), .slice Ao34 y833.length co34] rfl am_ ?_; (with_reducible refine (spec_l1Cur_among.calls g s0_0 x1001_2 x1002_2 _ _ y833 t836 t837 t838 w0 _ ?side1 ?side2 ?side3 ?side4 ?side5 A29.out).mono ?_); (case side1 => exact kI_83 HI0.out); (case side2 => exact bs_ (IsS83.ge HI0.out)); (case side3 => exact kC_ ((Kd.R_reads' HO835.out).2.2)); (case side4 => exact (Kd.R_reads' HO835.out).2.1); (case side5 => exact far_slice (IsS83.own_ne HI0.out HO835.out (by decide))); rintro e w35 ⟨rfl, hi, hb, hk⟩; refine ⟨_, rfl, ?_⟩; have n0_ := A_ (Kd.S_mono (Kd.S_keep (IsS83.apartS (show IsS83 w0 _ g s0_0 x1001_2 x1002_2 from kI_83 HI0.out) (kS_ HO_6.out) (by decide)) hk (fun _ h => h.2)) (fun _ h => h.1)); have n1_ := A_ (Kd.R_mono (Kd.R_keep (IsS83.apart (show IsS83 w0 _ g s0_0 x1001_2 x1002_2 from kI_83 HI0.out) (kR_ HO835.out) (by decide)) hk (fun _ h => h.2)) (fun _ h => h.1)); have n2_ := A_ (KeepBut.trans hk_ hk (.inl rfl)); have n3_ := A_ (hb); have n4_ := A_ (hi); clear HO_6; clear HO835; clear HK; clear HB; clear HI0; have HO_6 := n0_; have HO835 := n1_; have HK := n2_; have HB := n3_; have HI0 := n4_; clear n0_ n1_ n2_ n3_ n4_; (try clear hb); (try clear hb2); (try clear hk); (try clear hi)) | ((with_reducible refine gate_callee (f := 78) rfl ?_); refine goesL_ (some 56) rfl rfl Try.func78 kr_ rfl #[.pointer (some ⟨g, 0, none⟩), .int .i64 24] rfl am_ ?_; (with_reducible refine (spec_l1Cur_one.calls g s0_0 t837 t838 24 t839 t840 t841 w0 _ ?side1 ?side2 A30.out).mono ?_); (case side1 => exact kI_83 HI0.out); (case side2 => exact bs_ (IsS83.ge HI0.out)); rintro e w36 ⟨rfl, hi, hb, hk⟩; refine ⟨_, rfl, ?_⟩; have n0_ := A_ (Kd.S_mono (Kd.S_keep (IsS83.apartS (show IsS83 w0 _ g s0_0 t837 t838 from kI_83 HI0.out) (kS_ HO_6.out) (by decide)) hk (fun _ h => h.2)) (fun _ h => h.1)); have n1_ := A_ (Kd.R_mono (Kd.R_keep (IsS83.apart (show IsS83 w0 _ g s0_0 t837 t838 from kI_83 HI0.out) (kR_ HO835.out) (by decide)) hk (fun _ h => h.2)) (fun _ h => h.1)); have n2_ := A_ (KeepBut.trans hk_ hk (.inl rfl)); have n3_ := A_ (hb); have n4_ := A_ (hi); clear HO_6; clear HO835; clear HK; clear HB; clear HI0; have HO_6 := n0_; have HO835 := n1_; have HK := n2_; have HB := n3_; have HI0 := n4_; clear n0_ n1_ n2_ n3_ n4_; (try clear hb); (try clear hb2); (try clear hk); (try clear hi)))
      (try simp only [Act.put, List.setIfInBounds_toArray, List.set_cons_zero, List.set_cons_succ])
      go_cut [] (fun wc => ∃ (kq : Nat) (x6_30 : List (List Int)) (x1001_30 : Int) (x1002_30 : Int), Aside0 (spec_l1Cur_planned.j3 kq x5_3 x6_30 t836 s0_0 x1001_30 x1002_30 = some (r1, r2, r3, r4, r5)) ∧ Aside0 (kq ≤ k2) ∧ Aside0 (Kd.S (Kd.slice 3 (Kd.int .i64)) 23 wc w.heap.size (fun _ => True) u6 x6_30) ∧ Aside0 (IsS83 w0 wc g s0_0 x1001_30 x1002_30) ∧ Aside0 (KeepBut w wc g none) ∧ Aside0 (Below w0.heap.size w0 wc))
      case first =>
       have H := HC31.out
       clear HC31
       by_cases c37 : t839 = true
       ·
        subst c37
        rw [if_pos rfl] at H
        by_cases c38 : 0 < (x6_2.length : Int)
        ·
         rw [if_pos c38] at H
         have c38b0 := decide_eq_true c38
         have c38b1 : decide (0 < x6_2.length) = true := decide_eq_true (by omega)
         clear c38
         (first | rw [c38b0] | (simp only [i64_w, i32_w]; rw [c38b0]) | skip)
         obtain ⟨y843, hy843⟩ : ∃ y_ : List Int, y_ = (([1000, 1001, (-1), 0] : List Int)) := ⟨_, rfl⟩
         replace H : ((spec_l1Cur_among.f s0_0 t840 t841 y843).bind fun bt846 => (if 0 < ((rd_L1 x6_2 0).length : Int) then (spec_l1Cur_planned.j3 k2 x5_3 (x6_2.set (0 : Int).toNat ((rd_L1 x6_2 0).set (0 : Int).toNat bt846.1)) t836 s0_0 bt846.2.1 bt846.2.2) else (none))) = some (r1, r2, r3, r4, r5) := by first | (rw [hy843]; with_reducible exact H) | (have H2_ := (Option.bind_some _ _).symm.trans H; rw [hy843]; with_reducible exact H2_) | (have H2_ := (Option.bind_some _ _).symm.trans H; with_reducible exact H2_) | with_reducible exact H | (rw [hy843]; exact H) | exact H
         have Ny843 := A_ hy843
         clear hy843
         obtain ⟨⟨t846, t847, t848⟩, A390, H⟩ := Option.bind_eq_some_iff.mp H
         try dsimp only at H
         have A39 := A_ A390; clear A390
         by_cases c40 : 0 < ((rd_L1 x6_2 0).length : Int)
         ·
          rw [if_pos c40] at H
          have c40b0 := decide_eq_true c40
          have c40b1 : decide (0 < (rd_L1 x6_2 0).length) = true := decide_eq_true (by omega)
          clear c40
          obtain ⟨y849, hy849⟩ : ∃ y_ : List Int, y_ = ((rd_L1 x6_2 0).set (0 : Int).toNat t846) := ⟨_, rfl⟩
          replace H : (spec_l1Cur_planned.j3 k2 x5_3 (x6_2.set (0 : Int).toNat y849) t836 s0_0 t847 t848) = some (r1, r2, r3, r4, r5) := by first | (rw [hy849]; with_reducible exact H) | (have H2_ := (Option.bind_some _ _).symm.trans H; rw [hy849]; with_reducible exact H2_) | (have H2_ := (Option.bind_some _ _).symm.trans H; with_reducible exact H2_) | with_reducible exact H | (rw [hy849]; exact H) | exact H
          have Ny849 := A_ hy849
          clear hy849
          obtain ⟨y851, hy851⟩ : ∃ y_ : List (List Int), y_ = (x6_2.set (0 : Int).toNat y849) := ⟨_, rfl⟩
          replace H : (spec_l1Cur_planned.j3 k2 x5_3 y851 t836 s0_0 t847 t848) = some (r1, r2, r3, r4, r5) := by first | (rw [hy851]; with_reducible exact H) | (have H2_ := (Option.bind_some _ _).symm.trans H; rw [hy851]; with_reducible exact H2_) | (have H2_ := (Option.bind_some _ _).symm.trans H; with_reducible exact H2_) | with_reducible exact H | (rw [hy851]; exact H) | exact H
          have Ny851 := A_ hy851
          clear hy851
          have H' := A_ H; clear H
          try go_wp2
          have n0_ := A_ (Kd.S_drew HO_6.out)
          have n1_ := A_ (Kd.R_drew HO835.out)
          have n2_ := A_ (IsS83.drew HI0.out)
          have n3_ := A_ (keep_drew HK.out)
          have n4_ := A_ (below_drew1 HB.out)
          clear HO_6
          clear HO835
          clear HI0
          clear HK
          clear HB
          have HO_6 := n0_
          have HO835 := n1_
          have HI0 := n2_
          have HK := n3_
          have HB := n4_
          clear n0_ n1_ n2_ n3_ n4_
          obtain ⟨Ao43, co43, eo43⟩ := Kd.S_slice HO_6.out
          (first | subst eo43 | (injection eo43 with f1_ f2_ f3_; have f4_ := f1_.symm; have f5_ := f3_.symm; clear f1_ f2_ f3_; subst f4_; subst f5_))
          have p842 : 0 ≤ (0 : Int) := (by omega)
          have q842 : 0 < (x6_2.length : Int) := od_
          obtain ⟨ad842, A842_0, c842_0, e842, hx842_0, hl842_0, hi842_0⟩ := at_L1 (Kd.S_reads' HO_6.out).2.2 0 p842 q842
          cases e842
          obtain ⟨ce842, hce842, hMe842, hcc842⟩ := Kd.S_get HO_6.out [] 0 p842 (by first | exact q842 | exact od_ | (have e_ := (Kd.S_reads' HO_6.out).1; omega))
          obtain ⟨ve842_0, rfl, ge842_0⟩ := hMe842
          have hv842_0 := hcc842 0 _ rfl
          rw [Nat.add_zero, show ((Kd.slice 3 (Kd.int .i64))).sz = 1 from rfl, Nat.mul_one] at hv842_0
          replace hv842_0 := Option.some.inj (hv842_0.symm.trans hx842_0)
          rw [hv842_0] at ge842_0
          have HL842_0 := A_ (show Kd.R (Kd.int .i64) 3 _ _ _ _ (rd_L1 x6_2 0) from ge842_0)
          clear hv842_0 ge842_0
          have HX842_0 := A_ hx842_0
          clear hcc842 hce842
          have qi842 : (0 < x6_2.length) = True := eq_true (by omega)
          (try rw [show ((0 : Int)).toNat = 0 from rfl] at hx842_0)
          (try rw [Addr.add_zero'] at hx842_0)
          have HR842_0 := A_ hi842_0
          have HC842_0 := A_ hl842_0
          clear hi842_0 hl842_0
          replace p842 := eq_true p842
          replace q842 := eq_true q842
          refine start_ (n := 8) (S := fun w' => w'.cell? ad842 = some (.slice A842_0 (rd_L1 x6_2 0).length c842_0)) (ds := [7]) #[false, false, false, false, false, false, false, false] kr_ rfl rfl (hx842_0) (fun hHeld => ?_); refine with_tabW spec_l1Cur_planned.tab19 spec_l1Cur_planned.bits19 (fun HT_ HW_ => ?_)
          generalize w36.drew = w42 at HO_6 HO835 HI0 HK HB HL842_0 HR842_0 HX842_0 hx842_0 hHeld ⊢
          refine pure_ (i := 0) (N := some 57) (v := ?_) (a' := ?_) #[true, false, false, false, false, false, false, false] rfl rfl (any_of HT_.out kr_) (fun _ _ _ h => h) (Or.inl ⟨by rfl, ?_⟩) ?_ ?_
          rotate_left
          ·
           intro w'
           go_simp
           with_reducible rfl
          rotate_left
          ·
           simp only [Act.put, List.setIfInBounds_toArray, List.set_cons_zero, List.set_cons_succ, i64_w, i32_w]
           rfl
          refine pure_ (i := 1) (N := some 58) (v := ?_) (a' := ?_) #[true, true, false, false, false, false, false, false] rfl rfl (any_of HT_.out kr_) (fun _ _ _ h => h) (Or.inl ⟨by rfl, ?_⟩) ?_ ?_
          rotate_left
          ·
           intro w'
           go_simp
           with_reducible rfl
          rotate_left
          ·
           simp only [Act.put, List.setIfInBounds_toArray, List.set_cons_zero, List.set_cons_succ, i64_w, i32_w]
           rfl
          refine pure_ (i := 3) (N := some 60) (v := ?_) (a' := ?_) #[true, true, false, true, false, false, false, false] rfl rfl (any_of HT_.out kr_) (fun _ _ _ h => h) (Or.inl ⟨by rfl, ?_⟩) ?_ ?_
          rotate_left
          ·
           intro w'
           go_simp
           with_reducible rfl
          rotate_left
          ·
           simp only [Act.put, List.setIfInBounds_toArray, List.set_cons_zero, List.set_cons_succ, i64_w, i32_w]
           rfl
          refine take_ (i := 2) (N := some 59) (v := ?_) (a' := ?_) #[true, true, true, true, false, false, false, false] rfl rfl (take_ofW HT_.out HW_.out kr_) (fun _ _ _ h => h) (Or.inl ⟨by rfl, ?_⟩) hHeld ?_ ?_
          rotate_left
          ·
           intro w' s0
           go_simp
           with_reducible rfl
          rotate_left
          ·
           simp only [Act.put, List.setIfInBounds_toArray, List.set_cons_zero, List.set_cons_succ, i64_w, i32_w]
           rfl
          refine one_ (i := 4) (N := some 61) #[true, true, true, true, true, false, false, false] rfl rfl (one_of HT_.out kr_) (by decide) (fun K hK => ?_)
          refine Kd.R_lit_step (Kd.int .i64) _ 3 ?hg (N := 61) ?hd (xs := ([1000, 1001, (-1), 0] : List Int)) (inner := [.int .i64 1000, .int .i64 1001, .int .i64 (-1), .int .i64 0]) (ok := fun _ => True) (okp := fun _ => True) ?hr ?hp (fun _ hk => hk) trivial (Below.refl _ _) (Nat.le_refl _) (by simp) ?_; (case hd => rfl); (case hg => rfl); (case hr => first | (go_simp; done) | (go_simp; rfl)); (case hp => exact (Reps.one (show Kd.M (Kd.int .i64) _ _ _ 1000 [.int .i64 1000] from rfl) (Reps.one (show Kd.M (Kd.int .i64) _ _ _ 1001 [.int .i64 1001] from rfl) (Reps.one (show Kd.M (Kd.int .i64) _ _ _ (-1) [.int .i64 (-1)] from rfl) (Reps.one (show Kd.M (Kd.int .i64) _ _ _ 0 [.int .i64 0] from rfl) (Reps.none _ _))))))
          intro v844 w44 ho45 hb hg_ hnew_
          have HS0_ := (hb.cell (World.block_lt_of_cell? _ _ (hHeld))).trans (hHeld)
          clear hg_ hnew_
          (first | rw [← Ny843.out] at ho45 | (simp only [Int.reduceToNat] at ho45; rw [← Ny843.out] at ho45))
          have n0_ := A_ (Kd.S_elder' (kS_ HO_6.out) (Kd.R_base ho45) hb)
          have n1_ := A_ (Kd.R_elder' (kR_ HO835.out) (Kd.R_base ho45) hb)
          have n2_ := A_ (Kd.R_elder' (kR_ HL842_0.out) (Kd.R_base ho45) hb)
          have n3_ := A_ (Kd.R_lower (Kd.R_new' (Kd.R_new' ho45 (Kd.R_lt (kR_ HO835.out))) (Kd.R_lt (kR_ HL842_0.out))) (keep_size (w := w) (g := g) (row := none) hk_))
          have n4_ := A_ (IsS83.below (kI_83 HI0.out) hb)
          have n5_ := A_ (Kd.C_below (by repeat (first | (with_reducible exact HR842_0.out) | (with_reducible refine Kd.C_alloc ?_ _) | (with_reducible refine Kd.C_drewN ?_ _) | (with_reducible refine Kd.C_drew ?_) | exact HR842_0.out)) hb)
          have n6_ := A_ (pw_cell_below hb HX842_0.out)
          have n7_ := A_ (KeepBut.trans hk_ (KeepBut.of_below hb g none) (.inl rfl))
          have n8_ := A_ (below_step (bs_ (IsS83.ge HI0.out)) hb)
          clear HO_6
          clear HO835
          clear HL842_0
          clear HI0
          clear HR842_0
          clear HX842_0
          clear HK
          clear HB
          have HO_6 := n0_
          have HO835 := n1_
          have HL842_0 := n2_
          have HO845 := n3_
          have HI0 := n4_
          have HR842_0 := n5_
          have HX842_0 := n6_
          have HK := n7_
          have HB := n8_
          clear n0_ n1_ n2_ n3_ n4_ n5_ n6_ n7_ n8_
          clear hb ho45
          obtain ⟨Ao46, co46, eo46⟩ := Kd.R_slice HO845.out
          (first | subst eo46 | (injection eo46 with f1_ f2_ f3_; have f4_ := f1_.symm; have f5_ := f3_.symm; clear f1_ f2_ f3_; subst f4_; subst f5_))
          refine hK.out _ _ (HS0_) (fun hHeld => ?_)
          clear hK K
          refine norm_ (a' := ?_) ?_ ?_
          rotate_left
          ·
           show Act.put _ (some 61) _ = _
           simp only [Act.put, List.setIfInBounds_toArray, List.set_cons_zero, List.set_cons_succ, i64_w, i32_w]
           rfl
          refine one_ (i := 5) (N := some 62) #[true, true, true, true, true, true, false, false] rfl rfl (one_of HT_.out kr_) (by decide) (fun K hK => ?_)
          refine goes_ Try.func76 kr_ rfl #[.pointer (some ⟨g, 0, none⟩), .slice Ao46 y843.length co46] (by rfl) rfl rfl am_ ?_
          with_reducible refine (spec_l1Cur_among.calls g s0_0 t840 t841 _ _ y843 t846 t847 t848 w0 _ ?side1 ?side2 ?side3 ?side4 ?side5 A39.out).mono ?_
          (case side1 => exact kI_83 HI0.out)
          (case side2 => exact bs_ (IsS83.ge HI0.out))
          (case side3 => exact kC_ ((Kd.R_reads' HO845.out).2.2))
          (case side4 => exact (Kd.R_reads' HO845.out).2.1)
          (case side5 => exact far_slice (IsS83.own_ne HI0.out HO845.out (by decide)))
          rintro e w47 ⟨rfl, hi, hb, hk⟩
          have HS0_ := keep_cell hk (hHeld) (by first | (rw [add_block]; exact Kd.own_blk (IsS83.own_neS HI0.out HO_6.out (by decide))) | (show (Addr.add _ _).block ≠ _; rw [add_block]; exact Kd.own_blk (IsS83.own_neS HI0.out HO_6.out (by decide))) | exact Kd.own_blk (IsS83.own_neS HI0.out HO_6.out (by decide)))
          refine ⟨_, rfl, ?_⟩
          have n0_ := A_ (Kd.S_mono (Kd.S_keep (IsS83.apartS (show IsS83 w0 _ g s0_0 t840 t841 from kI_83 HI0.out) (kS_ HO_6.out) (by decide)) hk (fun _ h => h.2)) (fun _ h => h.1))
          have n1_ := A_ (Kd.R_mono (Kd.R_keep (IsS83.apart (show IsS83 w0 _ g s0_0 t840 t841 from kI_83 HI0.out) (kR_ HO835.out) (by decide)) hk (fun _ h => h.2)) (fun _ h => h.1))
          have n2_ := A_ (Kd.R_mono (Kd.R_keep (IsS83.apart (show IsS83 w0 _ g s0_0 t840 t841 from kI_83 HI0.out) (kR_ HL842_0.out) (by decide)) hk (fun _ h => h.2)) (fun _ h => h.1))
          have n3_ := A_ (keep_cell hk HX842_0.out (by first | (rw [add_block]; exact Kd.own_blk (IsS83.own_neS HI0.out HO_6.out (by decide))) | (show (Addr.add _ _).block ≠ _; rw [add_block]; exact Kd.own_blk (IsS83.own_neS HI0.out HO_6.out (by decide))) | exact Kd.own_blk (IsS83.own_neS HI0.out HO_6.out (by decide)) | (dsimp only; exact Kd.own_blk (IsS83.own_neS HI0.out HO_6.out (by decide)))))
          have n4_ := A_ (Kd.R_mono (Kd.R_keep (IsS83.apart (show IsS83 w0 _ g s0_0 t840 t841 from kI_83 HI0.out) (kR_ HO845.out) (by decide)) hk (fun _ h => h.2)) (fun _ h => h.1))
          have n5_ := A_ (KeepBut.trans hk_ hk (.inl rfl))
          have n6_ := A_ (hb)
          have n7_ := A_ (hi)
          clear HO_6
          clear HO835
          clear HL842_0
          clear HX842_0
          clear HO845
          clear HK
          clear HB
          clear HI0
          have HO_6 := n0_
          have HO835 := n1_
          have HL842_0 := n2_
          have HX842_0 := n3_
          have HO845 := n4_
          have HK := n5_
          have HB := n6_
          have HI0 := n7_
          clear n0_ n1_ n2_ n3_ n4_ n5_ n6_ n7_
          (try clear hb)
          (try clear hb2)
          (try clear hk)
          (try clear hi)
          have p41 : 0 ≤ (0 : Int) := (by omega)
          have q41 : (0 : Int) < (((rd_L1 x6_2 0).length : Int) : Int) := od_
          have qi41 : (0 < (rd_L1 x6_2 0).length) = True := eq_true (by omega)
          obtain ⟨go41, co41, eo41, gb41, gl41, cl41, HG41⟩ := Kd.R_form HL842_0.out (by omega)
          (first | cases eo41 | (injection eo41 with ea_ en_ ec_; (first | subst ea_ | (injection ea_ with ea_; subst ea_)); subst ec_; clear en_))
          have GB41 := A_ gb41
          have GG41 := A_ HG41
          clear gb41 gl41 HG41
          obtain ⟨hx41_0, hf41_0⟩ := Kd.R_celln 0 HL842_0.out (0 : Int) p41 q41
          (try rw [show ((0 : Int)).toNat = 0 from rfl] at hx41_0)
          (try simp only [Nat.reduceMul, Nat.zero_mul, Nat.zero_add, Nat.add_zero, Nat.reduceAdd] at hx41_0)
          (try rw [show ((0 : Int)).toNat = 0 from rfl] at hf41_0)
          (try simp only [Nat.reduceMul, Nat.zero_mul, Nat.zero_add, Nat.add_zero, Nat.reduceAdd] at hf41_0)
          replace p41 := eq_true p41
          replace q41 := eq_true q41
          have n_ := A_ (Kd.S_mono (ok' := (fun k_ => some k_ ≠ (.slice Ao34 y833.length co34 : Value).ownBlock ∧ some k_ ≠ (.slice Ao46 y843.length co46 : Value).ownBlock)) HO_6.out (fun k_ hk => ⟨hk.1.2, hk.2⟩))
          clear HO_6
          have HO_6 := n_
          clear n_
          have hq48 : (0 : Int) < (x6_2.length : Int) := (by have h_ : (0 : Int) < ((x6_2.length : Int) : Int) := od_; first | exact h_ | (have e_ := (Kd.S_reads' HO_6.out).1; omega) | simpa only [List.length_set, List.length_set] using h_)
          obtain ⟨oki48, ce48, hcl48, hM48, hcc48, hok48, hbk48⟩ := Kd.S_borrow HO_6.out [] (0 : Int) (by omega) hq48
          obtain ⟨ve48_0, rfl, ge48_0⟩ := hM48
          have hv48 := hcc48 0 _ rfl
          rw [Nat.add_zero, show ((Kd.slice 3 (Kd.int .i64))).sz = 1 from rfl, Nat.mul_one] at hv48
          replace hv48 := Option.some.inj (hv48.symm.trans HX842_0.out)
          subst hv48
          (try clear hcc48); (try clear hcl48)
          replace ge48_0 := (show Kd.R (Kd.int .i64) 3 _ _ _ _ (rd_L1 x6_2 0) from ge48_0)
          have HP48 := Kd.R_putg ge48_0 (0 : Int) t846
          have HN0_go41 := A_ (show g ≠ go41 from by have h_ := IsS83.own_ne HI0.out HL842_0.out (by decide); intro e_; exact h_ (by rw [e_]; rfl))
          rw [← Ny849.out] at HP48
          have HS48 := hbk48 HP48.2 (fun k_ e_ => by injection e_ with e_; subst e_; exact ge48_0.1 _ rfl) (x' := y849) (Kd.M_row HP48.1)
          rw [← Ny851.out] at HS48
          have HQ48 := A_ HS48
          clear HP48 HS48 hbk48 hok48
          refine hK.out _ _ (HS0_) (fun hHeld => ?_)
          clear hK K
          refine norm_ (a' := ?_) ?_ ?_
          rotate_left
          ·
           show Act.put _ (some 62) _ = _
           simp only [Act.put, List.setIfInBounds_toArray, List.set_cons_zero, List.set_cons_succ, i64_w, i32_w]
           rfl
          refine pure_ (i := 6) (N := some 63) (v := ?_) (a' := ?_) #[true, true, true, true, true, true, true, false] rfl rfl (any_of HT_.out kr_) (fun _ _ _ h => h) (Or.inl ⟨by rfl, ?_⟩) ?_ ?_
          rotate_left
          ·
           intro w'
           go_simp
           with_reducible rfl
          rotate_left
          ·
           simp only [Act.put, List.setIfInBounds_toArray, List.set_cons_zero, List.set_cons_succ, i64_w, i32_w]
           rfl
          refine last_ (i := 7) (N := none) #[true, true, true, true, true, true, true, true] rfl rfl (one_of HT_.out kr_) (by decide) (fun K hK => ?_)
          refine skip_ (w1 := ?_) (by rfl) rfl ?_ ?_
          rotate_left
          ·
           go_simp
           rfl
          refine hK.out _ _ ?_
          clear hK K
          refine done_ (done_of HT_.out kr_) ?_
          try go_wp2
          go_meet
          case rel => exact ⟨_, (y851), (t847), (t848), H', ⟨by have := HJ3.out; have := HK2.out; first | omega | exact Nat.le_refl _⟩, ⟨by (with_reducible repeat (first | apply Kd.S_alloc | apply Kd.S_drewN | apply Kd.S_drew)); exact Kd.S_mono HQ48.out (fun _ hk => trivial)⟩, ⟨by repeat (first | (with_reducible first | exact HI0.out | apply IsS83.alloc | apply IsS83.drewN | apply IsS83.drew | apply IsS83.set_1 | apply IsS83.set_2 | refine IsS83.far ?_ HN0_go41.out _) | exact HI0.out)⟩, ⟨by repeat (first | (with_reducible first | exact HK.out | apply KeepBut.set_ | apply keep_drewN | apply keep_drew | apply keep_alloc | refine keep_far ?_ GB41.out _) | exact HK.out)⟩, ⟨by repeat (first | (with_reducible first | exact HB.out | apply below_alloc | apply pw_below_drewN | apply below_drew1 | refine below_set ?_ (Nat.le_trans HL.out GB41.out) | refine below_set ?_ (IsS83.ge HI0.out)) | exact HB.out)⟩⟩
         ·
          rw [if_neg c40] at H; cases H
        ·
         rw [if_neg c38] at H; cases H
       ·
        replace c37 := Bool.eq_false_iff.mpr c37
        subst c37
        rw [if_neg (show ¬ (false = true) by decide)] at H
        have H' := A_ H; clear H
        go_wp2
        go_meet
        case rel => exact ⟨_, (x6_2), (t840), (t841), H', ⟨by have := HJ3.out; have := HK2.out; first | omega | exact Nat.le_refl _⟩, ⟨by (with_reducible repeat (first | apply Kd.S_alloc | apply Kd.S_drewN | apply Kd.S_drew)); exact Kd.S_mono HO_6.out (fun _ hk => trivial)⟩, ⟨kI_83 HI0.out⟩, ⟨hk_⟩, ⟨bs_ (IsS83.ge HI0.out)⟩⟩
      case rest =>
       clear HC31
       (try clear c1); (try clear c2); (try clear p2); (try clear c3); (try clear c4); (try clear p4); (try clear q4); (try clear hx4); (try clear qi4); (try clear hf4); (try clear p6); (try clear c7); (try clear c8); (try clear c8b0); (try clear p8); (try clear q8); (try clear hx8); (try clear qi8); (try clear c9); (try clear c9b0); (try clear c11); (try clear c11b0); (try clear c11b1); (try clear c12); (try clear c12b0); (try clear c12b1); (try clear c13); (try clear c17); (try clear c18); (try clear c22); (try clear c26); (try clear c37); (try clear c38); (try clear c38b0); (try clear c38b1); (try clear c40); (try clear c40b0); (try clear c40b1); (try clear p41); (try clear q41); (try clear hx41); (try clear qi41); (try clear hf41); (try clear c48); (try clear q48); (try clear hx41_0); (try clear hx842_0); (try clear p2); (try clear p41); (try clear p6); (try clear p842); (try clear q41); (try clear q842)
       obtain ⟨kq, x6_30, x1001_30, x1002_30, HA, HJ30, HO_6, HI0, HK, HB⟩ := hcut
       cases kq with
       | zero => exact absurd HA.out (by simp [spec_l1Cur_planned.j3])
       | succ kj30 =>
        have H := HA.out
        clear HA
        simp only [spec_l1Cur_planned.j3] at H
        obtain ⟨⟨t852, t853⟩, A500, H⟩ := Option.bind_eq_some_iff.mp H
        try dsimp only at H
        have A50 := A_ A500; clear A500
        have HC51 := A_ H
        clear H
        obtain ⟨Ao52, co52, eo52⟩ := Kd.S_slice HO_6.out
        subst eo52
        go_upto_if 71 with (first | ((with_reducible refine gate_callee (f := 91) rfl ?_); refine goesL_ (some 67) rfl rfl Try.func91 kr_ rfl #[.slice Ao52 x6_30.length co52, .int .i64 t836] rfl am_ ?_; (with_reducible refine (spec_SteadyStarts.calls kj30 _ _ x6_30 t836 t852 t853 _ ?side1 ?side2 A50.out).mono ?_); (case side1 => exact kC_ ((Kd.S_reads' HO_6.out).2.2)); (case side2 => exact (Kd.S_reads' HO_6.out).2.1); rintro e w53 ⟨v854, rfl, ho0, hb⟩; refine ⟨_, rfl, ?_⟩; have n0_ := A_ (Kd.S_elder' (kS_ HO_6.out) (Kd.R_base ho0) hb); have n1_ := A_ (Kd.R_lower ho0 (keep_size (w := w) (g := g) (row := none) hk_)); have n2_ := A_ (IsS83.below (kI_83 HI0.out) hb); have n3_ := A_ (KeepBut.trans hk_ (KeepBut.of_below hb g none) (.inl rfl)); have n4_ := A_ (below_step (bs_ (IsS83.ge HI0.out)) hb); clear HO_6; clear HI0; clear HK; clear HB; have HO_6 := n0_; have HO855 := n1_; have HI0 := n2_; have HK := n3_; have HB := n4_; clear n0_ n1_ n2_ n3_ n4_; (try clear hb); (try clear hb2); (try clear hk); (try clear hi); (try clear ho0)))
        (try simp only [Act.put, List.setIfInBounds_toArray, List.set_cons_zero, List.set_cons_succ])
        go_cut [11, 12, 13] (fun v11 v12 v13 wc => ∃ (kq : Nat) (x11_50 : Int) (x12_50 : List Int) (x13_50 : Bool), v11 = .int .i64 x11_50 ∧ v13 = .bool x13_50 ∧ Aside0 (spec_l1Cur_planned.j4 kq x5_3 x6_30 x11_50 x12_50 x13_50 s0_0 x1001_30 x1002_30 = some (r1, r2, r3, r4, r5)) ∧ Aside0 (kq ≤ kj30) ∧ Aside0 (Kd.S (Kd.slice 3 (Kd.int .i64)) 23 wc w.heap.size (fun k_ => some k_ ≠ (v12 : Value).ownBlock) (.slice Ao52 x6_30.length co52) x6_30) ∧ Aside0 (Kd.Q (Kd.int .i64) 3 wc w.heap.size (fun _ => True) v12 x12_50) ∧ Aside0 (IsS83 w0 wc g s0_0 x1001_30 x1002_30) ∧ Aside0 (KeepBut w wc g none) ∧ Aside0 (Below w0.heap.size w0 wc))
        case first =>
         have H := HC51.out
         clear HC51
         by_cases c54 : t853 = true
         ·
          subst c54
          rw [if_pos rfl] at H
          have H' := A_ H; clear H
          go_wp2
          go_meet
          case rel => exact ⟨_, (t836), (t852), (true), es_, es_, H', ⟨by have := HJ3.out; have := HK2.out; have := HJ30.out; first | omega | exact Nat.le_refl _⟩, ⟨by (with_reducible repeat (first | apply Kd.S_alloc | apply Kd.S_drewN | apply Kd.S_drew)); exact Kd.S_mono HO_6.out (fun _ hk => hk.2)⟩, ⟨Kd.Q_of_R (kR_ HO855.out)⟩, ⟨kI_83 HI0.out⟩, ⟨hk_⟩, ⟨bs_ (IsS83.ge HI0.out)⟩⟩
         ·
          replace c54 := Bool.eq_false_iff.mpr c54
          subst c54
          rw [if_neg (show ¬ (false = true) by decide)] at H
          obtain ⟨⟨t856, t857⟩, A550, H⟩ := Option.bind_eq_some_iff.mp H
          try dsimp only at H
          have A55 := A_ A550; clear A550
          have H' := A_ H; clear H
          go_wp2_with (first | ((with_reducible refine gate_callee (f := 91) rfl ?_); refine goesL_ (some 75) rfl rfl Try.func91 kr_ rfl #[.slice Ao52 x6_30.length co52, .int .i64 1000] rfl am_ ?_; (with_reducible refine (spec_SteadyStarts.calls kj30 _ _ x6_30 1000 t856 t857 _ ?side1 ?side2 A55.out).mono ?_); (case side1 => exact kC_ ((Kd.S_reads' HO_6.out).2.2)); (case side2 => exact (Kd.S_reads' HO_6.out).2.1); rintro e w56 ⟨v858, rfl, ho0, hb⟩; refine ⟨_, rfl, ?_⟩; have n0_ := A_ (Kd.S_elder' (kS_ HO_6.out) (Kd.R_base ho0) hb); have n1_ := A_ (Kd.R_elder' (kR_ HO855.out) (Kd.R_base ho0) hb); have n2_ := A_ (Kd.R_lower (Kd.R_new' ho0 (Kd.R_lt (kR_ HO855.out))) (keep_size (w := w) (g := g) (row := none) hk_)); have n3_ := A_ (IsS83.below (kI_83 HI0.out) hb); have n4_ := A_ (KeepBut.trans hk_ (KeepBut.of_below hb g none) (.inl rfl)); have n5_ := A_ (below_step (bs_ (IsS83.ge HI0.out)) hb); clear HO_6; clear HO855; clear HI0; clear HK; clear HB; have HO_6 := n0_; have HO855 := n1_; have HO859 := n2_; have HI0 := n3_; have HK := n4_; have HB := n5_; clear n0_ n1_ n2_ n3_ n4_ n5_; (try clear hb); (try clear hb2); (try clear hk); (try clear hi); (try clear ho0)))
          go_meet
          case rel => exact ⟨_, (1000), (t856), (t857), es_, es_, H', ⟨by have := HJ3.out; have := HK2.out; have := HJ30.out; first | omega | exact Nat.le_refl _⟩, ⟨by (with_reducible repeat (first | apply Kd.S_alloc | apply Kd.S_drewN | apply Kd.S_drew)); exact Kd.S_mono HO_6.out (fun _ hk => hk.2)⟩, ⟨Kd.Q_of_R (by (with_reducible repeat (first | apply Kd.R_alloc | apply Kd.R_drewN | apply Kd.R_drew)); exact Kd.R_mono HO859.out (fun _ hk => trivial))⟩, ⟨kI_83 HI0.out⟩, ⟨hk_⟩, ⟨bs_ (IsS83.ge HI0.out)⟩⟩
        case rest =>
         clear HC51
         (try clear c1); (try clear c2); (try clear p2); (try clear c3); (try clear c4); (try clear p4); (try clear q4); (try clear hx4); (try clear qi4); (try clear hf4); (try clear c5); (try clear p6); (try clear c7); (try clear c8); (try clear c8b0); (try clear p8); (try clear q8); (try clear hx8); (try clear qi8); (try clear c9); (try clear c9b0); (try clear c11); (try clear c11b0); (try clear c11b1); (try clear c12); (try clear c12b0); (try clear c12b1); (try clear c13); (try clear c17); (try clear c18); (try clear c22); (try clear c26); (try clear c37); (try clear c38); (try clear c38b0); (try clear c38b1); (try clear c40); (try clear c40b0); (try clear c40b1); (try clear p41); (try clear q41); (try clear hx41); (try clear qi41); (try clear hf41); (try clear c48); (try clear q48); (try clear c54); (try clear hx41_0); (try clear hx842_0); (try clear p2); (try clear p4); (try clear p41); (try clear p6); (try clear p8); (try clear p842); (try clear q4); (try clear q41); (try clear q48); (try clear q8); (try clear q842)
         obtain ⟨kq, x11_50, x12_50, x13_50, rfl, rfl, HA, HJ50, HO_6, HO_12, HI0, HK, HB⟩ := hcut
         cases kq with
         | zero => exact absurd HA.out (by simp [spec_l1Cur_planned.j4])
         | succ kj50 =>
          have H := HA.out
          clear HA
          simp only [spec_l1Cur_planned.j4] at H
          by_cases c57 : x13_50 = true
          ·
           subst c57
           rw [if_pos rfl] at H
           obtain ⟨⟨t865, t866, t867⟩, A580, H⟩ := Option.bind_eq_some_iff.mp H
           try dsimp only at H
           have A58 := A_ A580; clear A580
           have HC59 := A_ H
           clear H
           go_upto_if 86 with (first | ((with_reducible refine gate_callee (f := 78) rfl ?_); refine goesL_ (some 86) rfl rfl Try.func78 kr_ rfl #[.pointer (some ⟨g, 0, none⟩), .int .i64 3] rfl am_ ?_; (with_reducible refine (spec_l1Cur_one.calls g s0_0 x1001_30 x1002_30 3 t865 t866 t867 w0 _ ?side1 ?side2 A58.out).mono ?_); (case side1 => exact kI_83 HI0.out); (case side2 => exact bs_ (IsS83.ge HI0.out)); rintro e w60 ⟨rfl, hi, hb, hk⟩; refine ⟨_, rfl, ?_⟩; have n0_ := A_ (Kd.S_mono (Kd.S_keep (IsS83.apartS (show IsS83 w0 _ g s0_0 x1001_30 x1002_30 from kI_83 HI0.out) (kS_ HO_6.out) (by decide)) hk (fun _ h => h.2)) (fun _ h => h.1)); have n1_ := A_ (Kd.Q_mono (Kd.Q_keep (IsS83.apartQ (show IsS83 w0 _ g s0_0 x1001_30 x1002_30 from kI_83 HI0.out) (kQ_ HO_12.out) (by decide)) hk (fun _ h => h.2)) (fun _ h => h.1)); have n2_ := A_ (KeepBut.trans hk_ hk (.inl rfl)); have n3_ := A_ (hb); have n4_ := A_ (hi); clear HO_6; clear HO_12; clear HK; clear HB; clear HI0; have HO_6 := n0_; have HO_12 := n1_; have HK := n2_; have HB := n3_; have HI0 := n4_; clear n0_ n1_ n2_ n3_ n4_; (try clear hb); (try clear hb2); (try clear hk); (try clear hi)))
           (try simp only [Act.put, List.setIfInBounds_toArray, List.set_cons_zero, List.set_cons_succ])
           go_cut [] (fun wc => ∃ (kq : Nat) (x12_58 : List Int) (x1001_58 : Int) (x1002_58 : Int), Aside0 (spec_l1Cur_planned.j6 kq x6_30 x11_50 x12_58 s0_0 x1001_58 x1002_58 = some (r1, r2, r3, r4, r5)) ∧ Aside0 (kq ≤ kj50) ∧ Aside0 (Kd.S (Kd.slice 3 (Kd.int .i64)) 23 wc w.heap.size (fun k_ => some k_ ≠ (u12 : Value).ownBlock) (.slice Ao52 x6_30.length co52) x6_30) ∧ Aside0 (Kd.Q (Kd.int .i64) 3 wc w.heap.size (fun _ => True) u12 x12_58) ∧ Aside0 (IsS83 w0 wc g s0_0 x1001_58 x1002_58) ∧ Aside0 (KeepBut w wc g none) ∧ Aside0 (Below w0.heap.size w0 wc))
           case first =>
            have H := HC59.out
            clear HC59
            by_cases c61 : t865 = true
            ·
             subst c61
             rw [if_pos rfl] at H
             obtain ⟨⟨t868, t869, t870⟩, A620, H⟩ := Option.bind_eq_some_iff.mp H
             try dsimp only at H
             have A62 := A_ A620; clear A620
             have H' := A_ H; clear H
             go_wp2_with (first | ((with_reducible refine gate_callee (f := 90) rfl ?_); refine goesL_ (some 88) rfl rfl Try.func90 kr_ rfl #[.pointer (some ⟨g, 0, none⟩), .int .i64 4] rfl am_ ?_; (with_reducible refine (spec_l1Cur_pick.calls g s0_0 t866 t867 4 t868 t869 t870 w0 _ ?side1 ?side2 A62.out).mono ?_); (case side1 => exact kI_83 HI0.out); (case side2 => exact bs_ (IsS83.ge HI0.out)); rintro e w63 ⟨rfl, hi, hb, hk⟩; refine ⟨_, rfl, ?_⟩; have n0_ := A_ (Kd.S_mono (Kd.S_keep (IsS83.apartS (show IsS83 w0 _ g s0_0 t866 t867 from kI_83 HI0.out) (kS_ HO_6.out) (by decide)) hk (fun _ h => h.2)) (fun _ h => h.1)); have n1_ := A_ (Kd.Q_mono (Kd.Q_keep (IsS83.apartQ (show IsS83 w0 _ g s0_0 t866 t867 from kI_83 HI0.out) (kQ_ HO_12.out) (by decide)) hk (fun _ h => h.2)) (fun _ h => h.1)); have n2_ := A_ (KeepBut.trans hk_ hk (.inl rfl)); have n3_ := A_ (hb); have n4_ := A_ (hi); clear HO_6; clear HO_12; clear HK; clear HB; clear HI0; have HO_6 := n0_; have HO_12 := n1_; have HK := n2_; have HB := n3_; have HI0 := n4_; clear n0_ n1_ n2_ n3_ n4_; (try clear hb); (try clear hb2); (try clear hk); (try clear hi); obtain ⟨Ao64, co64, eo64, _⟩ := Kd.Q_slice HO_12.out; subst eo64))
             go_loopg [91] kj50 (fun kq v91 w' => ∃ (x12_5 : List Int) (x91_5 : Int), v91 = .int .i64 x91_5 ∧ Aside0 (spec_l1Cur_planned.l2 kq x5_3 x6_30 x11_50 x12_5 t868 (x12_50.length : Int) x91_5 s0_0 t869 t870 = some (r1, r2, r3, r4, r5)) ∧ Aside0 (kq ≤ kj50) ∧ Aside0 (Kd.S (Kd.slice 3 (Kd.int .i64)) 23 w' w.heap.size (fun k_ => some k_ ≠ ((.slice Ao64 x12_50.length co64) : Value).ownBlock) (.slice Ao52 x6_30.length co52) x6_30) ∧ Aside0 (Kd.Q (Kd.int .i64) 3 w' w.heap.size (fun _ => True) (.slice Ao64 x12_50.length co64) x12_5) ∧ Aside0 (IsS83 w0 w' g s0_0 t869 t870) ∧ Aside0 (KeepBut w w' g none) ∧ Aside0 (Below w0.heap.size w0 w'))
             case atStart => exact ⟨(x12_50), (0), es_, H', ⟨Nat.le_refl _⟩, ⟨kS_ HO_6.out⟩, ⟨kQ_ HO_12.out⟩, ⟨kI_83 HI0.out⟩, ⟨hk_⟩, ⟨bs_ (IsS83.ge HI0.out)⟩⟩
             case round =>
              clear H'
              (try clear c1); (try clear c2); (try clear p2); (try clear c3); (try clear c4); (try clear p4); (try clear q4); (try clear hx4); (try clear qi4); (try clear hf4); (try clear c5); (try clear c6); (try clear p6); (try clear c7); (try clear c8); (try clear c8b0); (try clear p8); (try clear q8); (try clear hx8); (try clear qi8); (try clear c9); (try clear c9b0); (try clear c11); (try clear c11b0); (try clear c11b1); (try clear c12); (try clear c12b0); (try clear c12b1); (try clear c13); (try clear c17); (try clear c18); (try clear c22); (try clear c26); (try clear c37); (try clear c38); (try clear c38b0); (try clear c38b1); (try clear c40); (try clear c40b0); (try clear c40b1); (try clear p41); (try clear q41); (try clear hx41); (try clear qi41); (try clear hf41); (try clear c48); (try clear q48); (try clear c54); (try clear c57); (try clear c61); (try clear p64); (try clear hx41_0); (try clear hx842_0); (try clear p2); (try clear p4); (try clear p41); (try clear p6); (try clear p8); (try clear p842); (try clear q4); (try clear q41); (try clear q48); (try clear q8); (try clear q842)
              obtain ⟨x12_5, x91_5, rfl, HA, HK5, HO_6, HO_12, HI0, HK, HB⟩ := hrel
              have hl12_5 := (Kd.Q_reads' HO_12.out).1
              rw [hl12_5] at HO_12
              (try simp only [hl12_5])
              (try simp only [hl12_5] at HO_6)
              cases gk with
              | zero => exact absurd HA.out (by simp [spec_l1Cur_planned.l2])
              | succ k5 =>
               have H := HA.out
               clear HA
               simp only [spec_l1Cur_planned.l2] at H
               by_cases c65 : x91_5 < (x12_50.length : Int)
               ·
                rw [if_pos c65] at H
                have c65b0 := decide_eq_true c65
                clear c65
                (first | rw [c65b0] | (simp only [i64_w, i32_w]; rw [c65b0]) | skip)
                by_cases c66 : 0 ≤ x91_5
                ·
                 rw [if_pos c66] at H
                 have c66b0 := decide_eq_true c66
                 clear c66
                 by_cases c67 : x91_5 < (x12_5.length : Int)
                 ·
                  rw [if_pos c67] at H
                  have c67b0 := decide_eq_true c67
                  clear c67
                  obtain ⟨y872, hy872⟩ : ∃ y_ : List Int, y_ = (x12_5.set (x91_5 : Int).toNat (wrap64 ((rd x12_5 x91_5) + t868))) := ⟨_, rfl⟩
                  replace H : (spec_l1Cur_planned.l2 k5 x5_3 x6_30 x11_50 y872 t868 (x12_50.length : Int) (wrap64 (x91_5 + 1)) s0_0 t869 t870) = some (r1, r2, r3, r4, r5) := by first | (rw [hy872]; with_reducible exact H) | (have H2_ := (Option.bind_some _ _).symm.trans H; rw [hy872]; with_reducible exact H2_) | (have H2_ := (Option.bind_some _ _).symm.trans H; with_reducible exact H2_) | with_reducible exact H | (rw [hy872]; exact H) | exact H
                  have Ny872 := A_ hy872
                  clear hy872
                  have H' := A_ H; clear H
                  have p871 : 0 ≤ (x91_5 : Int) := od_
                  have q871 : x91_5 < (x12_5.length : Int) := od_
                  obtain ⟨ad871, e871, hx871_0⟩ := Kd.at_int (Kd.Q_reads' HO_12.out).2.2 x91_5 p871 q871
                  cases e871
                  replace p871 := eq_true p871
                  replace q871 := eq_true q871
                  have p68 : 0 ≤ (x91_5 : Int) := od_
                  have q68 : (x91_5 : Int) < ((x12_5.length : Int) : Int) := od_
                  obtain ⟨go68, oo68, co68, eo68, gb68, gl68, cl68, HG68⟩ := Kd.Q_form HO_12.out (by omega)
                  (first | cases eo68 | (injection eo68 with ea_ en_ ec_; (first | subst ea_ | (injection ea_ with ea_; subst ea_)); subst ec_; clear en_))
                  have GB68 := A_ gb68
                  have GG68 := A_ HG68
                  clear gb68 gl68 HG68
                  (first | simp only [add_at] at hx871_0 | skip)
                  obtain ⟨hx68_0, hf68_0⟩ := Kd.Q_cell 0 HO_12.out (x91_5 : Int) p68 q68
                  replace p68 := eq_true p68
                  replace q68 := eq_true q68
                  have HP69 := Kd.Q_putg HO_12.out (x91_5 : Int) (od_) (by have h_ : (x91_5 : Int) < ((x12_5.length : Int) : Int) := od_; first | exact h_ | (have e_ := (Kd.Q_reads' HO_12.out).1; omega) | simpa using h_) (wrap64 ((rd x12_5 x91_5) + t868))
                  go_wp2_with (first | ((with_reducible refine gate_store (t := 3) (p := 100) rfl ?_); refine store_event (t := 3) (p := 100) (v := ?vo_w70) (w1 := (wr.setCell ⟨go68, oo68 + (x91_5 : Int).toNat, none⟩ (.int .i64 (wrap64 ((rd x12_5 x91_5) + t868))))) ?hg ?ho ?hn ?hr ?_; (case ho => rfl); (case hg => rfl); (case hn => rfl); (case hr => first | (go_simp; done) | (go_simp; rfl)); intro w70 hw; have hg : wr.grownBy w70 (some go68) := (by rw [hw]; exact HP69.2); have hp_ : Kd.Q (Kd.int .i64) 3 w70 w.heap.size (fun _ => True) (.slice (some ⟨go68, oo68, none⟩) x12_5.length co64) y872 := (by rw [hw, Ny872.out]; exact HP69.1); clear HP69; have n0_ := A_ (Kd.S_after (v := (.slice (some ⟨go68, oo68, none⟩) x12_5.length co64)) (v1 := (.slice (some ⟨go68, oo68, none⟩) x12_5.length co64)) (ok := (fun _ => True)) (by (with_reducible repeat (first | apply Kd.S_alloc | apply Kd.S_drewN | apply Kd.S_drew)); exact Kd.S_mono HO_6.out (fun _ hk => ⟨trivial, hk⟩)) hg (.inl rfl)); have n1_ := A_ (hp_); have n2_ := A_ (IsS83.grown (kI_83 HI0.out) hg (IsS83.own_neQ HI0.out HO_12.out (by decide))); have n3_ := A_ ((by rw [hw]; exact below_set (HB.out) (Nat.le_trans HL.out GB68.out) : Below w0.heap.size w0 w70)); have n4_ := A_ (KeepBut.trans hk_ (KeepBut.of_grown hg g) (Kd.Q_base2 HO_12.out)); clear HO_6; clear HO_12; clear HI0; clear HB; clear HK; have HO_6 := n0_; have HO_12 := n1_; have HI0 := n2_; have HB := n3_; have HK := n4_; clear n0_ n1_ n2_ n3_ n4_; clear hg hw hp_))
                  (try simp only [← hl12_5])
                  go_roundg k5
                  case measure => have := HJ3.out; have := HK2.out; have := HJ30.out; have := HJ50.out; have := HK5.out; omega
                  case rel => exact ⟨(y872), (wrap64 (x91_5 + 1)), es_, H', ⟨by have := HJ3.out; have := HK2.out; have := HJ30.out; have := HJ50.out; have := HK5.out; omega⟩, ⟨by (try simp only [hl12_5]); (with_reducible repeat (first | apply Kd.S_alloc | apply Kd.S_drewN | apply Kd.S_drew)); exact Kd.S_mono HO_6.out (fun _ hk => hk.2)⟩, ⟨by (try simp only [hl12_5]); (with_reducible repeat (first | apply Kd.Q_alloc | apply Kd.Q_drewN | apply Kd.Q_drew)); exact HO_12.out⟩, ⟨kI_83 HI0.out⟩, ⟨hk_⟩, ⟨bs_ (IsS83.ge HI0.out)⟩⟩
                 ·
                  rw [if_neg c67] at H; cases H
                ·
                 rw [if_neg c66] at H; cases H
               ·
                rw [if_neg c65] at H
                have c65b0 := decide_eq_false c65
                first | (have c65bz := c65b0; simp only [hl12_5] at c65bz) | skip
                clear c65
                (first | rw [c65b0] | (simp only [i64_w, i32_w]; rw [c65b0]) | skip)
                obtain ⟨⟨t873, t874, t875⟩, A710, H⟩ := Option.bind_eq_some_iff.mp H
                try dsimp only at H
                have A71 := A_ A710; clear A710
                by_cases c72 : 0 ≤ t873
                ·
                 rw [if_pos c72] at H
                 have c72b0 := decide_eq_true c72
                 clear c72
                 by_cases c73 : t873 < (x12_5.length : Int)
                 ·
                  rw [if_pos c73] at H
                  have c73b0 := decide_eq_true c73
                  clear c73
                  obtain ⟨⟨t877, t878, t879⟩, A740, H⟩ := Option.bind_eq_some_iff.mp H
                  try dsimp only at H
                  have A74 := A_ A740; clear A740
                  obtain ⟨y880, hy880⟩ : ∃ y_ : List Int, y_ = (x12_5.set (t873 : Int).toNat (wrap64 ((rd x12_5 t873) + t877))) := ⟨_, rfl⟩
                  replace H : (spec_l1Cur_planned.j6 k5 x6_30 x11_50 y880 s0_0 t878 t879) = some (r1, r2, r3, r4, r5) := by first | (rw [hy880]; with_reducible exact H) | (have H2_ := (Option.bind_some _ _).symm.trans H; rw [hy880]; with_reducible exact H2_) | (have H2_ := (Option.bind_some _ _).symm.trans H; with_reducible exact H2_) | with_reducible exact H | (rw [hy880]; exact H) | exact H
                  have Ny880 := A_ hy880
                  clear hy880
                  have H' := A_ H; clear H
                  try go_wp2
                  have n0_ := A_ (Kd.S_drew HO_6.out)
                  have n1_ := A_ (Kd.Q_drew HO_12.out)
                  have n2_ := A_ (IsS83.drew HI0.out)
                  have n3_ := A_ (keep_drew HK.out)
                  have n4_ := A_ (below_drew1 HB.out)
                  clear HO_6
                  clear HO_12
                  clear HI0
                  clear HK
                  clear HB
                  have HO_6 := n0_
                  have HO_12 := n1_
                  have HI0 := n2_
                  have HK := n3_
                  have HB := n4_
                  clear n0_ n1_ n2_ n3_ n4_
                  have p876 : 0 ≤ (t873 : Int) := od_
                  have q876 : t873 < (x12_5.length : Int) := od_
                  obtain ⟨ad876, e876, hx876_0⟩ := Kd.at_int (Kd.Q_reads' HO_12.out).2.2 t873 p876 q876
                  cases e876
                  replace p876 := eq_true p876
                  replace q876 := eq_true q876
                  refine start_ (n := 11) (S := fun w' => w'.cell? (ad876.add (t873).toNat) = some (.int .i64 (rd x12_5 t873))) (ds := [10]) #[false, false, false, false, false, false, false, false, false, false, false] kr_ rfl rfl (hx876_0) (fun hHeld => ?_); refine with_tabW spec_l1Cur_planned.tab33 spec_l1Cur_planned.bits33 (fun HT_ HW_ => ?_)
                  generalize wr.drew = w76 at HO_6 HO_12 HI0 HK HB hx876_0 hHeld ⊢
                  refine pure_ (i := 0) (N := some 102) (v := ?_) (a' := ?_) #[true, false, false, false, false, false, false, false, false, false, false] rfl rfl (any_of HT_.out kr_) (fun _ _ _ h => h) (Or.inl ⟨by rfl, ?_⟩) ?_ ?_
                  rotate_left
                  ·
                   intro w'
                   go_simp
                   with_reducible rfl
                  rotate_left
                  ·
                   simp only [Act.put, List.setIfInBounds_toArray, List.set_cons_zero, List.set_cons_succ, i64_w, i32_w]
                   rfl
                  refine pure_ (i := 1) (N := some 103) (v := ?_) (a' := ?_) #[true, true, false, false, false, false, false, false, false, false, false] rfl rfl (any_of HT_.out kr_) (fun _ _ _ h => h) (Or.inl ⟨by rfl, ?_⟩) ?_ ?_
                  rotate_left
                  ·
                   intro w'
                   go_simp
                   with_reducible rfl
                  rotate_left
                  ·
                   simp only [Act.put, List.setIfInBounds_toArray, List.set_cons_zero, List.set_cons_succ, i64_w, i32_w]
                   rfl
                  refine pure_ (i := 2) (N := some 104) (v := ?_) (a' := ?_) #[true, true, true, false, false, false, false, false, false, false, false] rfl rfl (any_of HT_.out kr_) (fun _ _ _ h => h) (Or.inl ⟨by rfl, ?_⟩) ?_ ?_
                  rotate_left
                  ·
                   intro w'
                   go_simp
                   with_reducible rfl
                  rotate_left
                  ·
                   simp only [Act.put, List.setIfInBounds_toArray, List.set_cons_zero, List.set_cons_succ, i64_w, i32_w]
                   rfl
                  refine pure_ (i := 6) (N := some 108) (v := ?_) (a' := ?_) #[true, true, true, false, false, false, true, false, false, false, false] rfl rfl (any_of HT_.out kr_) (fun _ _ _ h => h) (Or.inl ⟨by rfl, ?_⟩) ?_ ?_
                  rotate_left
                  ·
                   intro w'
                   go_simp
                   with_reducible rfl
                  rotate_left
                  ·
                   simp only [Act.put, List.setIfInBounds_toArray, List.set_cons_zero, List.set_cons_succ, i64_w, i32_w]
                   rfl
                  refine one_ (i := 3) (N := some 105) #[true, true, true, true, false, false, true, false, false, false, false] rfl rfl (one_of HT_.out kr_) (by decide) (fun K hK => ?_)
                  refine goes_ Try.func90 kr_ rfl #[.pointer (some ⟨g, 0, none⟩), .int .i64 x5_3] (by rfl) rfl rfl am_ ?_
                  with_reducible refine (spec_l1Cur_pick.calls g s0_0 t869 t870 x5_3 t873 t874 t875 w0 _ ?side1 ?side2 A71.out).mono ?_
                  (case side1 => exact kI_83 HI0.out)
                  (case side2 => exact bs_ (IsS83.ge HI0.out))
                  rintro e w77 ⟨rfl, hi, hb, hk⟩
                  have HS0_ := keep_cell hk (hHeld) (by first | (rw [add_block]; exact Kd.own_blk (IsS83.own_neQ HI0.out HO_12.out (by decide))) | (show (Addr.add _ _).block ≠ _; rw [add_block]; exact Kd.own_blk (IsS83.own_neQ HI0.out HO_12.out (by decide))) | exact Kd.own_blk (IsS83.own_neQ HI0.out HO_12.out (by decide)))
                  refine ⟨_, rfl, ?_⟩
                  have n0_ := A_ (Kd.S_mono (Kd.S_keep (IsS83.apartS (show IsS83 w0 _ g s0_0 t869 t870 from kI_83 HI0.out) (kS_ HO_6.out) (by decide)) hk (fun _ h => h.2)) (fun _ h => h.1))
                  have n1_ := A_ (Kd.Q_mono (Kd.Q_keep (IsS83.apartQ (show IsS83 w0 _ g s0_0 t869 t870 from kI_83 HI0.out) (kQ_ HO_12.out) (by decide)) hk (fun _ h => h.2)) (fun _ h => h.1))
                  have n2_ := A_ (KeepBut.trans hk_ hk (.inl rfl))
                  have n3_ := A_ (hb)
                  have n4_ := A_ (hi)
                  clear HO_6
                  clear HO_12
                  clear HK
                  clear HB
                  clear HI0
                  have HO_6 := n0_
                  have HO_12 := n1_
                  have HK := n2_
                  have HB := n3_
                  have HI0 := n4_
                  clear n0_ n1_ n2_ n3_ n4_
                  (try clear hb)
                  (try clear hb2)
                  (try clear hk)
                  (try clear hi)
                  refine hK.out _ _ (HS0_) (fun hHeld => ?_)
                  clear hK K
                  refine norm_ (a' := ?_) ?_ ?_
                  rotate_left
                  ·
                   show Act.put _ (some 105) _ = _
                   simp only [Act.put, List.setIfInBounds_toArray, List.set_cons_zero, List.set_cons_succ, i64_w, i32_w]
                   rfl
                  refine pure_ (i := 4) (N := some 106) (v := ?_) (a' := ?_) #[true, true, true, true, true, false, true, false, false, false, false] rfl rfl (any_of HT_.out kr_) (fun _ _ _ h => h) (Or.inl ⟨by rfl, ?_⟩) ?_ ?_
                  rotate_left
                  ·
                   intro w'
                   go_simp
                   with_reducible rfl
                  rotate_left
                  ·
                   simp only [Act.put, List.setIfInBounds_toArray, List.set_cons_zero, List.set_cons_succ, i64_w, i32_w]
                   rfl
                  refine take_ (i := 5) (N := some 107) (v := ?_) (a' := ?_) #[true, true, true, true, true, true, true, false, false, false, false] rfl rfl (take_ofW HT_.out HW_.out kr_) (fun _ _ _ h => h) (Or.inl ⟨by rfl, ?_⟩) hHeld ?_ ?_
                  rotate_left
                  ·
                   intro w' s0
                   go_simp
                   with_reducible rfl
                  rotate_left
                  ·
                   simp only [Act.put, List.setIfInBounds_toArray, List.set_cons_zero, List.set_cons_succ, i64_w, i32_w]
                   rfl
                  refine one_ (i := 7) (N := some 109) #[true, true, true, true, true, true, true, true, false, false, false] rfl rfl (one_of HT_.out kr_) (by decide) (fun K hK => ?_)
                  refine goes_ Try.func90 kr_ rfl #[.pointer (some ⟨g, 0, none⟩), .int .i64 2] (by rfl) rfl rfl am_ ?_
                  with_reducible refine (spec_l1Cur_pick.calls g s0_0 t874 t875 2 t877 t878 t879 w0 _ ?side1 ?side2 A74.out).mono ?_
                  (case side1 => exact kI_83 HI0.out)
                  (case side2 => exact bs_ (IsS83.ge HI0.out))
                  rintro e w78 ⟨rfl, hi, hb, hk⟩
                  have HS0_ := keep_cell hk (hHeld) (by first | (rw [add_block]; exact Kd.own_blk (IsS83.own_neQ HI0.out HO_12.out (by decide))) | (show (Addr.add _ _).block ≠ _; rw [add_block]; exact Kd.own_blk (IsS83.own_neQ HI0.out HO_12.out (by decide))) | exact Kd.own_blk (IsS83.own_neQ HI0.out HO_12.out (by decide)))
                  refine ⟨_, rfl, ?_⟩
                  have n0_ := A_ (Kd.S_mono (Kd.S_keep (IsS83.apartS (show IsS83 w0 _ g s0_0 t874 t875 from kI_83 HI0.out) (kS_ HO_6.out) (by decide)) hk (fun _ h => h.2)) (fun _ h => h.1))
                  have n1_ := A_ (Kd.Q_mono (Kd.Q_keep (IsS83.apartQ (show IsS83 w0 _ g s0_0 t874 t875 from kI_83 HI0.out) (kQ_ HO_12.out) (by decide)) hk (fun _ h => h.2)) (fun _ h => h.1))
                  have n2_ := A_ (KeepBut.trans hk_ hk (.inl rfl))
                  have n3_ := A_ (hb)
                  have n4_ := A_ (hi)
                  clear HO_6
                  clear HO_12
                  clear HK
                  clear HB
                  clear HI0
                  have HO_6 := n0_
                  have HO_12 := n1_
                  have HK := n2_
                  have HB := n3_
                  have HI0 := n4_
                  clear n0_ n1_ n2_ n3_ n4_
                  (try clear hb)
                  (try clear hb2)
                  (try clear hk)
                  (try clear hi)
                  have p75 : 0 ≤ (t873 : Int) := od_
                  have q75 : (t873 : Int) < ((x12_5.length : Int) : Int) := od_
                  obtain ⟨go75, oo75, co75, eo75, gb75, gl75, cl75, HG75⟩ := Kd.Q_form HO_12.out (by omega)
                  (first | cases eo75 | (injection eo75 with ea_ en_ ec_; (first | subst ea_ | (injection ea_ with ea_; subst ea_)); subst ec_; clear en_))
                  have GB75 := A_ gb75
                  have GG75 := A_ HG75
                  clear gb75 gl75 HG75
                  (first | simp only [add_at] at hx876_0 | skip)
                  obtain ⟨hx75_0, hf75_0⟩ := Kd.Q_cell 0 HO_12.out (t873 : Int) p75 q75
                  replace p75 := eq_true p75
                  replace q75 := eq_true q75
                  have HN0_go75 := A_ (show g ≠ go75 from by have h_ := IsS83.own_neQ HI0.out HO_12.out (by decide); intro e_; exact h_ (by rw [e_]; rfl))
                  have HP79 := (Kd.Q_putg HO_12.out (t873 : Int) (od_) (by have h_ : (t873 : Int) < ((x12_5.length : Int) : Int) := od_; first | exact h_ | (have e_ := (Kd.Q_reads' HO_12.out).1; omega) | simpa using h_) (wrap64 ((rd x12_5 t873) + t877))).1
                  rw [← Ny880.out] at HP79
                  have HQ79 := A_ HP79
                  clear HP79
                  refine hK.out _ _ (HS0_) (fun hHeld => ?_)
                  clear hK K
                  refine norm_ (a' := ?_) ?_ ?_
                  rotate_left
                  ·
                   show Act.put _ (some 109) _ = _
                   simp only [Act.put, List.setIfInBounds_toArray, List.set_cons_zero, List.set_cons_succ, i64_w, i32_w]
                   rfl
                  refine pure_ (i := 8) (N := some 110) (v := ?_) (a' := ?_) #[true, true, true, true, true, true, true, true, true, false, false] rfl rfl (any_of HT_.out kr_) (fun _ _ _ h => h) (Or.inl ⟨by rfl, ?_⟩) ?_ ?_
                  rotate_left
                  ·
                   intro w'
                   go_simp
                   with_reducible rfl
                  rotate_left
                  ·
                   simp only [Act.put, List.setIfInBounds_toArray, List.set_cons_zero, List.set_cons_succ, i64_w, i32_w]
                   rfl
                  refine pure_ (i := 9) (N := some 111) (v := ?_) (a' := ?_) #[true, true, true, true, true, true, true, true, true, true, false] rfl rfl (any_of HT_.out kr_) (fun _ _ _ h => h) (Or.inl ⟨by rfl, ?_⟩) ?_ ?_
                  rotate_left
                  ·
                   intro w'
                   go_simp
                   with_reducible rfl
                  rotate_left
                  ·
                   simp only [Act.put, List.setIfInBounds_toArray, List.set_cons_zero, List.set_cons_succ, i64_w, i32_w]
                   rfl
                  refine last_ (i := 10) (N := none) #[true, true, true, true, true, true, true, true, true, true, true] rfl rfl (one_of HT_.out kr_) (by decide) (fun K hK => ?_)
                  refine skip_ (w1 := ?_) (by rfl) rfl ?_ ?_
                  rotate_left
                  ·
                   go_simp
                   rfl
                  refine hK.out _ _ ?_
                  clear hK K
                  refine done_ (done_of HT_.out kr_) ?_
                  try go_wp2
                  (try simp only [← hl12_5])
                  go_meet
                  case rel => exact ⟨_, (y880), (t878), (t879), H', ⟨by have := HJ3.out; have := HK2.out; have := HJ30.out; have := HJ50.out; have := HK5.out; first | omega | exact Nat.le_refl _⟩, ⟨by (try simp only [hl12_5]); (with_reducible repeat (first | apply Kd.S_alloc | apply Kd.S_drewN | apply Kd.S_drew)); exact Kd.S_mono (Kd.S_far (p := ⟨go75, oo75 + (t873 : Int).toNat, none⟩) (Kd.S_mono HO_6.out (fun k_ hk => (⟨hk, fun e_ => hk (by rw [e_]; rfl)⟩ : _ ∧ k_ ≠ go75))) (fun _ hk => hk.2) (.int .i64 (wrap64 ((rd x12_5 t873) + t877)))) (fun _ hk => hk.1)⟩, ⟨by (try simp only [hl12_5]); (with_reducible repeat (first | apply Kd.Q_alloc | apply Kd.Q_drewN | apply Kd.Q_drew)); exact HQ79.out⟩, ⟨by repeat (first | (with_reducible first | exact HI0.out | apply IsS83.alloc | apply IsS83.drewN | apply IsS83.drew | apply IsS83.set_1 | apply IsS83.set_2 | refine IsS83.far ?_ HN0_go75.out _) | exact HI0.out)⟩, ⟨by repeat (first | (with_reducible first | exact HK.out | apply KeepBut.set_ | apply keep_drewN | apply keep_drew | apply keep_alloc | refine keep_far ?_ GB75.out _) | exact HK.out)⟩, ⟨by repeat (first | (with_reducible first | exact HB.out | apply below_alloc | apply pw_below_drewN | apply below_drew1 | refine below_set ?_ (Nat.le_trans HL.out GB75.out) | refine below_set ?_ (IsS83.ge HI0.out)) | exact HB.out)⟩⟩
                 ·
                  rw [if_neg c73] at H; cases H
                ·
                 rw [if_neg c72] at H; cases H
            ·
             replace c61 := Bool.eq_false_iff.mpr c61
             subst c61
             rw [if_neg (show ¬ (false = true) by decide)] at H
             have H' := A_ H; clear H
             go_wp2
             go_meet
             case rel => exact ⟨_, (x12_50), (t866), (t867), H', ⟨by have := HJ3.out; have := HK2.out; have := HJ30.out; have := HJ50.out; first | omega | exact Nat.le_refl _⟩, ⟨kS_ HO_6.out⟩, ⟨kQ_ HO_12.out⟩, ⟨kI_83 HI0.out⟩, ⟨hk_⟩, ⟨bs_ (IsS83.ge HI0.out)⟩⟩
           case rest =>
            clear HC59
            (try clear c1); (try clear c2); (try clear p2); (try clear c3); (try clear c4); (try clear p4); (try clear q4); (try clear hx4); (try clear qi4); (try clear hf4); (try clear c5); (try clear c6); (try clear p6); (try clear q6); (try clear hx6); (try clear hf6); (try clear c7); (try clear p7); (try clear q7); (try clear hx7); (try clear hf7); (try clear c8); (try clear c8b0); (try clear p8); (try clear q8); (try clear hx8); (try clear qi8); (try clear c9); (try clear c9b0); (try clear c11); (try clear c11b0); (try clear c11b1); (try clear c12); (try clear c12b0); (try clear c12b1); (try clear c13); (try clear c17); (try clear c18); (try clear c22); (try clear c26); (try clear c37); (try clear c38); (try clear c38b0); (try clear c38b1); (try clear c40); (try clear c40b0); (try clear c40b1); (try clear p41); (try clear q41); (try clear hx41); (try clear qi41); (try clear hf41); (try clear c48); (try clear q48); (try clear c54); (try clear c57); (try clear c61); (try clear p64); (try clear c65); (try clear c65b0); (try clear c66); (try clear c66b0); (try clear c67); (try clear c67b0); (try clear p68); (try clear q68); (try clear hx68); (try clear hf68); (try clear c72); (try clear c72b0); (try clear c73); (try clear c73b0); (try clear p75); (try clear q75); (try clear hx75); (try clear hf75); (try clear c78); (try clear hx41_0); (try clear hx68_0); (try clear hx75_0); (try clear hx842_0); (try clear hx871_0); (try clear hx876_0); (try clear p2); (try clear p4); (try clear p41); (try clear p6); (try clear p64); (try clear p68); (try clear p75); (try clear p8); (try clear p842); (try clear p871); (try clear p876); (try clear q4); (try clear q41); (try clear q48); (try clear q68); (try clear q75); (try clear q8); (try clear q842); (try clear q871); (try clear q876)
            obtain ⟨kq, x12_58, x1001_58, x1002_58, HA, HJ58, HO_6, HO_12, HI0, HK, HB⟩ := hcut
            cases kq with
            | zero => exact absurd HA.out (by simp [spec_l1Cur_planned.j6])
            | succ kj58 =>
             have H := HA.out
             clear HA
             simp only [spec_l1Cur_planned.j6] at H
             obtain ⟨⟨t881, t882, t883⟩, A800, H⟩ := Option.bind_eq_some_iff.mp H
             try dsimp only at H
             have A80 := A_ A800; clear A800
             by_cases c81 : t881 = 0
             ·
              rw [if_pos c81] at H
              have c81b0 : (t881 == 0) = true := beq_iff_eq.mpr c81
              have c81b1 : (t881 != 0) = false := bne_eq_false_iff_eq.mpr c81
              clear c81
              obtain ⟨y884, hy884⟩ : ∃ y_ : List Int, y_ = (([0, 100000, 100001, (-1)] : List Int)) := ⟨_, rfl⟩
              replace H : ((spec_l1Cur_among.f s0_0 t882 t883 y884).bind fun bt887 => (some (x6_30, x12_58, bt887.1, bt887.2.1, bt887.2.2))) = some (r1, r2, r3, r4, r5) := by first | (rw [hy884]; with_reducible exact H) | (have H2_ := (Option.bind_some _ _).symm.trans H; rw [hy884]; with_reducible exact H2_) | (have H2_ := (Option.bind_some _ _).symm.trans H; with_reducible exact H2_) | with_reducible exact H | (rw [hy884]; exact H) | exact H
              have Ny884 := A_ hy884
              clear hy884
              obtain ⟨⟨t887, t888, t889⟩, A820, H⟩ := Option.bind_eq_some_iff.mp H
              try dsimp only at H
              have A82 := A_ A820; clear A820
              simp only [Option.some.injEq, Prod.mk.injEq] at H
              obtain ⟨rfl, rfl, rfl, rfl, rfl⟩ := H
              go_wp2_with (first | ((with_reducible refine gate_callee (f := 90) rfl ?_); refine goesL_ (some 113) rfl rfl Try.func90 kr_ rfl #[.pointer (some ⟨g, 0, none⟩), .int .i64 24] rfl am_ ?_; (with_reducible refine (spec_l1Cur_pick.calls g s0_0 x1001_58 x1002_58 24 t881 t882 t883 w0 _ ?side1 ?side2 A80.out).mono ?_); (case side1 => exact kI_83 HI0.out); (case side2 => exact bs_ (IsS83.ge HI0.out)); rintro e w83 ⟨rfl, hi, hb, hk⟩; refine ⟨_, rfl, ?_⟩; have n0_ := A_ (Kd.S_mono (Kd.S_keep (IsS83.apartS (show IsS83 w0 _ g s0_0 x1001_58 x1002_58 from kI_83 HI0.out) (kS_ HO_6.out) (by decide)) hk (fun _ h => h.2)) (fun _ h => h.1)); have n1_ := A_ (Kd.Q_mono (Kd.Q_keep (IsS83.apartQ (show IsS83 w0 _ g s0_0 x1001_58 x1002_58 from kI_83 HI0.out) (kQ_ HO_12.out) (by decide)) hk (fun _ h => h.2)) (fun _ h => h.1)); have n2_ := A_ (KeepBut.trans hk_ hk (.inl rfl)); have n3_ := A_ (hb); have n4_ := A_ (hi); clear HO_6; clear HO_12; clear HK; clear HB; clear HI0; have HO_6 := n0_; have HO_12 := n1_; have HK := n2_; have HB := n3_; have HI0 := n4_; clear n0_ n1_ n2_ n3_ n4_; (try clear hb); (try clear hb2); (try clear hk); (try clear hi)) | ((with_reducible refine gate_dst (N := 117) rfl ?_); refine Kd.R_lit (Kd.int .i64) _ 3 ?hg (N := 117) ?hd (xs := ([0, 100000, 100001, (-1)] : List Int)) (inner := [.int .i64 0, .int .i64 100000, .int .i64 100001, .int .i64 (-1)]) (ok := fun _ => True) (okp := fun _ => True) ?hr ?hp (fun _ hk => hk) trivial (Below.refl _ _) (Nat.le_refl _) (by simp) ?_; (case hd => rfl); (case hg => rfl); (case hr => first | (go_simp; done) | (go_simp; rfl)); (case hp => exact (Reps.one (show Kd.M (Kd.int .i64) _ _ _ 0 [.int .i64 0] from rfl) (Reps.one (show Kd.M (Kd.int .i64) _ _ _ 100000 [.int .i64 100000] from rfl) (Reps.one (show Kd.M (Kd.int .i64) _ _ _ 100001 [.int .i64 100001] from rfl) (Reps.one (show Kd.M (Kd.int .i64) _ _ _ (-1) [.int .i64 (-1)] from rfl) (Reps.none _ _)))))); intro v885 w84 ho85 hb hg_ hnew_; clear hg_ hnew_; (first | rw [← Ny884.out] at ho85 | (simp only [Int.reduceToNat] at ho85; rw [← Ny884.out] at ho85)); have n0_ := A_ (Kd.S_elder' (kS_ HO_6.out) (Kd.R_base ho85) hb); have n1_ := A_ (Kd.Q_elder' (kQ_ HO_12.out) (Kd.R_base ho85) hb); have n2_ := A_ (Kd.R_lower (Kd.R_new' ho85 (Kd.Q_lt (kQ_ HO_12.out))) (keep_size (w := w) (g := g) (row := none) hk_)); have n3_ := A_ (IsS83.below (kI_83 HI0.out) hb); have n4_ := A_ (KeepBut.trans hk_ (KeepBut.of_below hb g none) (.inl rfl)); have n5_ := A_ (below_step (bs_ (IsS83.ge HI0.out)) hb); clear HO_6; clear HO_12; clear HI0; clear HK; clear HB; have HO_6 := n0_; have HO_12 := n1_; have HO886 := n2_; have HI0 := n3_; have HK := n4_; have HB := n5_; clear n0_ n1_ n2_ n3_ n4_ n5_; clear hb ho85; obtain ⟨Ao86, co86, eo86⟩ := Kd.R_slice HO886.out; subst eo86) | ((with_reducible refine gate_callee (f := 76) rfl ?_); refine goesL_ (some 118) rfl rfl Try.func76 kr_ rfl #[.pointer (some ⟨g, 0, none⟩), .slice Ao86 y884.length co86] rfl am_ ?_; (with_reducible refine (spec_l1Cur_among.calls g s0_0 t882 t883 _ _ y884 t887 t888 t889 w0 _ ?side1 ?side2 ?side3 ?side4 ?side5 A82.out).mono ?_); (case side1 => exact kI_83 HI0.out); (case side2 => exact bs_ (IsS83.ge HI0.out)); (case side3 => exact kC_ ((Kd.R_reads' HO886.out).2.2)); (case side4 => exact (Kd.R_reads' HO886.out).2.1); (case side5 => exact far_slice (IsS83.own_ne HI0.out HO886.out (by decide))); rintro e w87 ⟨rfl, hi, hb, hk⟩; refine ⟨_, rfl, ?_⟩; have n0_ := A_ (Kd.S_mono (Kd.S_keep (IsS83.apartS (show IsS83 w0 _ g s0_0 t882 t883 from kI_83 HI0.out) (kS_ HO_6.out) (by decide)) hk (fun _ h => h.2)) (fun _ h => h.1)); have n1_ := A_ (Kd.Q_mono (Kd.Q_keep (IsS83.apartQ (show IsS83 w0 _ g s0_0 t882 t883 from kI_83 HI0.out) (kQ_ HO_12.out) (by decide)) hk (fun _ h => h.2)) (fun _ h => h.1)); have n2_ := A_ (Kd.R_mono (Kd.R_keep (IsS83.apart (show IsS83 w0 _ g s0_0 t882 t883 from kI_83 HI0.out) (kR_ HO886.out) (by decide)) hk (fun _ h => h.2)) (fun _ h => h.1)); have n3_ := A_ (KeepBut.trans hk_ hk (.inl rfl)); have n4_ := A_ (hb); have n5_ := A_ (hi); clear HO_6; clear HO_12; clear HO886; clear HK; clear HB; clear HI0; have HO_6 := n0_; have HO_12 := n1_; have HO886 := n2_; have HK := n3_; have HB := n4_; have HI0 := n5_; clear n0_ n1_ n2_ n3_ n4_ n5_; (try clear hb); (try clear hb2); (try clear hk); (try clear hi)))
              go_ret3
              exact ⟨_, _, ew_, by (with_reducible repeat (first | apply Kd.S_alloc | apply Kd.S_drewN | apply Kd.S_drew)); exact Kd.S_mono HO_6.out (fun _ hk => hk.1), by (with_reducible repeat (first | apply Kd.Q_alloc | apply Kd.Q_drewN | apply Kd.Q_drew)); exact Kd.Q_mono HO_12.out (fun _ hk => trivial), kI_83 HI0.out, bs_ (IsS83.ge HI0.out), hk_⟩
             ·
              rw [if_neg c81] at H
              have c81b0 : (t881 == 0) = false := beq_eq_false_iff_ne.mpr c81
              have c81b1 : (t881 != 0) = true := bne_iff_ne.mpr c81
              by_cases c88 : t881 = 1
              ·
               rw [if_pos c88] at H
               have c88b0 : (t881 == 1) = true := beq_iff_eq.mpr c88
               have c88b1 : (t881 != 1) = false := bne_eq_false_iff_eq.mpr c88
               clear c88
               obtain ⟨y890, hy890⟩ : ∃ y_ : List Int, y_ = (([100000, 100001, (-1)] : List Int)) := ⟨_, rfl⟩
               replace H : ((spec_l1Cur_among.f s0_0 t882 t883 y890).bind fun bt893 => (if 0 < (x12_58.length : Int) then (some (x6_30, (x12_58.set (0 : Int).toNat bt893.1), x11_50, bt893.2.1, bt893.2.2)) else (none))) = some (r1, r2, r3, r4, r5) := by first | (rw [hy890]; with_reducible exact H) | (have H2_ := (Option.bind_some _ _).symm.trans H; rw [hy890]; with_reducible exact H2_) | (have H2_ := (Option.bind_some _ _).symm.trans H; with_reducible exact H2_) | with_reducible exact H | (rw [hy890]; exact H) | exact H
               have Ny890 := A_ hy890
               clear hy890
               obtain ⟨⟨t893, t894, t895⟩, A890, H⟩ := Option.bind_eq_some_iff.mp H
               try dsimp only at H
               have A89 := A_ A890; clear A890
               by_cases c90 : 0 < (x12_58.length : Int)
               ·
                rw [if_pos c90] at H
                have c90b0 := decide_eq_true c90
                have c90b1 : decide (0 < x12_58.length) = true := decide_eq_true (by omega)
                clear c90
                obtain ⟨y896, hy896⟩ : ∃ y_ : List Int, y_ = (x12_58.set (0 : Int).toNat t893) := ⟨_, rfl⟩
                replace H : (some (x6_30, y896, x11_50, t894, t895)) = some (r1, r2, r3, r4, r5) := by first | (rw [hy896]; with_reducible exact H) | (have H2_ := (Option.bind_some _ _).symm.trans H; rw [hy896]; with_reducible exact H2_) | (have H2_ := (Option.bind_some _ _).symm.trans H; with_reducible exact H2_) | with_reducible exact H | (rw [hy896]; exact H) | exact H
                have Ny896 := A_ hy896
                clear hy896
                simp only [Option.some.injEq, Prod.mk.injEq] at H
                obtain ⟨rfl, rfl, rfl, rfl, rfl⟩ := H
                go_wp2_with (first | ((with_reducible refine gate_callee (f := 90) rfl ?_); refine goesL_ (some 113) rfl rfl Try.func90 kr_ rfl #[.pointer (some ⟨g, 0, none⟩), .int .i64 24] rfl am_ ?_; (with_reducible refine (spec_l1Cur_pick.calls g s0_0 x1001_58 x1002_58 24 t881 t882 t883 w0 _ ?side1 ?side2 A80.out).mono ?_); (case side1 => exact kI_83 HI0.out); (case side2 => exact bs_ (IsS83.ge HI0.out)); rintro e w92 ⟨rfl, hi, hb, hk⟩; refine ⟨_, rfl, ?_⟩; have n0_ := A_ (Kd.S_mono (Kd.S_keep (IsS83.apartS (show IsS83 w0 _ g s0_0 x1001_58 x1002_58 from kI_83 HI0.out) (kS_ HO_6.out) (by decide)) hk (fun _ h => h.2)) (fun _ h => h.1)); have n1_ := A_ (Kd.Q_mono (Kd.Q_keep (IsS83.apartQ (show IsS83 w0 _ g s0_0 x1001_58 x1002_58 from kI_83 HI0.out) (kQ_ HO_12.out) (by decide)) hk (fun _ h => h.2)) (fun _ h => h.1)); have n2_ := A_ (KeepBut.trans hk_ hk (.inl rfl)); have n3_ := A_ (hb); have n4_ := A_ (hi); clear HO_6; clear HO_12; clear HK; clear HB; clear HI0; have HO_6 := n0_; have HO_12 := n1_; have HK := n2_; have HB := n3_; have HI0 := n4_; clear n0_ n1_ n2_ n3_ n4_; (try clear hb); (try clear hb2); (try clear hk); (try clear hi)) | ((with_reducible refine gate_dst (N := 123) rfl ?_); refine Kd.R_lit (Kd.int .i64) _ 3 ?hg (N := 123) ?hd (xs := ([100000, 100001, (-1)] : List Int)) (inner := [.int .i64 100000, .int .i64 100001, .int .i64 (-1)]) (ok := fun _ => True) (okp := fun _ => True) ?hr ?hp (fun _ hk => hk) trivial (Below.refl _ _) (Nat.le_refl _) (by simp) ?_; (case hd => rfl); (case hg => rfl); (case hr => first | (go_simp; done) | (go_simp; rfl)); (case hp => exact (Reps.one (show Kd.M (Kd.int .i64) _ _ _ 100000 [.int .i64 100000] from rfl) (Reps.one (show Kd.M (Kd.int .i64) _ _ _ 100001 [.int .i64 100001] from rfl) (Reps.one (show Kd.M (Kd.int .i64) _ _ _ (-1) [.int .i64 (-1)] from rfl) (Reps.none _ _))))); intro v891 w93 ho94 hb hg_ hnew_; clear hg_ hnew_; (first | rw [← Ny890.out] at ho94 | (simp only [Int.reduceToNat] at ho94; rw [← Ny890.out] at ho94)); have n0_ := A_ (Kd.S_elder' (kS_ HO_6.out) (Kd.R_base ho94) hb); have n1_ := A_ (Kd.Q_elder' (kQ_ HO_12.out) (Kd.R_base ho94) hb); have n2_ := A_ (Kd.R_lower (Kd.R_new' ho94 (Kd.Q_lt (kQ_ HO_12.out))) (keep_size (w := w) (g := g) (row := none) hk_)); have n3_ := A_ (IsS83.below (kI_83 HI0.out) hb); have n4_ := A_ (KeepBut.trans hk_ (KeepBut.of_below hb g none) (.inl rfl)); have n5_ := A_ (below_step (bs_ (IsS83.ge HI0.out)) hb); clear HO_6; clear HO_12; clear HI0; clear HK; clear HB; have HO_6 := n0_; have HO_12 := n1_; have HO892 := n2_; have HI0 := n3_; have HK := n4_; have HB := n5_; clear n0_ n1_ n2_ n3_ n4_ n5_; clear hb ho94; obtain ⟨Ao95, co95, eo95⟩ := Kd.R_slice HO892.out; subst eo95) | ((with_reducible refine gate_callee (f := 76) rfl ?_); refine goesL_ (some 124) rfl rfl Try.func76 kr_ rfl #[.pointer (some ⟨g, 0, none⟩), .slice Ao95 y890.length co95] rfl am_ ?_; (with_reducible refine (spec_l1Cur_among.calls g s0_0 t882 t883 _ _ y890 t893 t894 t895 w0 _ ?side1 ?side2 ?side3 ?side4 ?side5 A89.out).mono ?_); (case side1 => exact kI_83 HI0.out); (case side2 => exact bs_ (IsS83.ge HI0.out)); (case side3 => exact kC_ ((Kd.R_reads' HO892.out).2.2)); (case side4 => exact (Kd.R_reads' HO892.out).2.1); (case side5 => exact far_slice (IsS83.own_ne HI0.out HO892.out (by decide))); rintro e w96 ⟨rfl, hi, hb, hk⟩; refine ⟨_, rfl, ?_⟩; have n0_ := A_ (Kd.S_mono (Kd.S_keep (IsS83.apartS (show IsS83 w0 _ g s0_0 t882 t883 from kI_83 HI0.out) (kS_ HO_6.out) (by decide)) hk (fun _ h => h.2)) (fun _ h => h.1)); have n1_ := A_ (Kd.Q_mono (Kd.Q_keep (IsS83.apartQ (show IsS83 w0 _ g s0_0 t882 t883 from kI_83 HI0.out) (kQ_ HO_12.out) (by decide)) hk (fun _ h => h.2)) (fun _ h => h.1)); have n2_ := A_ (Kd.R_mono (Kd.R_keep (IsS83.apart (show IsS83 w0 _ g s0_0 t882 t883 from kI_83 HI0.out) (kR_ HO892.out) (by decide)) hk (fun _ h => h.2)) (fun _ h => h.1)); have n3_ := A_ (KeepBut.trans hk_ hk (.inl rfl)); have n4_ := A_ (hb); have n5_ := A_ (hi); clear HO_6; clear HO_12; clear HO892; clear HK; clear HB; clear HI0; have HO_6 := n0_; have HO_12 := n1_; have HO892 := n2_; have HK := n3_; have HB := n4_; have HI0 := n5_; clear n0_ n1_ n2_ n3_ n4_ n5_; (try clear hb); (try clear hb2); (try clear hk); (try clear hi); have p91 : 0 ≤ (0 : Int) := (by omega); have q91 : (0 : Int) < ((x12_58.length : Int) : Int) := od_; have qi91 : (0 < x12_58.length) = True := eq_true (by omega); obtain ⟨go91, oo91, co91, eo91, gb91, gl91, cl91, HG91⟩ := Kd.Q_form HO_12.out (by omega); (first | cases eo91 | (injection eo91 with ea_ en_ ec_; (first | subst ea_ | (injection ea_ with ea_; subst ea_)); subst ec_; clear en_)); have GB91 := A_ gb91; have GG91 := A_ HG91; clear gb91 gl91 HG91; obtain ⟨hx91_0, hf91_0⟩ := Kd.Q_cell 0 HO_12.out (0 : Int) p91 q91; (try rw [show ((0 : Int)).toNat = 0 from rfl] at hx91_0); (try simp only [Nat.reduceMul, Nat.zero_mul, Nat.zero_add, Nat.add_zero, Nat.reduceAdd] at hx91_0); (try rw [show ((0 : Int)).toNat = 0 from rfl] at hf91_0); (try simp only [Nat.reduceMul, Nat.zero_mul, Nat.zero_add, Nat.add_zero, Nat.reduceAdd] at hf91_0); replace p91 := eq_true p91; replace q91 := eq_true q91; have n_ := A_ (Kd.Q_mono (ok' := (fun k_ => some k_ ≠ (.slice Ao95 y890.length co95 : Value).ownBlock)) HO_12.out (fun k_ hk => hk.2)); clear HO_12; have HO_12 := n_; clear n_; obtain ⟨hy97_, hz97_⟩ := Kd.Q_cell 0 HO_12.out (0 : Int) (by omega) (od_); (try simp only [Int.reduceToNat, Int.toNat_zero, Int.toNat_ofNat, Nat.reduceMul, Nat.zero_mul, Nat.zero_add] at hy97_ hz97_); (try rw [show ((0 : Int)).toNat = 0 from rfl] at hy97_); (try rw [show ((0 : Int)).toNat = 0 from rfl] at hz97_); have HP97 := Kd.Q_putg HO_12.out (0 : Int) (by omega) (by have h_ : (0 : Int) < ((x12_58.length : Int) : Int) := od_; first | exact h_ | (have e_ := (Kd.Q_reads' HO_12.out).1; omega) | simpa using h_) t893) | ((with_reducible refine gate_store (t := 3) (p := 125) rfl ?_); refine store_event (t := 3) (p := 125) (v := ?vo_w98) (w1 := (w96.setCell ⟨go91, oo91 + (0 : Int).toNat, none⟩ (.int .i64 t893))) ?hg ?ho ?hn ?hr ?_; (case ho => rfl); (case hg => rfl); (case hn => rfl); (case hr => first | (go_simp; done) | (go_simp; rfl)); intro w98 hw; have hg : w96.grownBy w98 (some go91) := (by rw [hw]; exact HP97.2); have hp_ : Kd.Q (Kd.int .i64) 3 w98 w.heap.size (fun k_ => some k_ ≠ (.slice Ao95 y890.length co95 : Value).ownBlock) (.slice (some ⟨go91, oo91, none⟩) x12_58.length co91) y896 := (by rw [hw, Ny896.out]; exact HP97.1); clear HP97; have n0_ := A_ (Kd.S_after (v := (.slice (some ⟨go91, oo91, none⟩) x12_58.length co91)) (v1 := (.slice (some ⟨go91, oo91, none⟩) x12_58.length co91)) (ok := (fun k_ => some k_ ≠ (.slice Ao95 y890.length co95 : Value).ownBlock)) (by (with_reducible repeat (first | apply Kd.S_alloc | apply Kd.S_drewN | apply Kd.S_drew)); exact Kd.S_mono HO_6.out (fun _ hk => ⟨hk.2, hk.1⟩)) hg (.inl rfl)); have n1_ := A_ (hp_); have n2_ := A_ (IsS83.grown (kI_83 HI0.out) hg (IsS83.own_neQ HI0.out HO_12.out (by decide))); have n3_ := A_ (Kd.R_after (v := (.slice (some ⟨go91, oo91, none⟩) x12_58.length co91)) (v1 := (.slice (some ⟨go91, oo91, none⟩) x12_58.length co91)) (ok := (fun _ => True)) (kR_ HO892.out) hg (.inl rfl)); have n4_ := A_ ((by rw [hw]; exact below_set (HB.out) (Nat.le_trans HL.out GB91.out) : Below w0.heap.size w0 w98)); have n5_ := A_ (KeepBut.trans hk_ (KeepBut.of_grown hg g) (Kd.Q_base2 HO_12.out)); clear HO_6; clear HO_12; clear HI0; clear HO892; clear HB; clear HK; have HO_6 := n0_; have HO_12 := n1_; have HI0 := n2_; have HO892 := n3_; have HB := n4_; have HK := n5_; clear n0_ n1_ n2_ n3_ n4_ n5_; clear hg hw hp_))
                go_ret3
                exact ⟨_, _, ew_, by (with_reducible repeat (first | apply Kd.S_alloc | apply Kd.S_drewN | apply Kd.S_drew)); exact Kd.S_mono HO_6.out (fun _ hk => hk.2), by (with_reducible repeat (first | apply Kd.Q_alloc | apply Kd.Q_drewN | apply Kd.Q_drew)); exact Kd.Q_mono HO_12.out (fun _ hk => trivial), kI_83 HI0.out, bs_ (IsS83.ge HI0.out), hk_⟩
               ·
                rw [if_neg c90] at H; cases H
              ·
               rw [if_neg c88] at H
               have c88b0 : (t881 == 1) = false := beq_eq_false_iff_ne.mpr c88
               have c88b1 : (t881 != 1) = true := bne_iff_ne.mpr c88
               by_cases c99 : t881 = 2
               ·
                rw [if_pos c99] at H
                have c99b0 : (t881 == 2) = true := beq_iff_eq.mpr c99
                have c99b1 : (t881 != 2) = false := bne_eq_false_iff_eq.mpr c99
                clear c99
                by_cases c100 : 1 ≤ (x12_58.length : Int)
                ·
                 rw [if_pos c100] at H
                 have c100b0 := eq_true c100
                 have c100b1 : decide (1 ≤ (x12_58.length : Int)) = true := decide_eq_true c100
                 clear c100
                 obtain ⟨y897, hy897⟩ : ∃ y_ : List Int, y_ = (x12_58.drop (1 : Int).toNat) := ⟨_, rfl⟩
                 replace H : (some (x6_30, y897, x11_50, t882, t883)) = some (r1, r2, r3, r4, r5) := by first | (rw [hy897]; with_reducible exact H) | (have H2_ := (Option.bind_some _ _).symm.trans H; rw [hy897]; with_reducible exact H2_) | (have H2_ := (Option.bind_some _ _).symm.trans H; with_reducible exact H2_) | with_reducible exact H | (rw [hy897]; exact H) | exact H
                 have Ny897 := A_ hy897
                 clear hy897
                 simp only [Option.some.injEq, Prod.mk.injEq] at H
                 obtain ⟨rfl, rfl, rfl, rfl, rfl⟩ := H
                 go_wp2_with (first | ((with_reducible refine gate_callee (f := 90) rfl ?_); refine goesL_ (some 113) rfl rfl Try.func90 kr_ rfl #[.pointer (some ⟨g, 0, none⟩), .int .i64 24] rfl am_ ?_; (with_reducible refine (spec_l1Cur_pick.calls g s0_0 x1001_58 x1002_58 24 t881 t882 t883 w0 _ ?side1 ?side2 A80.out).mono ?_); (case side1 => exact kI_83 HI0.out); (case side2 => exact bs_ (IsS83.ge HI0.out)); rintro e w101 ⟨rfl, hi, hb, hk⟩; refine ⟨_, rfl, ?_⟩; have n0_ := A_ (Kd.S_mono (Kd.S_keep (IsS83.apartS (show IsS83 w0 _ g s0_0 x1001_58 x1002_58 from kI_83 HI0.out) (kS_ HO_6.out) (by decide)) hk (fun _ h => h.2)) (fun _ h => h.1)); have n1_ := A_ (Kd.Q_mono (Kd.Q_keep (IsS83.apartQ (show IsS83 w0 _ g s0_0 x1001_58 x1002_58 from kI_83 HI0.out) (kQ_ HO_12.out) (by decide)) hk (fun _ h => h.2)) (fun _ h => h.1)); have n2_ := A_ (KeepBut.trans hk_ hk (.inl rfl)); have n3_ := A_ (hb); have n4_ := A_ (hi); clear HO_6; clear HO_12; clear HK; clear HB; clear HI0; have HO_6 := n0_; have HO_12 := n1_; have HK := n2_; have HB := n3_; have HI0 := n4_; clear n0_ n1_ n2_ n3_ n4_; (try clear hb); (try clear hb2); (try clear hk); (try clear hi); obtain ⟨Ao102, co102, eo102, _⟩ := Kd.Q_slice HO_12.out; subst eo102; have q103 : (1 : Int) ≤ ((x12_58.length : Int) : Int) := od_; obtain ⟨i0103, hi0103, _, hsz103, _⟩ := info_parts info3; have hcut103 := cut_from (P := Try.prog) 23 3 .i64 Try.underlying23 hi0103 1 hsz103 Ao102 x12_58.length co102 1 (by omega) q103; have hr103 := Kd.Q_drop (k := (1 : Int).toNat) HO_12.out (by omega); obtain ⟨A103, hA103⟩ : ∃ A1, A1 = (if co102 = (1 : Int).toNat then Ao102 else (Ao102 : Option Addr).map (·.add ((1 : Int).toNat * 1))) := ⟨_, rfl⟩; obtain ⟨c103, hc103⟩ : ∃ c1, c1 = co102 - (1 : Int).toNat := ⟨_, rfl⟩; have hy103 : y897.length = x12_58.length - (1 : Int).toNat := (by rw [Ny897.out, List.length_drop]); rw [← Ny897.out] at hr103; rw [← hy103, ← hA103, ← hc103] at hcut103; replace hr103 : Kd.Q (Kd.int .i64) 3 w101 w.heap.size (fun _ => True) (.slice A103 y897.length c103) y897 := (by rw [hA103, hc103, hy103]; exact hr103); have HE103 : Aside0 ((Value.slice A103 y897.length c103).ownBlock = (.slice Ao102 x12_58.length co102 : Value).ownBlock) := ⟨by rw [hA103]; split <;> (cases (Ao102 : Option Addr) <;> rfl)⟩; clear hy103 hi0103 hsz103 HO_12 hA103 hc103; have HO899 := A_ hr103; clear hr103; replace q103 := eq_true q103; have n_ := A_ (Kd.S_mono (ok' := fun k_ => some k_ ≠ (.slice A103 y897.length c103 : Value).ownBlock) HO_6.out (fun k_ hk => (by rw [HE103.out]; exact hk))); clear HO_6; have HO_6 := n_; clear n_))
                 go_ret3
                 exact ⟨_, _, ew_, kS_ HO_6.out, kQ_ HO899.out, kI_83 HI0.out, bs_ (IsS83.ge HI0.out), hk_⟩
                ·
                 rw [if_neg c100] at H; cases H
               ·
                rw [if_neg c99] at H
                have c99b0 : (t881 == 2) = false := beq_eq_false_iff_ne.mpr c99
                have c99b1 : (t881 != 2) = true := bne_iff_ne.mpr c99
                simp only [Option.some.injEq, Prod.mk.injEq] at H
                obtain ⟨rfl, rfl, rfl, rfl, rfl⟩ := H
                go_wp2_with (first | ((with_reducible refine gate_callee (f := 90) rfl ?_); refine goesL_ (some 113) rfl rfl Try.func90 kr_ rfl #[.pointer (some ⟨g, 0, none⟩), .int .i64 24] rfl am_ ?_; (with_reducible refine (spec_l1Cur_pick.calls g s0_0 x1001_58 x1002_58 24 t881 t882 t883 w0 _ ?side1 ?side2 A80.out).mono ?_); (case side1 => exact kI_83 HI0.out); (case side2 => exact bs_ (IsS83.ge HI0.out)); rintro e w104 ⟨rfl, hi, hb, hk⟩; refine ⟨_, rfl, ?_⟩; have n0_ := A_ (Kd.S_mono (Kd.S_keep (IsS83.apartS (show IsS83 w0 _ g s0_0 x1001_58 x1002_58 from kI_83 HI0.out) (kS_ HO_6.out) (by decide)) hk (fun _ h => h.2)) (fun _ h => h.1)); have n1_ := A_ (Kd.Q_mono (Kd.Q_keep (IsS83.apartQ (show IsS83 w0 _ g s0_0 x1001_58 x1002_58 from kI_83 HI0.out) (kQ_ HO_12.out) (by decide)) hk (fun _ h => h.2)) (fun _ h => h.1)); have n2_ := A_ (KeepBut.trans hk_ hk (.inl rfl)); have n3_ := A_ (hb); have n4_ := A_ (hi); clear HO_6; clear HO_12; clear HK; clear HB; clear HI0; have HO_6 := n0_; have HO_12 := n1_; have HK := n2_; have HB := n3_; have HI0 := n4_; clear n0_ n1_ n2_ n3_ n4_; (try clear hb); (try clear hb2); (try clear hk); (try clear hi)))
                go_ret3
                exact ⟨_, _, ew_, kS_ HO_6.out, kQ_ HO_12.out, kI_83 HI0.out, bs_ (IsS83.ge HI0.out), hk_⟩
          ·
           replace c57 := Bool.eq_false_iff.mpr c57
           subst c57
           rw [if_neg (show ¬ (false = true) by decide)] at H
           obtain ⟨⟨t860, t863, t864⟩, A1050, H⟩ := Option.bind_eq_some_iff.mp H
           try dsimp only at H
           have A105 := A_ A1050; clear A1050
           simp only [Option.some.injEq, Prod.mk.injEq] at H
           obtain ⟨rfl, rfl, rfl, rfl, rfl⟩ := H
           go_wp2_with (first | ((with_reducible refine gate_callee (f := 92) rfl ?_); refine goesL_ (some 83) rfl rfl Try.func92 kr_ rfl #[.pointer (some ⟨g, 0, none⟩), .int .i64 x5_3] rfl am_ ?_; (with_reducible refine (spec_l1Cur_plain.calls kj50 g s0_0 x1001_30 x1002_30 x5_3 t860 t863 t864 w0 _ ?side1 ?side2 A105.out).mono ?_); (case side1 => exact kI_83 HI0.out); (case side2 => exact bs_ (IsS83.ge HI0.out)); rintro e w106 ⟨v861, rfl, ho0, hi, hb, hk⟩; refine ⟨_, rfl, ?_⟩; have n0_ := A_ (Kd.S_mono (Kd.S_told (Kd.S_oldK (IsS83.apartS (show IsS83 w0 _ g s0_0 x1001_30 x1002_30 from kI_83 HI0.out) (kS_ HO_6.out) (by decide)) hk) (Kd.R_base ho0)) (fun _ h_ => h_.1)); have n1_ := A_ (Kd.Q_mono (Kd.Q_told (Kd.Q_oldK (IsS83.apartQ (show IsS83 w0 _ g s0_0 x1001_30 x1002_30 from kI_83 HI0.out) (kQ_ HO_12.out) (by decide)) hk) (Kd.R_base ho0)) (fun _ h_ => h_.1)); have n2_ := A_ (Kd.R_lower (Kd.R_new' ho0 (Kd.Q_lt (kQ_ HO_12.out))) (keep_size (w := w) (g := g) (row := none) hk_)); have n3_ := A_ (KeepBut.trans hk_ hk (.inl rfl)); have n4_ := A_ (hb); have n5_ := A_ (hi); clear HO_6; clear HO_12; clear HK; clear HB; clear HI0; have HO_6 := n0_; have HO_12 := n1_; have HO862 := n2_; have HK := n3_; have HB := n4_; have HI0 := n5_; clear n0_ n1_ n2_ n3_ n4_ n5_; (try clear hb); (try clear hb2); (try clear hk); (try clear hi); (try clear ho0)))
           go_ret3
           exact ⟨_, _, ew_, by (with_reducible repeat (first | apply Kd.S_alloc | apply Kd.S_drewN | apply Kd.S_drew)); exact Kd.S_mono HO_6.out (fun _ hk => hk.2), Kd.Q_of_R (by (with_reducible repeat (first | apply Kd.R_alloc | apply Kd.R_drewN | apply Kd.R_drew)); exact Kd.R_mono HO862.out (fun _ hk => trivial)), kI_83 HI0.out, bs_ (IsS83.ge HI0.out), hk_⟩

end Go.Proofs.Ytebjiooojkhkpaa.X
