-- Shaken by wip/gen/shake.py out of this claim's own printed texts. Lean checks it.
import Derived.Test.YtebjiooojkhkpaaX0
import Derived.Test.YtebjiooojkhkpaaZFnExactLeastBufferX4
import Derived.Test.YtebjiooojkhkpaaZFnExactLeastBufferX5
namespace Go.Proofs.Ytebjiooojkhkpaa.X
open Go.RowKit Go.Proofs.YtebjiooojkhkpaaW.PrintWords Go.Proofs.YtebjiooojkhkpaaW.PrintLast Go.Proofs.YtebjiooojkhkpaaW.PrintMore
attribute [local go_sem] max2_int min2_int max_two min_two max_three min_three max_four min_four   -- for this text's walks alone
set_option linter.unusedVariables false
set_option linter.unusedSimpArgs false

/-! ### impl_LeastBuffer: function 24 -/
/-- One visit: the first pair, or one with a smaller buffer. (A plan's rounds: 65.) -/
def impl_LeastBuffer.step (l0 : List (List Int)) (l1 : List Int) (a2 : Int) (s : Int × Int × Bool) (i j : Int) : Option (Int × Int × Bool) := if s.2.2 = true then (impl_plan_buffer.f l0 l1 a2 i j).bind fun x => (impl_plan_buffer.f l0 l1 a2 s.1 s.2.1).bind fun y => some (if x < y then (i, j, true) else s) else some (i, j, true)
set_option maxHeartbeats 8000000 in
set_option maxRecDepth 100000 in
theorem impl_LeastBuffer.visit (A0 : Option Addr) (c0 : Nat) (l0 : List (List Int)) (A1 : Option Addr) (c1 : Nat) (l1 : List Int) (a2 : Int) (s s' : Int × Int × Bool) (Ba Bb Bf Bp : Nat) (i j : Int) (w : World)
    (hr0 : Kd.C (Kd.slice 3 (Kd.int .i64)) w A0 l0.length l0) (hc0 : l0.length ≤ c0) (hr1 : Kd.C (Kd.int .i64) w A1 l1.length l1) (hc1 : l1.length ≤ c1)
    (hba : w.heap[Ba]? = some (.cells #[.int .i64 s.1] 3 (0, 0))) (hbb : w.heap[Bb]? = some (.cells #[.int .i64 s.2.1] 3 (0, 0))) (hbf : w.heap[Bf]? = some (.cells #[.bool s.2.2] 4 (0, 0))) (hbp : w.heap[Bp]? = some (.cells #[.slice A0 l0.length c0, .slice A1 l1.length c1, .int .i64 a2] 63 (0, 0)))
    (hab : Ba ≠ Bb) (haf : Ba ≠ Bf) (hbf2 : Bb ≠ Bf)
    (h : impl_LeastBuffer.step l0 l1 a2 s i j = some s') :
    Calls Try.prog 60 #[.int .i64 i, .int .i64 j, .pointer (some ⟨Bf, 0, none⟩), .pointer (some ⟨Bp, 0, none⟩), .pointer (some ⟨Ba, 0, none⟩), .pointer (some ⟨Bb, 0, none⟩)] w fun e w' => e = .returned (.tuple #[]) ∧ w'.heap[Ba]? = some (.cells #[.int .i64 s'.1] 3 (0, 0)) ∧ w'.heap[Bb]? = some (.cells #[.int .i64 s'.2.1] 3 (0, 0)) ∧ w'.heap[Bf]? = some (.cells #[.bool s'.2.2] 4 (0, 0)) ∧ Kept w w' (fun k => k = Ba ∨ k = Bb ∨ k = Bf) ∧ ∀ u : World, Below u.heap.size u w → u.heap.size ≤ Ba → u.heap.size ≤ Bb → u.heap.size ≤ Bf → Below u.heap.size u w' := by
  obtain ⟨a, b, f⟩ := s
  dsimp only at hba hbb hbf h
  unfold impl_LeastBuffer.step at h
  dsimp only at h
  have HR0 := Aside0.mk hr0
  have HR1 := Aside0.mk hr1
  have HBA := Aside0.mk hba
  have HBB := Aside0.mk hbb
  have HBF := Aside0.mk hbf
  have hza : w.cell? ⟨Ba, 0, none⟩ = some (.int .i64 a) := (blk_cell hba 0).trans rfl
  have hzb : w.cell? ⟨Bb, 0, none⟩ = some (.int .i64 b) := (blk_cell hbb 0).trans rfl
  have hzf : w.cell? ⟨Bf, 0, none⟩ = some (.bool f) := (blk_cell hbf 0).trans rfl
  have hcz0 : w.cell? ⟨Bp, 0, none⟩ = some (.slice A0 l0.length c0) := (blk_cell hbp 0).trans rfl
  have hcz1 : w.cell? ⟨Bp, 1, none⟩ = some (.slice A1 l1.length c1) := (blk_cell hbp 1).trans rfl
  have hcz2 : w.cell? ⟨Bp, 2, none⟩ = some (.int .i64 a2) := (blk_cell hbp 2).trans rfl
  clear hr0 hr1 hba hbb hbf hbp
  cases f with
  | false =>
    have hff := blk_frozen HBF.out 0
    have hfa := blk_frozen HBA.out 0
    have hfb := blk_frozen HBB.out 0
    rw [if_neg (by simp)] at h
    obtain rfl := Option.some.inj h
    clear h
    go_enter Try.func60, Try.ntmps60
    go_upto_region 0 with fail
    refine start_ (n := 13) (S := fun w' => w'.cell? ⟨Bf, 0, none⟩ = some (.bool false)) (ds := []) #[false, false, false, false, false, false, false, false, false, false, false, false, false] (by kernel_rfl) rfl rfl hzf (fun hHeld => ?_)
    refine take_ (i := 0) (N := some 8) (v := ?_) (a' := ?_) #[true, false, false, false, false, false, false, false, false, false, false, false, false] rfl rfl (by kernel_rfl) (fun _ _ _ h => h) (Or.inl ⟨by rfl, ?_⟩) hHeld ?_ ?_
    rotate_left
    · rintro w' s0
      go_simp
      with_reducible rfl
    rotate_left
    · simp only [Act.put, List.setIfInBounds_toArray, List.set_cons_zero, List.set_cons_succ, i64_w, i32_w]
      rfl
    refine pure_ (i := 1) (N := some 9) (v := ?_) (a' := ?_) #[true, true, false, false, false, false, false, false, false, false, false, false, false] rfl rfl (by kernel_rfl) (fun _ _ _ h => h) (Or.inl ⟨by rfl, ?_⟩) ?_ ?_
    rotate_left
    · intro w'
      go_simp
      with_reducible rfl
    rotate_left
    · simp only [Act.put, List.setIfInBounds_toArray, List.set_cons_zero, List.set_cons_succ, i64_w, i32_w]
      rfl
    refine pure_ (i := 2) (N := some 10) (v := ?_) (a' := ?_) #[true, true, true, false, false, false, false, false, false, false, false, false, false] rfl rfl (by kernel_rfl) (fun _ _ _ h => h) (Or.inl ⟨by rfl, ?_⟩) ?_ ?_
    rotate_left
    · intro w'
      go_simp
      with_reducible rfl
    rotate_left
    · simp only [Act.put, List.setIfInBounds_toArray, List.set_cons_zero, List.set_cons_succ, i64_w, i32_w]
      rfl
    refine pure_ (i := 3) (N := some 11) (v := undef) (a' := ?_) #[true, true, true, true, false, false, false, false, false, false, false, false, false] rfl rfl (by kernel_rfl) (fun _ _ _ h => h) (Or.inr ⟨by rfl, rfl⟩) ?_ ?_
    rotate_left
    · simp only [Act.put, List.setIfInBounds_toArray, List.set_cons_zero, List.set_cons_succ, i64_w, i32_w]
      rfl
    refine pure_ (i := 4) (N := some 12) (v := undef) (a' := ?_) #[true, true, true, true, true, false, false, false, false, false, false, false, false] rfl rfl (by kernel_rfl) (fun _ _ _ h => h) (Or.inr ⟨by rfl, rfl⟩) ?_ ?_
    rotate_left
    · simp only [Act.put, List.setIfInBounds_toArray, List.set_cons_zero, List.set_cons_succ, i64_w, i32_w]
      rfl
    refine pure_ (i := 5) (N := some 13) (v := undef) (a' := ?_) #[true, true, true, true, true, true, false, false, false, false, false, false, false] rfl rfl (by kernel_rfl) (fun _ _ _ h => h) (Or.inr ⟨by rfl, rfl⟩) ?_ ?_
    rotate_left
    · simp only [Act.put, List.setIfInBounds_toArray, List.set_cons_zero, List.set_cons_succ, i64_w, i32_w]
      rfl
    refine pure_ (i := 6) (N := some 14) (v := undef) (a' := ?_) #[true, true, true, true, true, true, true, false, false, false, false, false, false] rfl rfl (by kernel_rfl) (fun _ _ _ h => h) (Or.inr ⟨by rfl, rfl⟩) ?_ ?_
    rotate_left
    · simp only [Act.put, List.setIfInBounds_toArray, List.set_cons_zero, List.set_cons_succ, i64_w, i32_w]
      rfl
    refine pure_ (i := 7) (N := some 15) (v := undef) (a' := ?_) #[true, true, true, true, true, true, true, true, false, false, false, false, false] rfl rfl (by kernel_rfl) (fun _ _ _ h => h) (Or.inr ⟨by rfl, rfl⟩) ?_ ?_
    rotate_left
    · simp only [Act.put, List.setIfInBounds_toArray, List.set_cons_zero, List.set_cons_succ, i64_w, i32_w]
      rfl
    refine pure_ (i := 8) (N := some 16) (v := undef) (a' := ?_) #[true, true, true, true, true, true, true, true, true, false, false, false, false] rfl rfl (by kernel_rfl) (fun _ _ _ h => h) (Or.inr ⟨by rfl, rfl⟩) ?_ ?_
    rotate_left
    · simp only [Act.put, List.setIfInBounds_toArray, List.set_cons_zero, List.set_cons_succ, i64_w, i32_w]
      rfl
    refine pure_ (i := 9) (N := some 17) (v := undef) (a' := ?_) #[true, true, true, true, true, true, true, true, true, true, false, false, false] rfl rfl (by kernel_rfl) (fun _ _ _ h => h) (Or.inr ⟨by rfl, rfl⟩) ?_ ?_
    rotate_left
    · simp only [Act.put, List.setIfInBounds_toArray, List.set_cons_zero, List.set_cons_succ, i64_w, i32_w]
      rfl
    refine pure_ (i := 10) (N := some 18) (v := undef) (a' := ?_) #[true, true, true, true, true, true, true, true, true, true, true, false, false] rfl rfl (by kernel_rfl) (fun _ _ _ h => h) (Or.inr ⟨by rfl, rfl⟩) ?_ ?_
    rotate_left
    · simp only [Act.put, List.setIfInBounds_toArray, List.set_cons_zero, List.set_cons_succ, i64_w, i32_w]
      rfl
    refine pure_ (i := 11) (N := some 19) (v := undef) (a' := ?_) #[true, true, true, true, true, true, true, true, true, true, true, true, false] rfl rfl (by kernel_rfl) (fun _ _ _ h => h) (Or.inr ⟨by rfl, rfl⟩) ?_ ?_
    rotate_left
    · simp only [Act.put, List.setIfInBounds_toArray, List.set_cons_zero, List.set_cons_succ, i64_w, i32_w]
      rfl
    refine pure_ (i := 12) (N := some 20) (v := ?_) (a' := ?_) #[true, true, true, true, true, true, true, true, true, true, true, true, true] rfl rfl (by kernel_rfl) (fun _ _ _ h => h) (Or.inl ⟨by rfl, ?_⟩) ?_ ?_
    rotate_left
    · intro w'
      go_simp
      with_reducible rfl
    rotate_left
    · simp only [Act.put, List.setIfInBounds_toArray, List.set_cons_zero, List.set_cons_succ, i64_w, i32_w]
      rfl
    refine done_ (by kernel_rfl) ?_
    go_wp2
    go_end0
    refine ⟨rfl, ?_, ?_, ?_, ?_, ?_⟩
    · exact blk_far (blk_far (blk_set (blk_drew HBA.out) 0 (.int .i64 i)) hab _) haf _
    · exact blk_far (blk_set (blk_far (blk_drew HBB.out) (Ne.symm hab) _) 0 (.int .i64 j)) hbf2 _
    · exact blk_set (blk_far (blk_far (blk_drew HBF.out) (Ne.symm haf) _) (Ne.symm hbf2) _) 0 (.bool true)
    · exact ((((Kept.refl w _).drew).setCell (.inl (.inl rfl)) _).setCell (.inl (.inr (.inl rfl))) _).setCell (.inl (.inr (.inr rfl))) _
    · exact fun u hu h1 h2 h3 => below_set (below_set (below_set (below_drew hu) h1) h2) h3
  | true =>
    rw [if_pos rfl] at h
    obtain ⟨x, hx, h⟩ := Option.bind_eq_some_iff.mp h
    obtain ⟨y, hy, h⟩ := Option.bind_eq_some_iff.mp h
    have HX := Aside0.mk hx
    have HY := Aside0.mk hy
    clear hx hy
    have hS := Option.some.inj h
    clear h
    go_enter Try.func60, Try.ntmps60
    go_upto_region 0 with fail
    refine start_ (n := 13) (S := fun w' => w'.cell? ⟨Bf, 0, none⟩ = some (.bool true) ∧ w'.cell? ⟨Ba, 0, none⟩ = some (.int .i64 a) ∧ w'.cell? ⟨Bb, 0, none⟩ = some (.int .i64 b) ∧ w'.cell? ⟨Bp, 0, none⟩ = some (.slice A0 l0.length c0) ∧ w'.cell? ⟨Bp, 1, none⟩ = some (.slice A1 l1.length c1) ∧ w'.cell? ⟨Bp, 2, none⟩ = some (.int .i64 a2)) (ds := []) #[false, false, false, false, false, false, false, false, false, false, false, false, false] (by kernel_rfl) rfl rfl ⟨hzf, hza, hzb, hcz0, hcz1, hcz2⟩ (fun hHeld => ?_)
    refine take_ (i := 0) (N := some 8) (v := ?_) (a' := ?_) #[true, false, false, false, false, false, false, false, false, false, false, false, false] rfl rfl (by kernel_rfl) (fun _ _ _ h => h) (Or.inl ⟨by rfl, ?_⟩) hHeld ?_ ?_
    rotate_left
    · rintro w' ⟨s0, s1, s2, s3, s4, s5⟩
      go_simp
      with_reducible rfl
    rotate_left
    · simp only [Act.put, List.setIfInBounds_toArray, List.set_cons_zero, List.set_cons_succ, i64_w, i32_w]
      rfl
    refine pure_ (i := 1) (N := some 9) (v := ?_) (a' := ?_) #[true, true, false, false, false, false, false, false, false, false, false, false, false] rfl rfl (by kernel_rfl) (fun _ _ _ h => h) (Or.inl ⟨by rfl, ?_⟩) ?_ ?_
    rotate_left
    · intro w'
      go_simp
      with_reducible rfl
    rotate_left
    · simp only [Act.put, List.setIfInBounds_toArray, List.set_cons_zero, List.set_cons_succ, i64_w, i32_w]
      rfl
    refine pure_ (i := 2) (N := some 10) (v := ?_) (a' := ?_) #[true, true, true, false, false, false, false, false, false, false, false, false, false] rfl rfl (by kernel_rfl) (fun _ _ _ h => h) (Or.inl ⟨by rfl, ?_⟩) ?_ ?_
    rotate_left
    · intro w'
      go_simp
      with_reducible rfl
    rotate_left
    · simp only [Act.put, List.setIfInBounds_toArray, List.set_cons_zero, List.set_cons_succ, i64_w, i32_w]
      rfl
    refine take_ (i := 3) (N := some 11) (v := ?_) (a' := ?_) #[true, true, true, true, false, false, false, false, false, false, false, false, false] rfl rfl (by kernel_rfl) (fun _ _ _ h => h) (Or.inl ⟨by rfl, ?_⟩) hHeld ?_ ?_
    rotate_left
    · rintro w' ⟨s0, s1, s2, s3, s4, s5⟩
      go_simp
      with_reducible rfl
    rotate_left
    · simp only [Act.put, List.setIfInBounds_toArray, List.set_cons_zero, List.set_cons_succ, i64_w, i32_w]
      rfl
    refine pure_ (i := 4) (N := some 12) (v := ?_) (a' := ?_) #[true, true, true, true, true, false, false, false, false, false, false, false, false] rfl rfl (by kernel_rfl) (fun _ _ _ h => h) (Or.inl ⟨by rfl, ?_⟩) ?_ ?_
    rotate_left
    · intro w'
      go_simp
      with_reducible rfl
    rotate_left
    · simp only [Act.put, List.setIfInBounds_toArray, List.set_cons_zero, List.set_cons_succ, i64_w, i32_w]
      rfl
    refine pure_ (i := 5) (N := some 13) (v := ?_) (a' := ?_) #[true, true, true, true, true, true, false, false, false, false, false, false, false] rfl rfl (by kernel_rfl) (fun _ _ _ h => h) (Or.inl ⟨by rfl, ?_⟩) ?_ ?_
    rotate_left
    · intro w'
      go_simp
      with_reducible rfl
    rotate_left
    · simp only [Act.put, List.setIfInBounds_toArray, List.set_cons_zero, List.set_cons_succ, i64_w, i32_w]
      rfl
    refine take_ (i := 7) (N := some 15) (v := ?_) (a' := ?_) #[true, true, true, true, true, true, false, true, false, false, false, false, false] rfl rfl (by kernel_rfl) (fun _ _ _ h => h) (Or.inl ⟨by rfl, ?_⟩) hHeld ?_ ?_
    rotate_left
    · rintro w' ⟨s0, s1, s2, s3, s4, s5⟩
      go_simp
      with_reducible rfl
    rotate_left
    · simp only [Act.put, List.setIfInBounds_toArray, List.set_cons_zero, List.set_cons_succ, i64_w, i32_w]
      rfl
    refine take_ (i := 8) (N := some 16) (v := ?_) (a' := ?_) #[true, true, true, true, true, true, false, true, true, false, false, false, false] rfl rfl (by kernel_rfl) (fun _ _ _ h => h) (Or.inl ⟨by rfl, ?_⟩) hHeld ?_ ?_
    rotate_left
    · rintro w' ⟨s0, s1, s2, s3, s4, s5⟩
      go_simp
      with_reducible rfl
    rotate_left
    · simp only [Act.put, List.setIfInBounds_toArray, List.set_cons_zero, List.set_cons_succ, i64_w, i32_w]
      rfl
    refine take_ (i := 9) (N := some 17) (v := ?_) (a' := ?_) #[true, true, true, true, true, true, false, true, true, true, false, false, false] rfl rfl (by kernel_rfl) (fun _ _ _ h => h) (Or.inl ⟨by rfl, ?_⟩) hHeld ?_ ?_
    rotate_left
    · rintro w' ⟨s0, s1, s2, s3, s4, s5⟩
      go_simp
      with_reducible rfl
    rotate_left
    · simp only [Act.put, List.setIfInBounds_toArray, List.set_cons_zero, List.set_cons_succ, i64_w, i32_w]
      rfl
    refine one_ (i := 6) (N := some 14) #[true, true, true, true, true, true, true, true, true, true, false, false, false] rfl rfl (by kernel_rfl) (by decide) (fun K hK => ?_)
    refine goes_ Try.func57 (by kernel_rfl) rfl #[.agg #[.slice A0 l0.length c0, .slice A1 l1.length c1, .int .i64 a2], .int .i64 i, .int .i64 j] (by rfl) rfl rfl (by (try simp only [List.map_toArray, List.map_cons, List.map_nil]); first | done | rfl) ?_
    refine (impl_plan_buffer.calls A0 c0 l0 A1 c1 l1 a2 i j x _ (Kd.C_drew HR0.out) hc0 (Kd.C_drew HR1.out) hc1 HX.out).mono ?_
    rintro e w1 ⟨rfl, hb1⟩
    refine ⟨_, rfl, ?_⟩
    have HB1 := Aside0.mk (below_step (below_drew (Below.refl _ _)) hb1 : Below w.heap.size w w1)
    refine hK.out _ _ ⟨pw_cell_below HB1.out hzf, pw_cell_below HB1.out hza, pw_cell_below HB1.out hzb, pw_cell_below HB1.out hcz0, pw_cell_below HB1.out hcz1, pw_cell_below HB1.out hcz2⟩ (fun hHeld => ?_)
    clear hK K hb1
    refine norm_ (a' := ?_) ?_ ?_
    rotate_left
    · simp only [Act.put, List.setIfInBounds_toArray, List.set_cons_zero, List.set_cons_succ, i64_w, i32_w]
      rfl
    refine one_ (i := 10) (N := some 18) #[true, true, true, true, true, true, true, true, true, true, true, false, false] rfl rfl (by kernel_rfl) (by decide) (fun K hK => ?_)
    refine goes_ Try.func57 (by kernel_rfl) rfl #[.agg #[.slice A0 l0.length c0, .slice A1 l1.length c1, .int .i64 a2], .int .i64 a, .int .i64 b] (by rfl) rfl rfl (by (try simp only [List.map_toArray, List.map_cons, List.map_nil]); first | done | rfl) ?_
    refine (impl_plan_buffer.calls A0 c0 l0 A1 c1 l1 a2 a b y _ (Kd.C_below HR0.out HB1.out) hc0 (Kd.C_below HR1.out HB1.out) hc1 HY.out).mono ?_
    rintro e w2 ⟨rfl, hb2⟩
    refine ⟨_, rfl, ?_⟩
    have HB2 := Aside0.mk (below_step HB1.out hb2 : Below w.heap.size w w2)
    have hzf2 := pw_cell_below HB2.out hzf
    have hza2 := pw_cell_below HB2.out hza
    have hzb2 := pw_cell_below HB2.out hzb
    have hff2 := blk_frozen (blk_below HBF.out HB2.out) 0
    have hfa2 := blk_frozen (blk_below HBA.out HB2.out) 0
    have hfb2 := blk_frozen (blk_below HBB.out HB2.out) 0
    refine hK.out _ _ ⟨hzf2, hza2, hzb2, pw_cell_below HB2.out hcz0, pw_cell_below HB2.out hcz1, pw_cell_below HB2.out hcz2⟩ (fun hHeld => ?_)
    clear hK K hb2
    refine norm_ (a' := ?_) ?_ ?_
    rotate_left
    · simp only [Act.put, List.setIfInBounds_toArray, List.set_cons_zero, List.set_cons_succ, i64_w, i32_w]
      rfl
    refine pure_ (i := 11) (N := some 19) (v := ?_) (a' := ?_) #[true, true, true, true, true, true, true, true, true, true, true, true, false] rfl rfl (by kernel_rfl) (fun _ _ _ h => h) (Or.inl ⟨by rfl, ?_⟩) ?_ ?_
    rotate_left
    · intro w'
      go_simp
      with_reducible rfl
    rotate_left
    · simp only [Act.put, List.setIfInBounds_toArray, List.set_cons_zero, List.set_cons_succ, i64_w, i32_w]
      rfl
    refine pure_ (i := 12) (N := some 20) (v := ?_) (a' := ?_) #[true, true, true, true, true, true, true, true, true, true, true, true, true] rfl rfl (by kernel_rfl) (fun _ _ _ h => h) (Or.inl ⟨by rfl, ?_⟩) ?_ ?_
    rotate_left
    · intro w'
      go_simp
      with_reducible rfl
    rotate_left
    · simp only [Act.put, List.setIfInBounds_toArray, List.set_cons_zero, List.set_cons_succ, i64_w, i32_w]
      rfl
    refine done_ (by kernel_rfl) ?_
    by_cases hxy : x < y
    · rw [if_pos hxy] at hS
      subst hS
      have hd := decide_eq_true hxy
      go_wp2
      go_end0
      refine ⟨rfl, ?_, ?_, ?_, ?_, ?_⟩
      · exact blk_far (blk_far (blk_set (blk_below HBA.out HB2.out) 0 (.int .i64 i)) hab _) haf _
      · exact blk_far (blk_set (blk_far (blk_below HBB.out HB2.out) (Ne.symm hab) _) 0 (.int .i64 j)) hbf2 _
      · exact blk_set (blk_far (blk_far (blk_below HBF.out HB2.out) (Ne.symm haf) _) (Ne.symm hbf2) _) 0 (.bool true)
      · exact (((Kept.of_below HB2.out _).setCell (.inl (.inl rfl)) _).setCell (.inl (.inr (.inl rfl))) _).setCell (.inl (.inr (.inr rfl))) _
      · exact fun u hu h1 h2 h3 => below_set (below_set (below_set (below_then hu hu.size (below_weaken (Below.refl _ _) (Nat.le_refl _) HB2.out)) h1) h2) h3
    · rw [if_neg hxy] at hS
      subst hS
      have hd := decide_eq_false hxy
      go_wp2
      go_end0
      exact ⟨rfl, blk_below HBA.out HB2.out, blk_below HBB.out HB2.out, blk_below HBF.out HB2.out, Kept.of_below HB2.out _, fun u hu h1 h2 h3 => below_then hu hu.size (below_weaken (Below.refl _ _) (Nat.le_refl _) HB2.out)⟩
/-- What the visits keep: the rows that came in, the variables. -/
def impl_LeastBuffer.Keeps (w w1 : World) (A0 : Option Addr) (c0 : Nat) (l0 : List (List Int)) (A1 : Option Addr) (c1 : Nat) (l1 : List Int) (a2 : Int) (s : Int × Int × Bool) (W : World) : Prop :=
  Kd.F (Kd.slice 3 (Kd.int .i64)) W (fun k => k < w1.heap.size) A0 l0.length l0 ∧ Kd.F (Kd.int .i64) W (fun k => k < w1.heap.size) A1 l1.length l1 ∧
  W.heap[w1.heap.size]? = some (.cells #[.slice A0 l0.length c0, .slice A1 l1.length c1, .int .i64 a2] 63 (0, 0)) ∧ W.heap[w1.heap.size + 1]? = some (.cells #[.int .i64 s.1] 3 (0, 0)) ∧ W.heap[w1.heap.size + 2]? = some (.cells #[.int .i64 s.2.1] 3 (0, 0)) ∧ W.heap[w1.heap.size + 3]? = some (.cells #[.bool s.2.2] 4 (0, 0)) ∧ Below w.heap.size w W
def impl_LeastBuffer.f (k : Nat) (l0 : List (List Int)) (l1 : List Int) (a2 : Int) : Option (Int × Int × Int × Bool) := (impl_planOf.f k l0 l1 a2).bind fun bt => if bt.2.2.2 = true then (impl_plan_next.all (fun i j => impl_plan_waits.f bt.1 bt.2.1 bt.2.2.1 i j) (fun s i j => impl_LeastBuffer.step bt.1 bt.2.1 bt.2.2.1 s i j) bt.1.length bt.1.length 0 (0, 0, false)).bind fun s => (impl_plan_buffer.f bt.1 bt.2.1 bt.2.2.1 s.1 s.2.1).bind fun x => some (s.1, s.2.1, x, true) else some (0, 0, 0, false)
theorem impl_LeastBuffer.mono : ∀ a0 a1 a2 k, LeO (impl_LeastBuffer.f k a0 a1 a2) (impl_LeastBuffer.f (k + 1) a0 a1 a2) := fun a0 a1 a2 k => LeO.bind (impl_planOf.mono a0 a1 a2 k) fun _ => LeO.refl _
set_option maxHeartbeats 8000000 in
set_option maxRecDepth 100000 in
theorem impl_LeastBuffer.calls (k : Nat) (A0 : Option Addr) (c0 : Nat) (l0 : List (List Int)) (A1 : Option Addr) (c1 : Nat) (l1 : List Int) (a2 : Int) (r1 : Int) (r2 : Int) (r3 : Int) (r4 : Bool) (w : World) (hr0 : Kd.C (Kd.slice 3 (Kd.int .i64)) w A0 l0.length l0) (hc0 : l0.length ≤ c0) (hr1 : Kd.C (Kd.int .i64) w A1 l1.length l1) (hc1 : l1.length ≤ c1) (h : impl_LeastBuffer.f k l0 l1 a2 = some (r1, r2, r3, r4)) :
    Calls Try.prog 24 #[.slice A0 l0.length c0, .slice A1 l1.length c1, .int .i64 a2] w fun e w' => e = .returned (.tuple #[.int .i64 r1, .int .i64 r2, .int .i64 r3, .bool r4]) ∧ Below w.heap.size w w' := by
  obtain ⟨⟨t1, t2, t3, t4⟩, hp, h⟩ := Option.bind_eq_some_iff.mp h
  dsimp only at h
  have HR0 := Aside0.mk hr0
  have HR1 := Aside0.mk hr1
  have HP := Aside0.mk hp
  have H := Aside0.mk h
  clear hr0 hr1 hp h
  go_enter Try.func24, Try.ntmps24
  go_wp2_with fail
  refine (impl_planOf.calls k (fun k_ => k_ < w.heap.size) A0 c0 l0 (fun k_ => k_ < w.heap.size) A1 c1 l1 a2 t1 t2 t3 t4 _ (Kd.V_mk hc0 (Kd.C_F (Kd.heap_slice 3 (Kd.heap_int .i64)) HR0.out)) (Kd.V_mk hc1 (Kd.C_F (Kd.heap_int .i64) HR1.out)) HP.out).mono ?_
  rintro e w1 ⟨v0, v1, rfl, ho0, ho1, hb⟩
  obtain ⟨Ap, cp, ev⟩ := Kd.V_slice ho0
  subst ev
  obtain ⟨Aq, cq, ev⟩ := Kd.V_slice ho1
  subst ev
  have HO0 := Aside0.mk (Kd.V_mono (Kd.V_bound ho0) (fun k hk => hk.2) : Kd.V _ _ w1 _ (fun k => k < w1.heap.size) _ _)
  have HO1 := Aside0.mk (Kd.V_mono (Kd.V_bound ho1) (fun k hk => hk.2) : Kd.V _ _ w1 _ (fun k => k < w1.heap.size) _ _)
  have HB := Aside0.mk hb
  clear ho0 ho1 hb
  cases t4 with
  | false =>
    have h := H.out
    rw [if_neg (by simp)] at h
    injection h with h
    injection h with h1 h
    injection h with h2 h
    injection h with h3 h4
    subst h1 h2 h3 h4
    go_wp2
    refine bodyPost_ret (results_list (rs := [.tmp 6, .tmp 7, .tmp 8, .tmp 9]) rfl (by simp) (.tmp (.tmp (.tmp (.tmp .nil))))) rfl ?_
    exact ⟨by first | rfl | (simp; done), below_alloc HB.out _⟩
  | true =>
    have h := H.out
    rw [if_pos rfl] at h
    obtain ⟨s, hs, h⟩ := Option.bind_eq_some_iff.mp h
    obtain ⟨x, hx, h⟩ := Option.bind_eq_some_iff.mp h
    injection h with h
    injection h with h1 h
    injection h with h2 h
    injection h with h3 h4
    subst h1 h2 h3 h4
    have HS := Aside0.mk hs
    have HX := Aside0.mk hx
    clear hs hx H
    go_upto_region 5 with fail
    have BP := blk_alloc (blk_alloc (blk_alloc (blk_new w1 (Obj.cells #[.slice Ap t1.length cp, .slice Aq t2.length cq, .int .i64 t3] 63 (0, 0))) (Obj.cells #[.int .i64 0] 3 (0, 0))) (Obj.cells #[.int .i64 0] 3 (0, 0))) (Obj.cells #[.bool false] 4 (0, 0))
    have BA := blk_alloc (blk_alloc (blk_new (w1.alloc (Obj.cells #[.slice Ap t1.length cp, .slice Aq t2.length cq, .int .i64 t3] 63 (0, 0))) (Obj.cells #[.int .i64 0] 3 (0, 0))) (Obj.cells #[.int .i64 0] 3 (0, 0))) (Obj.cells #[.bool false] 4 (0, 0))
    have BB := blk_alloc (blk_new ((w1.alloc (Obj.cells #[.slice Ap t1.length cp, .slice Aq t2.length cq, .int .i64 t3] 63 (0, 0))).alloc (Obj.cells #[.int .i64 0] 3 (0, 0))) (Obj.cells #[.int .i64 0] 3 (0, 0))) (Obj.cells #[.bool false] 4 (0, 0))
    have BF := blk_new (((w1.alloc (Obj.cells #[.slice Ap t1.length cp, .slice Aq t2.length cq, .int .i64 t3] 63 (0, 0))).alloc (Obj.cells #[.int .i64 0] 3 (0, 0))).alloc (Obj.cells #[.int .i64 0] 3 (0, 0))) (Obj.cells #[.bool false] 4 (0, 0))
    have hB5 := below_alloc (below_alloc (below_alloc (below_alloc HB.out (Obj.cells #[.slice Ap t1.length cp, .slice Aq t2.length cq, .int .i64 t3] 63 (0, 0))) (Obj.cells #[.int .i64 0] 3 (0, 0))) (Obj.cells #[.int .i64 0] 3 (0, 0))) (Obj.cells #[.bool false] 4 (0, 0))
    have hF0 := Kd.F_alloc (Kd.F_alloc (Kd.F_alloc (Kd.F_alloc (Kd.V_F HO0.out) (Obj.cells #[.slice Ap t1.length cp, .slice Aq t2.length cq, .int .i64 t3] 63 (0, 0))) (Obj.cells #[.int .i64 0] 3 (0, 0))) (Obj.cells #[.int .i64 0] 3 (0, 0))) (Obj.cells #[.bool false] 4 (0, 0))
    have hF1 := Kd.F_alloc (Kd.F_alloc (Kd.F_alloc (Kd.F_alloc (Kd.V_F HO1.out) (Obj.cells #[.slice Ap t1.length cp, .slice Aq t2.length cq, .int .i64 t3] 63 (0, 0))) (Obj.cells #[.int .i64 0] 3 (0, 0))) (Obj.cells #[.int .i64 0] 3 (0, 0))) (Obj.cells #[.bool false] 4 (0, 0))
    have e1 : (w1.alloc (Obj.cells #[.slice Ap t1.length cp, .slice Aq t2.length cq, .int .i64 t3] 63 (0, 0))).heap.size = w1.heap.size + 1 := by simp [World.alloc_eq]
    have e2 : ((w1.alloc (Obj.cells #[.slice Ap t1.length cp, .slice Aq t2.length cq, .int .i64 t3] 63 (0, 0))).alloc (Obj.cells #[.int .i64 0] 3 (0, 0))).heap.size = w1.heap.size + 2 := by simp [World.alloc_eq]
    have e3 : (((w1.alloc (Obj.cells #[.slice Ap t1.length cp, .slice Aq t2.length cq, .int .i64 t3] 63 (0, 0))).alloc (Obj.cells #[.int .i64 0] 3 (0, 0))).alloc (Obj.cells #[.int .i64 0] 3 (0, 0))).heap.size = w1.heap.size + 3 := by simp [World.alloc_eq]
    rw [e1] at BA
    rw [e2] at BB
    rw [e3] at BF
    clear e1 e2 e3
    generalize (((w1.alloc (Obj.cells #[.slice Ap t1.length cp, .slice Aq t2.length cq, .int .i64 t3] 63 (0, 0))).alloc (Obj.cells #[.int .i64 0] 3 (0, 0))).alloc (Obj.cells #[.int .i64 0] 3 (0, 0))).alloc (Obj.cells #[.bool false] 4 (0, 0)) = w5 at BP BA BB BF hB5 hF0 hF1 ⊢
    have hsz := HB.out.size
    have hlt5 := blk_lt BF
    have hcp := (Kd.V_reads' HO0.out).2.1
    have hcq := (Kd.V_reads' HO1.out).2.1
    have hm : t1.length ≤ 9223372036854775807 := (Kd.V_reads' HO0.out).2.2.2.1
    have eg : ∀ args w, (callFunc 60 args).run Try.prog w = .ok (.enter 60 args) w := Ext.entersOf Try.func60 (by kernel_rfl) rfl
    have HE := Aside0.mk (impl_plan_next.each 60 #[.pointer (some ⟨w1.heap.size + 1 + 1 + 1, 0, none⟩), .pointer (some ⟨w1.heap.size, 0, none⟩), .pointer (some ⟨w1.heap.size + 1, 0, none⟩), .pointer (some ⟨w1.heap.size + 1 + 1, 0, none⟩)] eg Ap cp t1 Aq cq t2 t3 hcp hcq hm (fun s i j => impl_LeastBuffer.step t1 t2 t3 s i j) (fun s W => impl_LeastBuffer.Keeps w w1 Ap cp t1 Aq cq t2 t3 s W) (fun k => k = w1.heap.size + 1 ∨ k = w1.heap.size + 2 ∨ k = w1.heap.size + 3) w5
      (by omega)
      (fun s W h => ⟨Kd.F_now h.1, Kd.F_now h.2.1⟩)
      (fun s W W' h hW => ⟨Kd.F_below h.1 hW, Kd.F_below h.2.1 hW, blk_below h.2.2.1 hW, blk_below h.2.2.2.1 hW, blk_below h.2.2.2.2.1 hW, blk_below h.2.2.2.2.2.1 hW, below_step h.2.2.2.2.2.2 hW⟩)
      (fun s s' i j W hi hj _ h hs => by
        refine (impl_LeastBuffer.visit Ap cp t1 Aq cq t2 t3 s s' (w1.heap.size + 1) (w1.heap.size + 2) (w1.heap.size + 3) w1.heap.size (i : Int) (j : Int) W (Kd.F_now h.1) hcp (Kd.F_now h.2.1) hcq h.2.2.2.1 h.2.2.2.2.1 h.2.2.2.2.2.1 h.2.2.1 (by omega) (by omega) (by omega) hs).mono ?_
        rintro e W' ⟨rfl, ha, hb, hf, hk, hbw⟩
        exact ⟨rfl, ⟨Kd.F_kept h.1 hk (fun k h1 h2 => by omega), Kd.F_kept h.2.1 hk (fun k h1 h2 => by omega), blk_kept h.2.2.1 hk (fun h2 => by omega), ha, hb, hf, hbw w h.2.2.2.2.2.2 (by omega) (by omega) (by omega)⟩, hk⟩)
      (0, 0, false) s ⟨hF0, hF1, BP, BA, BB, BF, hB5⟩ HS.out)
    have hcz0 : w5.cell? ⟨w1.heap.size, 0, none⟩ = some (.slice Ap t1.length cp) := (blk_cell BP 0).trans rfl
    have hcz1 : w5.cell? ⟨w1.heap.size, 1, none⟩ = some (.slice Aq t2.length cq) := (blk_cell BP 1).trans rfl
    have hcz2 : w5.cell? ⟨w1.heap.size, 2, none⟩ = some (.int .i64 t3) := (blk_cell BP 2).trans rfl
    have hmf : ∀ (fn : Fn) (first cap : Array Value) (w : World), (Instr.makeFunc fn first cap).run Try.prog w = .ok (.func fn first cap) w := fun _ _ _ _ => rfl
    have HCP := Aside0.mk hcp
    have HCQ := Aside0.mk hcq
    clear BP BA BB BF hF0 hF1 eg hB5 hlt5 hsz hcp hcq
    go_wp2_with fail
    refine HE.out.mono ?_
    rintro e w6 ⟨rfl, hr6, _⟩
    have H6 := Aside0.mk hr6
    clear hr6 hcz0 hcz1 hcz2 HE
    go_upto_region 6 with fail
    have hz0 : w6.cell? ⟨w1.heap.size, 0, none⟩ = some (.slice Ap t1.length cp) := (blk_cell H6.out.2.2.1 0).trans rfl
    have hz1 : w6.cell? ⟨w1.heap.size, 1, none⟩ = some (.slice Aq t2.length cq) := (blk_cell H6.out.2.2.1 1).trans rfl
    have hz2 : w6.cell? ⟨w1.heap.size, 2, none⟩ = some (.int .i64 t3) := (blk_cell H6.out.2.2.1 2).trans rfl
    have hza : w6.cell? ⟨w1.heap.size + 1, 0, none⟩ = some (.int .i64 s.1) := (blk_cell H6.out.2.2.2.1 0).trans rfl
    have hzb : w6.cell? ⟨w1.heap.size + 1 + 1, 0, none⟩ = some (.int .i64 s.2.1) := (blk_cell H6.out.2.2.2.2.1 0).trans rfl
    refine start_ (n := 10) (S := fun w' => w'.cell? ⟨w1.heap.size, 0, none⟩ = some (.slice Ap t1.length cp) ∧ w'.cell? ⟨w1.heap.size, 1, none⟩ = some (.slice Aq t2.length cq) ∧ w'.cell? ⟨w1.heap.size, 2, none⟩ = some (.int .i64 t3) ∧ w'.cell? ⟨w1.heap.size + 1, 0, none⟩ = some (.int .i64 s.1) ∧ w'.cell? ⟨w1.heap.size + 1 + 1, 0, none⟩ = some (.int .i64 s.2.1)) (ds := []) #[false, false, false, false, false, false, false, false, false, false] (by kernel_rfl) rfl rfl ⟨hz0, hz1, hz2, hza, hzb⟩ (fun hHeld => ?_)
    refine take_ (i := 0) (N := some 27) (v := ?_) (a' := ?_) #[true, false, false, false, false, false, false, false, false, false] rfl rfl (by kernel_rfl) (fun _ _ _ h => h) (Or.inl ⟨by rfl, ?_⟩) hHeld ?_ ?_
    rotate_left
    · rintro w' ⟨s0, s1, s2, s3, s4⟩
      go_simp
      with_reducible rfl
    rotate_left
    · simp only [Act.put, List.setIfInBounds_toArray, List.set_cons_zero, List.set_cons_succ, i64_w, i32_w]
      rfl
    refine take_ (i := 1) (N := some 28) (v := ?_) (a' := ?_) #[true, true, false, false, false, false, false, false, false, false] rfl rfl (by kernel_rfl) (fun _ _ _ h => h) (Or.inl ⟨by rfl, ?_⟩) hHeld ?_ ?_
    rotate_left
    · rintro w' ⟨s0, s1, s2, s3, s4⟩
      go_simp
      with_reducible rfl
    rotate_left
    · simp only [Act.put, List.setIfInBounds_toArray, List.set_cons_zero, List.set_cons_succ, i64_w, i32_w]
      rfl
    refine take_ (i := 2) (N := some 29) (v := ?_) (a' := ?_) #[true, true, true, false, false, false, false, false, false, false] rfl rfl (by kernel_rfl) (fun _ _ _ h => h) (Or.inl ⟨by rfl, ?_⟩) hHeld ?_ ?_
    rotate_left
    · rintro w' ⟨s0, s1, s2, s3, s4⟩
      go_simp
      with_reducible rfl
    rotate_left
    · simp only [Act.put, List.setIfInBounds_toArray, List.set_cons_zero, List.set_cons_succ, i64_w, i32_w]
      rfl
    refine take_ (i := 3) (N := some 30) (v := ?_) (a' := ?_) #[true, true, true, true, false, false, false, false, false, false] rfl rfl (by kernel_rfl) (fun _ _ _ h => h) (Or.inl ⟨by rfl, ?_⟩) hHeld ?_ ?_
    rotate_left
    · rintro w' ⟨s0, s1, s2, s3, s4⟩
      go_simp
      with_reducible rfl
    rotate_left
    · simp only [Act.put, List.setIfInBounds_toArray, List.set_cons_zero, List.set_cons_succ, i64_w, i32_w]
      rfl
    refine take_ (i := 4) (N := some 31) (v := ?_) (a' := ?_) #[true, true, true, true, true, false, false, false, false, false] rfl rfl (by kernel_rfl) (fun _ _ _ h => h) (Or.inl ⟨by rfl, ?_⟩) hHeld ?_ ?_
    rotate_left
    · rintro w' ⟨s0, s1, s2, s3, s4⟩
      go_simp
      with_reducible rfl
    rotate_left
    · simp only [Act.put, List.setIfInBounds_toArray, List.set_cons_zero, List.set_cons_succ, i64_w, i32_w]
      rfl
    refine one_ (i := 5) (N := some 32) #[true, true, true, true, true, true, false, false, false, false] rfl rfl (by kernel_rfl) (by decide) (fun K hK => ?_)
    refine goes_ Try.func57 (by kernel_rfl) rfl #[.agg #[.slice Ap t1.length cp, .slice Aq t2.length cq, .int .i64 t3], .int .i64 s.1, .int .i64 s.2.1] (by rfl) rfl rfl (by (try simp only [List.map_toArray, List.map_cons, List.map_nil]); first | done | rfl) ?_
    refine (impl_plan_buffer.calls Ap cp t1 Aq cq t2 t3 s.1 s.2.1 x _ (Kd.C_drew (Kd.F_now H6.out.1)) HCP.out (Kd.C_drew (Kd.F_now H6.out.2.1)) HCQ.out HX.out).mono ?_
    rintro e w7 ⟨rfl, hb7⟩
    refine ⟨_, rfl, ?_⟩
    have HB7 := Aside0.mk (below_step (below_drew (Below.refl _ _)) hb7 : Below w6.heap.size w6 w7)
    refine hK.out _ _ ⟨pw_cell_below HB7.out hz0, pw_cell_below HB7.out hz1, pw_cell_below HB7.out hz2, pw_cell_below HB7.out hza, pw_cell_below HB7.out hzb⟩ (fun hHeld => ?_)
    clear hK K hb7
    refine norm_ (a' := ?_) ?_ ?_
    rotate_left
    · simp only [Act.put, List.setIfInBounds_toArray, List.set_cons_zero, List.set_cons_succ, i64_w, i32_w]
      rfl
    refine pure_ (i := 6) (N := some 6) (v := ?_) (a' := ?_) #[true, true, true, true, true, true, true, false, false, false] rfl rfl (by kernel_rfl) (fun _ _ _ h => h) (Or.inl ⟨by rfl, ?_⟩) ?_ ?_
    rotate_left
    · intro w'
      go_simp
      with_reducible rfl
    rotate_left
    · simp only [Act.put, List.setIfInBounds_toArray, List.set_cons_zero, List.set_cons_succ, i64_w, i32_w]
      rfl
    refine pure_ (i := 7) (N := some 7) (v := ?_) (a' := ?_) #[true, true, true, true, true, true, true, true, false, false] rfl rfl (by kernel_rfl) (fun _ _ _ h => h) (Or.inl ⟨by rfl, ?_⟩) ?_ ?_
    rotate_left
    · intro w'
      go_simp
      with_reducible rfl
    rotate_left
    · simp only [Act.put, List.setIfInBounds_toArray, List.set_cons_zero, List.set_cons_succ, i64_w, i32_w]
      rfl
    refine pure_ (i := 8) (N := some 8) (v := ?_) (a' := ?_) #[true, true, true, true, true, true, true, true, true, false] rfl rfl (by kernel_rfl) (fun _ _ _ h => h) (Or.inl ⟨by rfl, ?_⟩) ?_ ?_
    rotate_left
    · intro w'
      go_simp
      with_reducible rfl
    rotate_left
    · simp only [Act.put, List.setIfInBounds_toArray, List.set_cons_zero, List.set_cons_succ, i64_w, i32_w]
      rfl
    refine pure_ (i := 9) (N := some 9) (v := ?_) (a' := ?_) #[true, true, true, true, true, true, true, true, true, true] rfl rfl (by kernel_rfl) (fun _ _ _ h => h) (Or.inl ⟨by rfl, ?_⟩) ?_ ?_
    rotate_left
    · intro w'
      go_simp
      with_reducible rfl
    rotate_left
    · simp only [Act.put, List.setIfInBounds_toArray, List.set_cons_zero, List.set_cons_succ, i64_w, i32_w]
      rfl
    refine done_ (by kernel_rfl) ?_
    go_wp2
    refine bodyPost_ret (results_list (rs := [.tmp 6, .tmp 7, .tmp 8, .tmp 9]) rfl (by simp) (.tmp (.tmp (.tmp (.tmp .nil))))) rfl ?_
    exact ⟨by first | rfl | (simp; done), below_step H6.out.2.2.2.2.2.2 HB7.out⟩

end Go.Proofs.Ytebjiooojkhkpaa.X
