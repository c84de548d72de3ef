-- Shaken by wip/gen/shake.py out of this claim's own printed texts. Lean checks it.
import Derived.Test.YtebjiooojkhkpaaZFnDelaysWBX0
import Derived.Test.YtebjiooojkhkpaaZFnDelaysX0
import Derived.Test.YtebjiooojkhkpaaZFnDelaysX1
import Derived.Test.YtebjiooojkhkpaaZFnDelaysX3
namespace Go.Proofs.Ytebjiooojkhkpaa.X
open Go.RowKit Go.Proofs.YtebjiooojkhkpaaW.PrintWords Go.Proofs.YtebjiooojkhkpaaW.PrintLast Go.Proofs.YtebjiooojkhkpaaW.PrintMore
attribute [local go_sem] max2_int min2_int max_two min_two max_three min_three max_four min_four   -- for this text's walks alone
set_option linter.unusedVariables false
set_option linter.unusedSimpArgs false

/-! ### impl_plan_next: function 65 -/
/-- A plan's rounds: for each train and each one that it waits for, a step. -/
def impl_plan_next.row {σ : Type} (wt : Int → Int → Option Bool) (step : σ → Int → Int → Option σ) (i : Int) : Nat → Nat → σ → Option σ
  | 0, _, s => some s
  | m + 1, j, s => (wt i (j : Int)).bind fun b => (if b = true then step s i (j : Int) else some s).bind fun s => impl_plan_next.row wt step i m (j + 1) s
def impl_plan_next.all {σ : Type} (wt : Int → Int → Option Bool) (step : σ → Int → Int → Option σ) (n : Nat) : Nat → Nat → σ → Option σ
  | 0, _, s => some s
  | m + 1, i, s => (impl_plan_next.row wt step (i : Int) n 0 s).bind fun s => impl_plan_next.all wt step n m (i + 1) s
/-- each: where every visit takes the one state to the next, so does the whole. -/
theorem impl_plan_next.each {σ : Type} (g : Nat) (lb : Array Value) (eg : ∀ args w, (callFunc g args).run Try.prog w = .ok (.enter g args) w) (A0 : Option Addr) (c0 : Nat) (l0 : List (List Int)) (A1 : Option Addr) (c1 : Nat) (l1 : List Int) (a2 : Int)
    (hc0 : l0.length ≤ c0) (hc1 : l1.length ≤ c1) (hmax : l0.length ≤ 9223372036854775807) (step : σ → Int → Int → Option σ) (R : σ → World → Prop) (S : Nat → Prop) (w : World) (hS : ¬ S w.heap.size)
    (hC : ∀ s W, R s W → Kd.C (Kd.slice 3 (Kd.int .i64)) W A0 l0.length l0 ∧ Kd.C (Kd.int .i64) W A1 l1.length l1)
    (hb : ∀ s W W', R s W → Below W.heap.size W W' → R s W')
    (hv : ∀ s s' (i j : Nat) W, i < l0.length → j < l0.length → w.heap.size < W.heap.size → R s W → step s (i : Int) (j : Int) = some s' → Calls Try.prog g (#[.int .i64 (i : Int), .int .i64 (j : Int)] ++ lb) W fun e W' => e = .returned (.tuple #[]) ∧ R s' W' ∧ Kept W W' S)
    (s0 s1 : σ) (h0 : R s0 w) (h : impl_plan_next.all (fun i j => impl_plan_waits.f l0 l1 a2 i j) step l0.length l0.length 0 s0 = some s1) :
    Calls Try.prog 59 #[.agg #[.slice A0 l0.length c0, .slice A1 l1.length c1, .int .i64 a2], .func (.func g) #[] lb] w fun e w' => e = .returned (.tuple #[]) ∧ R s1 w' ∧ Kept w w' S := by
  have HS := Aside0.mk hS
  have HC := Aside0.mk hC
  have HBR := Aside0.mk hb
  have HV := Aside0.mk hv
  have H0 := Aside0.mk (hb s0 w _ h0 (below_alloc (Below.refl _ _) (Obj.cells #[.slice A0 l0.length c0, .slice A1 l1.length c1, .int .i64 a2] 63 (0, 0))))
  have H := Aside0.mk h
  clear hS hC hb hv h0 h
  go_enter Try.func59, Try.ntmps59
  go_wp2
  go_loopg [4, 9] l0.length (fun gk v4 v9 wr => ∃ (i : Nat) (s : σ), v9 = .int .i64 (i : Int) ∧ Aside0 (i + gk = l0.length) ∧ Aside0 (impl_plan_next.all (fun i j => impl_plan_waits.f l0 l1 a2 i j) step l0.length gk i s = some s1) ∧ Aside0 (R s wr) ∧ Aside0 (Kept w wr S) ∧ Aside0 (wr.heap[w.heap.size]? = some (.cells #[.slice A0 l0.length c0, .slice A1 l1.length c1, .int .i64 a2] 63 (0, 0))))
  case atStart => exact ⟨0, s0, rfl, ⟨by omega⟩, H, H0, ⟨Kept.alloc (Kept.refl _ _) _⟩, ⟨blk_new _ _⟩⟩
  case round =>
    clear H H0
    obtain ⟨i, s, rfl, HI, HA, HR, HK, BK⟩ := hrel
    cases gk with
    | zero =>
      have hlt : decide ((i : Int) < (l0.length : Int)) = false := by have := HI.out; simp; omega
      have hltn : decide (i < l0.length) = false := by have := HI.out; simp; omega
      have e := Option.some.inj HA.out
      subst e
      go_wp2
      go_end0
      exact ⟨rfl, HR.out, HK.out⟩
    | succ gi =>
      have hlt : decide ((i : Int) < (l0.length : Int)) = true := by have := HI.out; simp; omega
      have hltn : decide (i < l0.length) = true := by have := HI.out; simp; omega
      obtain ⟨s2, h2, h3⟩ := Option.bind_eq_some_iff.mp HA.out
      have H2 := Aside0.mk h2
      have H3 := Aside0.mk h3
      clear h2 h3 HA
      have hcz0 : wr.cell? ⟨w.heap.size, 0, none⟩ = some (.slice A0 l0.length c0) := (blk_cell BK.out 0).trans rfl
      have hfz0 := blk_frozen BK.out 0
      go_wp2
      clear hcz0 hfz0
      go_loopg [5, 15] l0.length (fun gj v5 v15 wr2 => ∃ (j : Nat) (t : σ), v15 = .int .i64 (j : Int) ∧ Aside0 (j + gj = l0.length) ∧ Aside0 (impl_plan_next.row (fun i j => impl_plan_waits.f l0 l1 a2 i j) step (i : Int) gj j t = some s2) ∧ Aside0 (R t wr2) ∧ Aside0 (Kept w wr2 S) ∧ Aside0 (wr2.heap[w.heap.size]? = some (.cells #[.slice A0 l0.length c0, .slice A1 l1.length c1, .int .i64 a2] 63 (0, 0))))
      case atStart => exact ⟨0, s, rfl, ⟨by omega⟩, H2, HR, HK, BK⟩
      case round =>
        clear HR HK BK H2
        obtain ⟨j, t, rfl, HJ, HA, HR, HK, BK⟩ := hrel
        cases gk with
        | zero =>
          have hlt2 : decide ((j : Int) < (l0.length : Int)) = false := by have := HJ.out; simp; omega
          have hlt2n : decide (j < l0.length) = false := by have := HJ.out; simp; omega
          have e := Option.some.inj HA.out
          subst e
          go_wp2
          go_roundg gi
          case measure => omega
          case rel => exact ⟨i + 1, t, congrArg (Value.int .i64) (by have := HI.out; unfold wrap64; omega), ⟨by have := HI.out; omega⟩, H3, HR, HK, BK⟩
        | succ gj =>
          have hlt2 : decide ((j : Int) < (l0.length : Int)) = true := by have := HJ.out; simp; omega
          have hlt2n : decide (j < l0.length) = true := by have := HJ.out; simp; omega
          obtain ⟨b, hw, h4⟩ := Option.bind_eq_some_iff.mp HA.out
          have HW := Aside0.mk hw
          have H4 := Aside0.mk h4
          clear HA hw h4
          have hcz0 : wr.cell? ⟨w.heap.size, 0, none⟩ = some (.slice A0 l0.length c0) := (blk_cell BK.out 0).trans rfl
          have hcz1 : wr.cell? ⟨w.heap.size, 1, none⟩ = some (.slice A1 l1.length c1) := (blk_cell BK.out 1).trans rfl
          have hcz2 : wr.cell? ⟨w.heap.size, 2, none⟩ = some (.int .i64 a2) := (blk_cell BK.out 2).trans rfl
          have hfz0 := blk_frozen BK.out 0
          have hfz1 := blk_frozen BK.out 1
          have hfz2 := blk_frozen BK.out 2
          have HLI := Aside0.mk (show i < l0.length by have := HI.out; omega)
          have HLJ := Aside0.mk (show j < l0.length by have := HJ.out; omega)
          cases b with
          | false =>
            go_wp2_with fail
            refine (impl_plan_waits.calls A0 c0 l0 A1 c1 l1 a2 (i : Int) (j : Int) false wr (HC.out _ _ HR.out).1 hc0 (HC.out _ _ HR.out).2 hc1 HW.out).mono ?_
            rintro e w1 ⟨rfl, hb1⟩
            have HB1 := Aside0.mk hb1
            clear hb1 hcz0 hcz1 hcz2 hfz0 hfz1 hfz2
            go_wp2
            go_roundg gj
            case measure => omega
            case rel => exact ⟨j + 1, t, congrArg (Value.int .i64) (by have := HJ.out; unfold wrap64; omega), ⟨by have := HJ.out; omega⟩, H4, ⟨HBR.out _ _ _ HR.out HB1.out⟩, ⟨HK.out.below HB1.out⟩, ⟨blk_below BK.out HB1.out⟩⟩
          | true =>
            obtain ⟨t2, h5, h6⟩ := Option.bind_eq_some_iff.mp H4.out
            have H5 := Aside0.mk (show step t (i : Int) (j : Int) = some t2 from h5)
            have H6 := Aside0.mk h6
            clear h5 h6 H4
            go_wp2_with fail
            refine (impl_plan_waits.calls A0 c0 l0 A1 c1 l1 a2 (i : Int) (j : Int) true wr (HC.out _ _ HR.out).1 hc0 (HC.out _ _ HR.out).2 hc1 HW.out).mono ?_
            rintro e w1 ⟨rfl, hb1⟩
            have HB1 := Aside0.mk hb1
            clear hb1 hcz0 hcz1 hcz2 hfz0 hfz1 hfz2
            go_wp2_with fail
            refine (HV.out t t2 i j w1 HLI.out HLJ.out (blk_lt (blk_below BK.out HB1.out)) (HBR.out _ _ _ HR.out HB1.out) H5.out).mono ?_
            rintro e w2 ⟨rfl, hr2, hk2⟩
            have HR2 := Aside0.mk hr2
            have HK2 := Aside0.mk hk2
            clear hr2 hk2
            go_wp2
            go_roundg gj
            case measure => omega
            case rel => exact ⟨j + 1, t2, congrArg (Value.int .i64) (by have := HJ.out; unfold wrap64; omega), ⟨by have := HJ.out; omega⟩, H6, HR2, ⟨(HK.out.below HB1.out).then_ HK2.out (fun k hk => .inl hk)⟩, ⟨blk_kept (blk_below BK.out HB1.out) HK2.out HS.out⟩⟩
/-- One visit of next: a number of the delays is raised. -/
def impl_plan_next.step (l0 : List (List Int)) (l1 : List Int) (a2 : Int) (x : List Int) (s : List Int) (i j : Int) : Option (List Int) := if 0 ≤ i then (if i < (s.length : Int) then (if 0 ≤ j then (if j < (x.length : Int) then (impl_plan_buffer.f l0 l1 a2 i j).bind fun b => some (s.set i.toNat (mx (rd s i) (wrap64 ((rd x j) - b)))) else none) else none) else none) else none
set_option maxHeartbeats 8000000 in
set_option maxRecDepth 100000 in
theorem impl_plan_next.visit (A0 : Option Addr) (c0 : Nat) (l0 : List (List Int)) (A1 : Option Addr) (c1 : Nat) (l1 : List Int) (a2 : Int) (Ax : Option Addr) (cx : Nat) (x : List Int) (v : Value) (s s' : List Int) (base : Nat) (ok : Nat → Prop) (Bo Bx Bp : Nat) (i j : Int) (w : World)
    (hr0 : Kd.C (Kd.slice 3 (Kd.int .i64)) w A0 l0.length l0) (hc0 : l0.length ≤ c0) (hr1 : Kd.C (Kd.int .i64) w A1 l1.length l1) (hc1 : l1.length ≤ c1) (hrx : Kd.C (Kd.int .i64) w Ax x.length x)
    (hv : Kd.R (Kd.int .i64) 3 w base ok v s) (hbo : w.heap[Bo]? = some (.cells #[v] 23 (0, 0))) (hbx : w.heap[Bx]? = some (.cells #[.slice Ax x.length cx] 23 (0, 0))) (hbp : w.heap[Bp]? = some (.cells #[.slice A0 l0.length c0, .slice A1 l1.length c1, .int .i64 a2] 63 (0, 0)))
    (h : impl_plan_next.step l0 l1 a2 x s i j = some s') :
    Calls Try.prog 87 #[.int .i64 i, .int .i64 j, .pointer (some ⟨Bo, 0, none⟩), .pointer (some ⟨Bx, 0, none⟩), .pointer (some ⟨Bp, 0, none⟩)] w fun e w' => e = .returned (.tuple #[]) ∧ Kd.R (Kd.int .i64) 3 w' base ok v s' ∧ Kept w w' (fun k => some k = v.ownBlock) ∧ ∀ u : World, Below u.heap.size u w → (∀ k, v.ownBlock = some k → u.heap.size ≤ k) → Below u.heap.size u w' := by
  unfold impl_plan_next.step at h
  by_cases h1 : 0 ≤ i
  · by_cases h2 : i < (s.length : Int)
    · by_cases h3 : 0 ≤ j
      · by_cases h4 : j < (x.length : Int)
        · rw [if_pos h1, if_pos h2, if_pos h3, if_pos h4] at h
          obtain ⟨b, hb, h⟩ := Option.bind_eq_some_iff.mp h
          obtain rfl := Option.some.inj h
          clear h
          have HBF := Aside0.mk hb
          have HR0 := Aside0.mk hr0
          have HR1 := Aside0.mk hr1
          obtain ⟨adx, ex, hxj⟩ := Kd.at_int hrx j h3 h4
          cases ex
          obtain ⟨go, co, eo, gb, gl, cl, HG⟩ := Kd.R_form hv (by omega)
          subst eo
          have GB := Aside0.mk gb
          have HV := Aside0.mk hv
          obtain ⟨hxo, hfo⟩ := Kd.R_celln 0 hv i h1 h2
          have hcz0 : w.cell? ⟨Bp, 0, none⟩ = some (.slice A0 l0.length c0) := (blk_cell hbp 0).trans rfl
          have hcz1 : w.cell? ⟨Bp, 1, none⟩ = some (.slice A1 l1.length c1) := (blk_cell hbp 1).trans rfl
          have hcz2 : w.cell? ⟨Bp, 2, none⟩ = some (.int .i64 a2) := (blk_cell hbp 2).trans rfl
          have hczo : w.cell? ⟨Bo, 0, none⟩ = some (.slice (some ⟨go, 0, none⟩) s.length co) := (blk_cell hbo 0).trans rfl
          have hczx : w.cell? ⟨Bx, 0, none⟩ = some (.slice (some adx) x.length cx) := (blk_cell hbx 0).trans rfl
          have p1 := eq_true h1
          have p2 := eq_true h2
          have p3 := eq_true h3
          have p4 := eq_true h4
          clear hr0 hr1 hrx gb gl cl HG hv hb
          go_enter Try.func87, Try.ntmps87
          refine start_ (n := 18) (S := fun w' => w'.cell? ⟨Bo, 0, none⟩ = some (.slice (some ⟨go, 0, none⟩) s.length co) ∧ w'.cell? ⟨Bx, 0, none⟩ = some (.slice (some adx) x.length cx) ∧ w'.cell? ⟨Bp, 0, none⟩ = some (.slice A0 l0.length c0) ∧ w'.cell? ⟨Bp, 1, none⟩ = some (.slice A1 l1.length c1) ∧ w'.cell? ⟨Bp, 2, none⟩ = some (.int .i64 a2) ∧ w'.cell? (adx.add j.toNat) = some (.int .i64 (rd x j)) ∧ w'.cell? ⟨go, i.toNat, none⟩ = some (.int .i64 (rd s i))) (ds := [17]) #[false, false, false, false, false, false, false, false, false, false, false, false, false, false, false, false, false, false] (by kernel_rfl) rfl rfl ⟨hczo, hczx, hcz0, hcz1, hcz2, hxj, hxo⟩ (fun hHeld => ?_)
          refine take_ (i := 0) (N := some 7) (v := ?_) (a' := ?_) #[true, false, false, false, false, false, false, false, false, false, false, false, false, false, false, false, false, false] rfl rfl (by kernel_rfl) (fun _ _ _ h => h) (Or.inl ⟨by rfl, ?_⟩) hHeld ?_ ?_
          rotate_left
          · rintro w' ⟨s0, s1, s2, s3, s4, s5, s6⟩
            go_simp
            with_reducible rfl
          rotate_left
          · simp only [Act.put, List.setIfInBounds_toArray, List.set_cons_zero, List.set_cons_succ, i64_w, i32_w]
            rfl
          refine pure_ (i := 1) (N := some 8) (v := ?_) (a' := ?_) #[true, true, false, false, false, false, false, false, false, false, false, false, false, false, false, false, false, false] rfl rfl (by kernel_rfl) (fun _ _ _ h => h) (Or.inl ⟨by rfl, ?_⟩) ?_ ?_
          rotate_left
          · intro w'
            go_simp
            with_reducible rfl
          rotate_left
          · simp only [Act.put, List.setIfInBounds_toArray, List.set_cons_zero, List.set_cons_succ, i64_w, i32_w]
            rfl
          refine take_ (i := 2) (N := some 9) (v := ?_) (a' := ?_) #[true, true, true, false, false, false, false, false, false, false, false, false, false, false, false, false, false, false] rfl rfl (by kernel_rfl) (fun _ _ _ h => h) (Or.inl ⟨by rfl, ?_⟩) hHeld ?_ ?_
          rotate_left
          · rintro w' ⟨s0, s1, s2, s3, s4, s5, s6⟩
            go_simp
            with_reducible rfl
          rotate_left
          · simp only [Act.put, List.setIfInBounds_toArray, List.set_cons_zero, List.set_cons_succ, i64_w, i32_w]
            rfl
          refine pure_ (i := 3) (N := some 10) (v := ?_) (a' := ?_) #[true, true, true, true, false, false, false, false, false, false, false, false, false, false, false, false, false, false] rfl rfl (by kernel_rfl) (fun _ _ _ h => h) (Or.inl ⟨by rfl, ?_⟩) ?_ ?_
          rotate_left
          · intro w'
            go_simp
            with_reducible rfl
          rotate_left
          · simp only [Act.put, List.setIfInBounds_toArray, List.set_cons_zero, List.set_cons_succ, i64_w, i32_w]
            rfl
          refine pure_ (i := 4) (N := some 11) (v := ?_) (a' := ?_) #[true, true, true, true, true, false, false, false, false, false, false, false, false, false, false, false, false, false] rfl rfl (by kernel_rfl) (fun _ _ _ h => h) (Or.inl ⟨by rfl, ?_⟩) ?_ ?_
          rotate_left
          · intro w'
            go_simp
            with_reducible rfl
          rotate_left
          · simp only [Act.put, List.setIfInBounds_toArray, List.set_cons_zero, List.set_cons_succ, i64_w, i32_w]
            rfl
          refine take_ (i := 5) (N := some 12) (v := ?_) (a' := ?_) #[true, true, true, true, true, true, false, false, false, false, false, false, false, false, false, false, false, false] rfl rfl (by kernel_rfl) (fun _ _ _ h => h) (Or.inl ⟨by rfl, ?_⟩) hHeld ?_ ?_
          rotate_left
          · rintro w' ⟨s0, s1, s2, s3, s4, s5, s6⟩
            go_simp
            with_reducible rfl
          rotate_left
          · simp only [Act.put, List.setIfInBounds_toArray, List.set_cons_zero, List.set_cons_succ, i64_w, i32_w]
            rfl
          refine take_ (i := 6) (N := some 13) (v := ?_) (a' := ?_) #[true, true, true, true, true, true, true, false, false, false, false, false, false, false, false, false, false, false] rfl rfl (by kernel_rfl) (fun _ _ _ h => h) (Or.inl ⟨by rfl, ?_⟩) hHeld ?_ ?_
          rotate_left
          · rintro w' ⟨s0, s1, s2, s3, s4, s5, s6⟩
            go_simp
            with_reducible rfl
          rotate_left
          · simp only [Act.put, List.setIfInBounds_toArray, List.set_cons_zero, List.set_cons_succ, i64_w, i32_w]
            rfl
          refine pure_ (i := 7) (N := some 14) (v := ?_) (a' := ?_) #[true, true, true, true, true, true, true, true, false, false, false, false, false, false, false, false, false, false] rfl rfl (by kernel_rfl) (fun _ _ _ h => h) (Or.inl ⟨by rfl, ?_⟩) ?_ ?_
          rotate_left
          · intro w'
            go_simp
            with_reducible rfl
          rotate_left
          · simp only [Act.put, List.setIfInBounds_toArray, List.set_cons_zero, List.set_cons_succ, i64_w, i32_w]
            rfl
          refine pure_ (i := 8) (N := some 15) (v := ?_) (a' := ?_) #[true, true, true, true, true, true, true, true, true, false, false, false, false, false, false, false, false, false] rfl rfl (by kernel_rfl) (fun _ _ _ h => h) (Or.inl ⟨by rfl, ?_⟩) ?_ ?_
          rotate_left
          · intro w'
            go_simp
            with_reducible rfl
          rotate_left
          · simp only [Act.put, List.setIfInBounds_toArray, List.set_cons_zero, List.set_cons_succ, i64_w, i32_w]
            rfl
          refine take_ (i := 9) (N := some 16) (v := ?_) (a' := ?_) #[true, true, true, true, true, true, true, true, true, true, false, false, false, false, false, false, false, false] rfl rfl (by kernel_rfl) (fun _ _ _ h => h) (Or.inl ⟨by rfl, ?_⟩) hHeld ?_ ?_
          rotate_left
          · rintro w' ⟨s0, s1, s2, s3, s4, s5, s6⟩
            go_simp
            with_reducible rfl
          rotate_left
          · simp only [Act.put, List.setIfInBounds_toArray, List.set_cons_zero, List.set_cons_succ, i64_w, i32_w]
            rfl
          refine take_ (i := 10) (N := some 17) (v := ?_) (a' := ?_) #[true, true, true, true, true, true, true, true, true, true, true, false, false, false, false, false, false, false] rfl rfl (by kernel_rfl) (fun _ _ _ h => h) (Or.inl ⟨by rfl, ?_⟩) hHeld ?_ ?_
          rotate_left
          · rintro w' ⟨s0, s1, s2, s3, s4, s5, s6⟩
            go_simp
            with_reducible rfl
          rotate_left
          · simp only [Act.put, List.setIfInBounds_toArray, List.set_cons_zero, List.set_cons_succ, i64_w, i32_w]
            rfl
          refine pure_ (i := 11) (N := some 18) (v := ?_) (a' := ?_) #[true, true, true, true, true, true, true, true, true, true, true, true, false, false, false, false, false, false] rfl rfl (by kernel_rfl) (fun _ _ _ h => h) (Or.inl ⟨by rfl, ?_⟩) ?_ ?_
          rotate_left
          · intro w'
            go_simp
            with_reducible rfl
          rotate_left
          · simp only [Act.put, List.setIfInBounds_toArray, List.set_cons_zero, List.set_cons_succ, i64_w, i32_w]
            rfl
          refine pure_ (i := 12) (N := some 19) (v := ?_) (a' := ?_) #[true, true, true, true, true, true, true, true, true, true, true, true, true, false, false, false, false, false] rfl rfl (by kernel_rfl) (fun _ _ _ h => h) (Or.inl ⟨by rfl, ?_⟩) ?_ ?_
          rotate_left
          · intro w'
            go_simp
            with_reducible rfl
          rotate_left
          · simp only [Act.put, List.setIfInBounds_toArray, List.set_cons_zero, List.set_cons_succ, i64_w, i32_w]
            rfl
          refine one_ (i := 13) (N := some 20) #[true, true, true, true, true, true, true, true, true, true, true, true, true, true, false, false, false, false] rfl rfl (by kernel_rfl) (by decide) (fun K hK => ?_)
          refine goes_ Try.func57 (by kernel_rfl) rfl #[.agg #[.slice A0 l0.length c0, .slice A1 l1.length c1, .int .i64 a2], .int .i64 i, .int .i64 j] (by rfl) rfl rfl (by (try simp only [List.map_toArray, List.map_cons, List.map_nil]); first | done | rfl) ?_
          refine (impl_plan_buffer.calls A0 c0 l0 A1 c1 l1 a2 i j b _ (Kd.C_drew HR0.out) hc0 (Kd.C_drew HR1.out) hc1 HBF.out).mono ?_
          rintro e w1 ⟨rfl, hb1⟩
          refine ⟨_, rfl, ?_⟩
          have hb2 : Below w.heap.size w w1 := below_step (below_drew (Below.refl _ _)) hb1
          have HB1 := Aside0.mk hb2
          refine hK.out _ _ ⟨pw_cell_below hb2 hczo, pw_cell_below hb2 hczx, pw_cell_below hb2 hcz0, pw_cell_below hb2 hcz1, pw_cell_below hb2 hcz2, pw_cell_below hb2 hxj, pw_cell_below hb2 hxo⟩ (fun hHeld => ?_)
          clear hK K hb1 hb2
          have HV1 := Aside0.mk (Kd.R_below HV.out HB1.out)
          obtain ⟨hx1, hf1⟩ := Kd.R_celln 0 HV1.out i h1 h2
          refine norm_ (a' := ?_) ?_ ?_
          rotate_left
          · simp only [Act.put, List.setIfInBounds_toArray, List.set_cons_zero, List.set_cons_succ, i64_w, i32_w]
            rfl
          refine pure_ (i := 14) (N := some 21) (v := ?_) (a' := ?_) #[true, true, true, true, true, true, true, true, true, true, true, true, true, true, true, false, false, false] rfl rfl (by kernel_rfl) (fun _ _ _ h => h) (Or.inl ⟨by rfl, ?_⟩) ?_ ?_
          rotate_left
          · intro w'
            go_simp
            with_reducible rfl
          rotate_left
          · simp only [Act.put, List.setIfInBounds_toArray, List.set_cons_zero, List.set_cons_succ, i64_w, i32_w]
            rfl
          refine pure_ (i := 15) (N := some 22) (v := ?_) (a' := ?_) #[true, true, true, true, true, true, true, true, true, true, true, true, true, true, true, true, false, false] rfl rfl (by kernel_rfl) (fun _ _ _ h => h) (Or.inl ⟨by rfl, ?_⟩) ?_ ?_
          rotate_left
          · intro w'
            go_simp
            with_reducible rfl
          rotate_left
          · simp only [Act.put, List.setIfInBounds_toArray, List.set_cons_zero, List.set_cons_succ, i64_w, i32_w]
            rfl
          refine pure_ (i := 16) (N := some 23) (v := ?_) (a' := ?_) #[true, true, true, true, true, true, true, true, true, true, true, true, true, true, true, true, true, false] rfl rfl (by kernel_rfl) (fun _ _ _ h => h) (Or.inl ⟨by rfl, ?_⟩) ?_ ?_
          rotate_left
          · intro w'
            go_simp
            with_reducible rfl
          rotate_left
          · simp only [Act.put, List.setIfInBounds_toArray, List.set_cons_zero, List.set_cons_succ, i64_w, i32_w]
            rfl
          refine last_ (i := 17) (N := none) #[true, true, true, true, true, true, true, true, true, true, true, true, true, true, true, true, true, true] rfl rfl (by kernel_rfl) (by decide) (fun K hK => ?_)
          refine skip_ (w1 := w1.setCell ⟨go, i.toNat, none⟩ (.int .i64 (mx (rd s i) (wrap64 (rd x j - b))))) (by rfl) rfl ?_ ?_
          · first | (go_simp; done) | (go_simp; rfl)
          refine hK.out _ _ ?_
          clear hK K
          refine done_ (by kernel_rfl) ?_
          have HP := Kd.R_putg HV1.out i (mx (rd s i) (wrap64 (rd x j - b)))
          go_end0
          exact ⟨rfl, HP.1, Kept.of_grown HP.2 (Kept.of_below HB1.out _) (fun k hk => .inl (by rw [← hk]; simp [Value.ownBlock])), fun u hu hq => below_set (below_then hu hu.size (below_weaken (Below.refl _ _) (Nat.le_refl _) HB1.out)) (hq go (by simp [Value.ownBlock]))⟩
        · rw [if_pos h1, if_pos h2, if_pos h3, if_neg h4] at h
          cases h
      · rw [if_pos h1, if_pos h2, if_neg h3] at h
        cases h
    · rw [if_pos h1, if_neg h2] at h
      cases h
  · rw [if_neg h1] at h
    cases h
/-- What a round of next keeps: the row that is made, the rows that came in, the variables. -/
def impl_plan_next.Keeps (w : World) (base : Nat) (Bo : Nat) (A0 : Option Addr) (c0 : Nat) (l0 : List (List Int)) (A1 : Option Addr) (c1 : Nat) (l1 : List Int) (a2 : Int) (Ax : Option Addr) (cx : Nat) (x : List Int) (v : Value) (s : List Int) (W : World) : Prop :=
  Kd.R (Kd.int .i64) 3 W base (fun _ => True) v s ∧ Kd.F (Kd.slice 3 (Kd.int .i64)) W (fun k => k < w.heap.size) A0 l0.length l0 ∧ Kd.F (Kd.int .i64) W (fun k => k < w.heap.size) A1 l1.length l1 ∧ Kd.F (Kd.int .i64) W (fun k => k < w.heap.size) Ax x.length x ∧
  W.heap[Bo]? = some (.cells #[v] 23 (0, 0)) ∧ W.heap[w.heap.size + 1]? = some (.cells #[.slice Ax x.length cx] 23 (0, 0)) ∧ W.heap[w.heap.size]? = some (.cells #[.slice A0 l0.length c0, .slice A1 l1.length c1, .int .i64 a2] 63 (0, 0)) ∧ Below w.heap.size w W
def impl_plan_next.f (l0_0 : List (List Int)) (l0_1 : List Int) (a0_2 : Int) (l1 : List Int) : Option (List Int) := if l1.length ≤ 35184372088832 then impl_plan_next.all (fun i j => impl_plan_waits.f l0_0 l0_1 a0_2 i j) (fun s i j => impl_plan_next.step l0_0 l0_1 a0_2 l1 s i j) l0_0.length l0_0.length 0 (List.replicate l1.length 0) else none
set_option maxHeartbeats 8000000 in
set_option maxRecDepth 100000 in
theorem impl_plan_next.calls (A0_0 : Option Addr) (c0_0 : Nat) (l0_0 : List (List Int)) (A0_1 : Option Addr) (c0_1 : Nat) (l0_1 : List Int) (a0_2 : Int) (A1 : Option Addr) (c1 : Nat) (l1 : List Int) (r : List Int) (w : World) (hr0_0 : Kd.C (Kd.slice 3 (Kd.int .i64)) w A0_0 l0_0.length l0_0) (hc0_0 : l0_0.length ≤ c0_0) (hr0_1 : Kd.C (Kd.int .i64) w A0_1 l0_1.length l0_1) (hc0_1 : l0_1.length ≤ c0_1) (hr1 : Kd.C (Kd.int .i64) w A1 l1.length l1) (hc1 : l1.length ≤ c1) (h : impl_plan_next.f l0_0 l0_1 a0_2 l1 = some r) :
    Calls Try.prog 65 #[.agg #[.slice A0_0 l0_0.length c0_0, .slice A0_1 l0_1.length c0_1, .int .i64 a0_2], .slice A1 l1.length c1] w fun e w' => ∃ v0_ : Value, e = .returned (v0_) ∧ Kd.R (Kd.int .i64) 3 w' w.heap.size (fun _ => True) v0_ r ∧ Below w.heap.size w w' := by
  have hm : l0_0.length ≤ 9223372036854775807 := hr0_0.2.1
  unfold impl_plan_next.f at h
  by_cases hl : l1.length ≤ 35184372088832
  · rw [if_pos hl] at h
    have HR0 := Aside0.mk hr0_0
    have HR1 := Aside0.mk hr0_1
    have HRX := Aside0.mk hr1
    have H := Aside0.mk h
    have c2b1 : decide (0 ≤ (l1.length : Int)) = true := by simp
    have c3b1 : decide (((l1.length : Int) : Int).toNat ≤ 35184372088832) = true := by simp; exact hl
    clear hr0_0 hr0_1 hr1 h
    have HB := Aside0.mk (Below.refl w.heap.size w)
    go_enter Try.func65, Try.ntmps65
    go_upto_region 2 with (first | ((with_reducible refine gate_dst (N := 8) rfl ?_); refine Kd.R_make (Kd.int .i64) _ 3 rfl (N := 8) rfl 23 _ _ rfl (l1.length : Int) rfl rfl Try.underlying23 (.int .i64 0) 8 info3 rfl (by decide) (by omega) 0 (ok := fun _ => True) (okp := fun _ => True) rfl (fun _ hk => hk) trivial (of_decide_eq_true (by first | (with_reducible assumption) | assumption)) (Nat.le_trans (Nat.mul_le_mul_right _ (of_decide_eq_true (by first | (with_reducible assumption) | assumption) : (l1.length : Int).toNat ≤ 35184372088832)) (by omega)) (Below.refl _ _) (Nat.le_refl _) ?_; intro v142 w4 ho5 hb hg_ hnew_; clear hg_ hnew_; have HO := Aside0.mk ho5; have HB4 := Aside0.mk hb; clear ho5 hb; obtain ⟨Av, cv, ev⟩ := Kd.R_slice HO.out; subst ev; have BP := blk_below (blk_alloc (blk_new w (Obj.cells #[.slice A0_0 l0_0.length c0_0, .slice A0_1 l0_1.length c0_1, .int .i64 a0_2] 63 (0, 0))) _) HB4.out; have BX := blk_below (blk_new (w.alloc (Obj.cells #[.slice A0_0 l0_0.length c0_0, .slice A0_1 l0_1.length c0_1, .int .i64 a0_2] 63 (0, 0))) (Obj.cells #[.slice A1 l1.length c1] 23 (0, 0))) HB4.out; rw [show (w.alloc (Obj.cells #[.slice A0_0 l0_0.length c0_0, .slice A0_1 l0_1.length c0_1, .int .i64 a0_2] 63 (0, 0))).heap.size = w.heap.size + 1 by simp [World.alloc_eq]] at BX))
    have hOb : Kd.R (Kd.int .i64) 3 w4 (w.heap.size + 2) (fun _ => True) (.slice Av l1.length cv) (List.replicate l1.length 0) := by
      have h := HO.out
      simp only [List.length_replicate, Int.toNat_natCast] at h
      have e2 : ((w.alloc (Obj.cells #[.slice A0_0 l0_0.length c0_0, .slice A0_1 l0_1.length c0_1, .int .i64 a0_2] 63 (0, 0))).alloc (Obj.cells #[.slice A1 l1.length c1] 23 (0, 0))).heap.size = w.heap.size + 2 := by simp [World.alloc_eq]
      rw [e2] at h
      exact h
    have hBb : Below w.heap.size w w4 := below_step (below_alloc (below_alloc (Below.refl _ _) _) _) HB4.out
    have BO := blk_new w4 (Obj.cells #[.slice Av l1.length cv] 23 (0, 0))
    have BP5 := blk_alloc BP (Obj.cells #[.slice Av l1.length cv] 23 (0, 0))
    have BX5 := blk_alloc BX (Obj.cells #[.slice Av l1.length cv] 23 (0, 0))
    have hOb5 := Kd.R_alloc hOb (Obj.cells #[.slice Av l1.length cv] 23 (0, 0))
    have hlt4 := Kd.R_lt hOb
    have hB5 := below_alloc hBb (Obj.cells #[.slice Av l1.length cv] 23 (0, 0))
    clear HO HB4 hOb hBb
    generalize w4.alloc (Obj.cells #[.slice Av l1.length cv] 23 (0, 0)) = w5 at BO BP5 BX5 hOb5 hB5 ⊢
    generalize w4.heap.size = Bo at BO hlt4 ⊢
    have hbase := Kd.R_base hOb5
    have hltB := blk_lt BO
    have eg : ∀ args w, (callFunc 87 args).run Try.prog w = .ok (.enter 87 args) w := Ext.entersOf Try.func87 (by kernel_rfl) rfl
    have HE := Aside0.mk (impl_plan_next.each 87 #[.pointer (some ⟨Bo, 0, none⟩), .pointer (some ⟨w.heap.size + 1, 0, none⟩), .pointer (some ⟨w.heap.size, 0, none⟩)] eg A0_0 c0_0 l0_0 A0_1 c0_1 l0_1 a0_2 hc0_0 hc0_1 hm (fun s i j => impl_plan_next.step l0_0 l0_1 a0_2 l1 s i j) (fun s W => impl_plan_next.Keeps w (w.heap.size + 2) Bo A0_0 c0_0 l0_0 A0_1 c0_1 l0_1 a0_2 A1 c1 l1 (.slice Av l1.length cv) s W) (fun k => some k = (Value.slice Av l1.length cv).ownBlock) w5
      (fun hk => by have := hlt4 _ hk.symm; omega)
      (fun s W h => ⟨Kd.F_now h.2.1, Kd.F_now h.2.2.1⟩)
      (fun s W W' h hW => ⟨Kd.R_below h.1 hW, Kd.F_below h.2.1 hW, Kd.F_below h.2.2.1 hW, Kd.F_below h.2.2.2.1 hW, blk_below h.2.2.2.2.1 hW, blk_below h.2.2.2.2.2.1 hW, blk_below h.2.2.2.2.2.2.1 hW, below_step h.2.2.2.2.2.2.2 hW⟩)
      (fun s s' i j W hi hj _ h hs => by
        refine (impl_plan_next.visit A0_0 c0_0 l0_0 A0_1 c0_1 l0_1 a0_2 A1 c1 l1 (.slice Av l1.length cv) s s' (w.heap.size + 2) (fun _ => True) Bo (w.heap.size + 1) w.heap.size (i : Int) (j : Int) W (Kd.F_now h.2.1) hc0_0 (Kd.F_now h.2.2.1) hc0_1 (Kd.F_now h.2.2.2.1) h.1 h.2.2.2.2.1 h.2.2.2.2.2.1 h.2.2.2.2.2.2.1 hs).mono ?_
        rintro e W' ⟨rfl, hr, hk, hbw⟩
        exact ⟨rfl, ⟨hr, Kd.F_kept h.2.1 hk (fun k h1 h2 => by have := hbase k h2.symm; omega), Kd.F_kept h.2.2.1 hk (fun k h1 h2 => by have := hbase k h2.symm; omega), Kd.F_kept h.2.2.2.1 hk (fun k h1 h2 => by have := hbase k h2.symm; omega), blk_kept h.2.2.2.2.1 hk (fun h2 => by have := hlt4 _ h2.symm; omega), blk_kept h.2.2.2.2.2.1 hk (fun h2 => by have := hbase _ h2.symm; omega), blk_kept h.2.2.2.2.2.2.1 hk (fun h2 => by have := hbase _ h2.symm; omega), hbw w h.2.2.2.2.2.2.2 (fun k h2 => by have := hbase k h2; omega)⟩, hk⟩)
      _ r ⟨hOb5, Kd.F_below (Kd.C_F (Kd.heap_slice 3 (Kd.heap_int .i64)) HR0.out) hB5, Kd.F_below (Kd.C_F (Kd.heap_int .i64) HR1.out) hB5, Kd.F_below (Kd.C_F (Kd.heap_int .i64) HRX.out) hB5, BO, BX5, BP5, hB5⟩ H.out)
    have hcz0 : w5.cell? ⟨w.heap.size, 0, none⟩ = some (.slice A0_0 l0_0.length c0_0) := (blk_cell BP5 0).trans rfl
    have hcz1 : w5.cell? ⟨w.heap.size, 1, none⟩ = some (.slice A0_1 l0_1.length c0_1) := (blk_cell BP5 1).trans rfl
    have hcz2 : w5.cell? ⟨w.heap.size, 2, none⟩ = some (.int .i64 a0_2) := (blk_cell BP5 2).trans rfl
    have hmf : ∀ (fn : Fn) (first cap : Array Value) (w : World), (Instr.makeFunc fn first cap).run Try.prog w = .ok (.func fn first cap) w := fun _ _ _ _ => rfl
    clear BP BX BP5 BX5 hOb5 hlt4 hbase hltB eg BO hB5
    go_wp2_with fail
    refine HE.out.mono ?_
    rintro e w6 ⟨rfl, hr6, _⟩
    have hczo6 : w6.cell? ⟨Bo, 0, none⟩ = some (.slice Av l1.length cv) := (blk_cell hr6.2.2.2.2.1 0).trans rfl
    have H6 := Aside0.mk hr6
    clear hr6 hcz0 hcz1 hcz2 HE
    go_wp2
    go_ret
    exact ⟨_, rfl, Kd.R_lower H6.out.1 (by omega), H6.out.2.2.2.2.2.2.2⟩
  · rw [if_neg hl] at h
    cases h

end Go.Proofs.Ytebjiooojkhkpaa.X

namespace Go.Proofs.Ytebjiooojkhkpaa.X
open Go.RowKit Go.Proofs.YtebjiooojkhkpaaW.PrintWords Go.Proofs.YtebjiooojkhkpaaW.PrintLast Go.Proofs.YtebjiooojkhkpaaW.PrintMore
attribute [local go_sem] max2_int min2_int max_two min_two max_three min_three max_four min_four   -- for this text's walks alone
set_option linter.unusedVariables false
set_option linter.unusedSimpArgs false

/-! ### spec_dlAsked: function 62 -/
def spec_dlAsked.f (k : Nat) (l0 : List (List Int)) (l1 : List Int) (a2 : Int) (l3 : List Int) : Option (Bool) := (spec_dlGood.f k l0 l1 a2).bind fun t367 => (if t367 = true then (if (l3.length : Int) = (l0.length : Int) then ((spec_l1All.f k l3 0 10000).bind fun t368 => (some t368)) else (some false)) else (some false))
theorem spec_dlAsked.mono : ∀ a0 a1 a2 a3 k, LeO (spec_dlAsked.f k a0 a1 a2 a3) (spec_dlAsked.f (k + 1) a0 a1 a2 a3) := by
  intro a0 a1 a2 a3 k
  unfold spec_dlAsked.f
  repeat' first
      | (with_reducible exact spec_dlGood.mono _ _ _ _)
      | (with_reducible exact spec_l1All.mono _ _ _ _)
      | (with_reducible exact LeO.refl _)
      | (with_reducible exact LeO.none _)
      | (with_reducible refine LeO.ite ?_ ?_)
      | (with_reducible refine LeO.bind ?_ (fun _ => ?_))
      | exact spec_dlGood.mono _ _ _ _
      | exact spec_l1All.mono _ _ _ _
      | exact LeO.none _
      | refine LeO.ite ?_ ?_
      | refine LeO.bind ?_ (fun _ => ?_)
set_option maxHeartbeats 8000000 in
set_option maxRecDepth 100000 in
theorem spec_dlAsked.calls (k : Nat) (A0 : Option Addr) (c0 : Nat) (l0 : List (List Int)) (A1 : Option Addr) (c1 : Nat) (l1 : List Int) (a2 : Int) (A3 : Option Addr) (c3 : Nat) (l3 : List Int) (r : Bool) (w : World) (hr0 : Kd.C (Kd.slice 3 (Kd.int .i64)) w A0 l0.length l0) (hc0 : l0.length ≤ c0) (hr1 : Kd.C (Kd.int .i64) w A1 l1.length l1) (hc1 : l1.length ≤ c1) (hr3 : Kd.C (Kd.int .i64) w A3 l3.length l3) (hc3 : l3.length ≤ c3) (h : spec_dlAsked.f k l0 l1 a2 l3 = some r) :
    Calls Try.prog 62 #[.slice A0 l0.length c0, .slice A1 l1.length c1, .int .i64 a2, .slice A3 l3.length c3] w fun e w' => e = .returned (.bool r) ∧ Drawn0 w w' := by
  have HR0 := Aside0.mk hr0
  have HC0 := Aside0.mk hc0
  clear hr0 hc0
  have HR1 := Aside0.mk hr1
  have HC1 := Aside0.mk hc1
  clear hr1 hc1
  have HR3 := Aside0.mk hr3
  have HC3 := Aside0.mk hc3
  clear hr3 hc3
  have H : ((spec_dlGood.f k l0 l1 a2).bind fun t367 => (if t367 = true then (if (l3.length : Int) = (l0.length : Int) then ((spec_l1All.f k l3 0 10000).bind fun t368 => (some t368)) else (some false)) else (some false))) = some r := h
  clear h
  replace H := Option.bind_eq_some_iff.mp H
  obtain ⟨t367, A50, H⟩ := H
  replace H : (if t367 = true then (if (l3.length : Int) = (l0.length : Int) then ((spec_l1All.f k l3 0 10000).bind fun t368 => (some t368)) else (some false)) else (some false)) = some r := H
  have A5 := Aside0.mk A50
  clear A50
  by_cases c6 : t367 = true
  · subst c6
    have H1 : (if (l3.length : Int) = (l0.length : Int) then ((spec_l1All.f k l3 0 10000).bind fun t368 => (some t368)) else (some false)) = some r := by rw [if_pos rfl] at H; exact H
    clear H
    have H := H1
    clear H1
    by_cases c7 : (l3.length : Int) = (l0.length : Int)
    · rw [if_pos c7] at H
      have c7b0 : ((l3.length : Int) == (l0.length : Int)) = true := beq_iff_eq.mpr c7
      have c7b1 : ((l3.length : Int) != (l0.length : Int)) = false := bne_eq_false_iff_eq.mpr c7
      have c7b2 : (l3.length == l0.length) = true := by first | simpa using c7 | (simp at c7 ⊢; omega)
      clear c7
      replace H := Option.bind_eq_some_iff.mp H
      obtain ⟨t368, A80, H⟩ := H
      replace H : (some t368) = some r := H
      have A8 := Aside0.mk A80
      clear A80
      obtain rfl := Option.some.inj H
      go_enter Try.func62, Try.ntmps62
      go_wp2_with (first | ((with_reducible refine gate_callee (f := 51) rfl ?_); refine goesL_ (some 12) rfl rfl Try.func51 (by kernel_rfl) rfl #[.slice A0 l0.length c0, .slice A1 l1.length c1, .int .i64 a2] rfl (by (try simp only [List.map_toArray, List.map_cons, List.map_nil]); first | done | rfl | (simp only [List.length_drop, List.length_take]; rfl)) ?_; (with_reducible refine (spec_dlGood.calls k _ _ l0 _ _ l1 a2 true _ ?side1 ?side2 ?side3 ?side4 A5.out).mono ?_); (case side1 => repeat (first | exact HR0.out | (with_reducible refine Kd.C_alloc ?_ _) | (with_reducible refine Kd.C_drewN ?_ _) | (with_reducible refine Kd.C_drew ?_))); (case side2 => exact HC0.out); (case side3 => repeat (first | exact HR1.out | (with_reducible refine Kd.C_alloc ?_ _) | (with_reducible refine Kd.C_drewN ?_ _) | (with_reducible refine Kd.C_drew ?_))); (case side4 => exact HC1.out); rintro e w' ⟨rfl, ⟨nd, rfl⟩⟩; refine ⟨_, rfl, ?_⟩) | (go_at_call 84; (with_reducible refine (spec_l1All.calls k _ _ l3 0 10000 t368 _ ?side1 ?side2 A8.out).mono ?_); (case side1 => repeat (first | exact HR3.out | (with_reducible refine Kd.C_alloc ?_ _) | (with_reducible refine Kd.C_drewN ?_ _) | (with_reducible refine Kd.C_drew ?_))); (case side2 => exact HC3.out); rintro e w' ⟨rfl, ⟨nd, rfl⟩⟩))
      go_ret
      exact ⟨by first | rfl | (simp; done) | (simp [*]; done), by repeat (first | exact Drawn0.refl _ | apply Drawn0.step)⟩
    · rw [if_neg c7] at H
      have c7b0 : ((l3.length : Int) == (l0.length : Int)) = false := beq_eq_false_iff_ne.mpr c7
      have c7b1 : ((l3.length : Int) != (l0.length : Int)) = true := bne_iff_ne.mpr c7
      have c7b2 : (l3.length == l0.length) = false := by first | simpa using c7 | (simp at c7 ⊢; omega)
      obtain rfl := Option.some.inj H
      go_enter Try.func62, Try.ntmps62
      go_wp2_with (first | ((with_reducible refine gate_callee (f := 51) rfl ?_); refine goesL_ (some 12) rfl rfl Try.func51 (by kernel_rfl) rfl #[.slice A0 l0.length c0, .slice A1 l1.length c1, .int .i64 a2] rfl (by (try simp only [List.map_toArray, List.map_cons, List.map_nil]); first | done | rfl | (simp only [List.length_drop, List.length_take]; rfl)) ?_; (with_reducible refine (spec_dlGood.calls k _ _ l0 _ _ l1 a2 true _ ?side1 ?side2 ?side3 ?side4 A5.out).mono ?_); (case side1 => repeat (first | exact HR0.out | (with_reducible refine Kd.C_alloc ?_ _) | (with_reducible refine Kd.C_drewN ?_ _) | (with_reducible refine Kd.C_drew ?_))); (case side2 => exact HC0.out); (case side3 => repeat (first | exact HR1.out | (with_reducible refine Kd.C_alloc ?_ _) | (with_reducible refine Kd.C_drewN ?_ _) | (with_reducible refine Kd.C_drew ?_))); (case side4 => exact HC1.out); rintro e w' ⟨rfl, ⟨nd, rfl⟩⟩; refine ⟨_, rfl, ?_⟩))
      go_ret
      exact ⟨by first | rfl | (simp; done) | (simp [*]; done), by repeat (first | exact Drawn0.refl _ | apply Drawn0.step)⟩
  · replace c6 := Bool.eq_false_iff.mpr c6
    subst c6
    have H1 : (some false) = some r := by rw [if_neg (show ¬ (false = true) by decide)] at H; exact H
    clear H
    have H := H1
    clear H1
    obtain rfl := Option.some.inj H
    go_enter Try.func62, Try.ntmps62
    go_wp2_with (first | ((with_reducible refine gate_callee (f := 51) rfl ?_); refine goesL_ (some 12) rfl rfl Try.func51 (by kernel_rfl) rfl #[.slice A0 l0.length c0, .slice A1 l1.length c1, .int .i64 a2] rfl (by (try simp only [List.map_toArray, List.map_cons, List.map_nil]); first | done | rfl | (simp only [List.length_drop, List.length_take]; rfl)) ?_; (with_reducible refine (spec_dlGood.calls k _ _ l0 _ _ l1 a2 false _ ?side1 ?side2 ?side3 ?side4 A5.out).mono ?_); (case side1 => repeat (first | exact HR0.out | (with_reducible refine Kd.C_alloc ?_ _) | (with_reducible refine Kd.C_drewN ?_ _) | (with_reducible refine Kd.C_drew ?_))); (case side2 => exact HC0.out); (case side3 => repeat (first | exact HR1.out | (with_reducible refine Kd.C_alloc ?_ _) | (with_reducible refine Kd.C_drewN ?_ _) | (with_reducible refine Kd.C_drew ?_))); (case side4 => exact HC1.out); rintro e w' ⟨rfl, ⟨nd, rfl⟩⟩; refine ⟨_, rfl, ?_⟩))
    go_ret
    exact ⟨by first | rfl | (simp; done) | (simp [*]; done), by repeat (first | exact Drawn0.refl _ | apply Drawn0.step)⟩

/-! ### spec_l1Most: function 85 -/
def spec_l1Most.f (a0 : Int) (a1 : Int) : Option (Int) := if a0 > a1 then (some a0) else (some a1)
set_option maxHeartbeats 8000000 in
set_option maxRecDepth 100000 in
theorem spec_l1Most.calls (a0 : Int) (a1 : Int) (r : Int) (w : World) (h : spec_l1Most.f a0 a1 = some r) :
    Calls Try.prog 85 #[.int .i64 a0, .int .i64 a1] w fun e w' => e = .returned (.int .i64 r) ∧ Drawn0 w w' := by
  have H : (if a0 > a1 then (some a0) else (some a1)) = some r := h
  clear h
  by_cases c3 : a0 > a1
  · rw [if_pos c3] at H
    have c3b0 : decide (a1 < a0) = true := decide_eq_true c3
    clear c3
    obtain rfl := Option.some.inj H
    go_enter Try.func85, Try.ntmps85
    go_wp2
    go_ret
    exact ⟨by first | rfl | (simp; done) | (simp [*]; done), by repeat (first | exact Drawn0.refl _ | apply Drawn0.step)⟩
  · rw [if_neg c3] at H
    have c3b0 : decide (a1 < a0) = false := decide_eq_false c3
    clear c3
    obtain rfl := Option.some.inj H
    go_enter Try.func85, Try.ntmps85
    go_wp2
    go_ret
    exact ⟨by first | rfl | (simp; done) | (simp [*]; done), by repeat (first | exact Drawn0.refl _ | apply Drawn0.step)⟩

end Go.Proofs.Ytebjiooojkhkpaa.X

namespace Go.Proofs.Ytebjiooojkhkpaa.X
open Go.RowKit Go.Proofs.YtebjiooojkhkpaaW.PrintWords Go.Proofs.YtebjiooojkhkpaaW.PrintLast Go.Proofs.YtebjiooojkhkpaaW.PrintMore
attribute [local go_sem] max2_int min2_int max_two min_two max_three min_three max_four min_four   -- for this text's walks alone
set_option linter.unusedVariables false
set_option linter.unusedSimpArgs false

/-! ### spec_dlNext: function 63 -/
mutual
def spec_dlNext.l0 : Nat → List (List Int) → List Int → Int → List Int → List Int → List (List Int) → Int → Int → Option (List Int)
  | 0, _, _, _, _, _, _, _, _ => none
  | k + 1, x0, x1, x2, x3, x9, x15, x16, x17 => if x17 < x16 then (if 0 ≤ x17 then (if x17 < (x15.length : Int) then (spec_dlNext.l1 k x0 x1 x2 x3 x9 x17 0 x15 x16 x17 (rd_L1 x15 x17) ((rd_L1 x15 x17).length : Int) 0) else (none)) else (none)) else (some x9)
def spec_dlNext.l1 : Nat → List (List Int) → List Int → Int → List Int → List Int → Int → Int → List (List Int) → Int → Int → List Int → Int → Int → Option (List Int)
  | 0, _, _, _, _, _, _, _, _, _, _, _, _, _ => none
  | k + 1, x0, x1, x2, x3, x9, x10, x12, x15, x16, x17, x22, x23, x24 => if x24 < x23 then (if 0 ≤ x24 then (if x24 < (x22.length : Int) then (if (rd x22 x24) = 1000000000 then (spec_dlNext.l1 k x0 x1 x2 x3 x9 x10 x12 x15 x16 x17 x22 x23 (wrap64 (x24 + 1))) else (if x24 < (x3.length : Int) then ((spec_dlBuffer.f x0 x1 x2 x10 x24).bind fun t375 => ((spec_l1Most.f x12 (wrap64 ((rd x3 x24) - t375))).bind fun t376 => (spec_dlNext.l1 k x0 x1 x2 x3 x9 x10 t376 x15 x16 x17 x22 x23 (wrap64 (x24 + 1))))) else (none))) else (none)) else (none)) else (if x9.length < 17592186044416 then (spec_dlNext.l0 k x0 x1 x2 x3 (x9 ++ [x12]) x15 x16 (wrap64 (x17 + 1))) else (none))
end
def spec_dlNext.f (k : Nat) (l0 : List (List Int)) (l1 : List Int) (a2 : Int) (l3 : List Int) : Option (List Int) := spec_dlNext.l0 k l0 l1 a2 l3 ([] : List Int) l0 (l0.length : Int) 0
theorem spec_dlNext.mono_l : ∀ k, (∀ y0 y1 y2 y3 y4 y5 y6 y7, LeO (spec_dlNext.l0 k y0 y1 y2 y3 y4 y5 y6 y7) (spec_dlNext.l0 (k + 1) y0 y1 y2 y3 y4 y5 y6 y7)) ∧ (∀ y0 y1 y2 y3 y4 y5 y6 y7 y8 y9 y10 y11 y12, LeO (spec_dlNext.l1 k y0 y1 y2 y3 y4 y5 y6 y7 y8 y9 y10 y11 y12) (spec_dlNext.l1 (k + 1) y0 y1 y2 y3 y4 y5 y6 y7 y8 y9 y10 y11 y12))
  | 0 => ⟨fun _ _ _ _ _ _ _ _ r h => by simp [spec_dlNext.l0] at h, fun _ _ _ _ _ _ _ _ _ _ _ _ _ r h => by simp [spec_dlNext.l1] at h⟩
  | k + 1 => by
    obtain ⟨ih0, ih1⟩ := spec_dlNext.mono_l k
    refine ⟨?_, ?_⟩
    · intro y0 y1 y2 y3 y4 y5 y6 y7
      unfold spec_dlNext.l0
      repeat' first
      | (with_reducible exact ih0 _ _ _ _ _ _ _ _)
      | (with_reducible exact ih1 _ _ _ _ _ _ _ _ _ _ _ _ _)
      | (with_reducible exact LeO.refl _)
      | (with_reducible exact LeO.none _)
      | (with_reducible refine LeO.ite ?_ ?_)
      | (with_reducible refine LeO.bind ?_ (fun _ => ?_))
      | exact ih0 _ _ _ _ _ _ _ _
      | exact ih1 _ _ _ _ _ _ _ _ _ _ _ _ _
      | exact LeO.none _
      | refine LeO.ite ?_ ?_
      | refine LeO.bind ?_ (fun _ => ?_)
    · intro y0 y1 y2 y3 y4 y5 y6 y7 y8 y9 y10 y11 y12
      unfold spec_dlNext.l1
      repeat' first
      | (with_reducible exact ih0 _ _ _ _ _ _ _ _)
      | (with_reducible exact ih1 _ _ _ _ _ _ _ _ _ _ _ _ _)
      | (with_reducible exact LeO.refl _)
      | (with_reducible exact LeO.none _)
      | (with_reducible refine LeO.ite ?_ ?_)
      | (with_reducible refine LeO.bind ?_ (fun _ => ?_))
      | exact ih0 _ _ _ _ _ _ _ _
      | exact ih1 _ _ _ _ _ _ _ _ _ _ _ _ _
      | exact LeO.none _
      | refine LeO.ite ?_ ?_
      | refine LeO.bind ?_ (fun _ => ?_)
theorem spec_dlNext.mono : ∀ a0 a1 a2 a3 k, LeO (spec_dlNext.f k a0 a1 a2 a3) (spec_dlNext.f (k + 1) a0 a1 a2 a3) := by
  intro a0 a1 a2 a3 k
  obtain ⟨ih0, ih1⟩ := spec_dlNext.mono_l k
  unfold spec_dlNext.f
  repeat' first
      | (with_reducible exact ih0 _ _ _ _ _ _ _ _)
      | (with_reducible exact ih1 _ _ _ _ _ _ _ _ _ _ _ _ _)
      | (with_reducible exact LeO.refl _)
      | (with_reducible exact LeO.none _)
      | (with_reducible refine LeO.ite ?_ ?_)
      | (with_reducible refine LeO.bind ?_ (fun _ => ?_))
      | exact ih0 _ _ _ _ _ _ _ _
      | exact ih1 _ _ _ _ _ _ _ _ _ _ _ _ _
      | exact LeO.none _
      | refine LeO.ite ?_ ?_
      | refine LeO.bind ?_ (fun _ => ?_)
set_option maxHeartbeats 8000000 in
set_option maxRecDepth 100000 in
theorem spec_dlNext.calls (k : Nat) (A0 : Option Addr) (c0 : Nat) (l0 : List (List Int)) (A1 : Option Addr) (c1 : Nat) (l1 : List Int) (a2 : Int) (A3 : Option Addr) (c3 : Nat) (l3 : List Int) (r : List Int) (w : World) (hr0 : Kd.C (Kd.slice 3 (Kd.int .i64)) w A0 l0.length l0) (hc0 : l0.length ≤ c0) (hr1 : Kd.C (Kd.int .i64) w A1 l1.length l1) (hc1 : l1.length ≤ c1) (hr3 : Kd.C (Kd.int .i64) w A3 l3.length l3) (hc3 : l3.length ≤ c3) (h : spec_dlNext.f k l0 l1 a2 l3 = some r) :
    Calls Try.prog 63 #[.slice A0 l0.length c0, .slice A1 l1.length c1, .int .i64 a2, .slice A3 l3.length c3] w fun e w' => ∃ v0_ : Value, e = .returned (v0_) ∧ Kd.R (Kd.int .i64) 3 w' w.heap.size (fun _ => True) v0_ r ∧ Below w.heap.size w w' := by
  have HR0 := Aside0.mk hr0
  have HC0 := Aside0.mk hc0
  clear hr0 hc0
  have HR1 := Aside0.mk hr1
  have HC1 := Aside0.mk hc1
  clear hr1 hc1
  have HR3 := Aside0.mk hr3
  have HC3 := Aside0.mk hc3
  clear hr3 hc3
  have HB := Aside0.mk (Below.refl w.heap.size w)
  have H : (spec_dlNext.l0 k l0 l1 a2 l3 ([] : List Int) l0 (l0.length : Int) 0) = some r := h
  clear h
  have H' := Aside0.mk H
  clear H
  go_enter Try.func63, Try.ntmps63
  go_wp2
  repeat (go_quiet (fail); try go_wp2)
  go_loopg [9, 17] k (fun kq v9 v17 w' => ∃ (x9_1 : List Int) (x17_1 : Int), v17 = .int .i64 x17_1 ∧ Aside0 (spec_dlNext.l0 kq l0 l1 a2 l3 x9_1 l0 (l0.length : Int) x17_1 = some r) ∧ Aside0 (kq ≤ k) ∧ Aside0 (Kd.R (Kd.int .i64) 3 w' w.heap.size (fun _ => True) v9 x9_1) ∧ Aside0 (Below w.heap.size w w'))
  case atStart => exact ⟨(([] : List Int)), (0), (by first | rfl | (simp; done) | (simp [*]; done)), H', ⟨Nat.le_refl _⟩, ⟨by first | exact Kd.R_nil _ _ _ _ _ | exact Kd.N_nil _ _ _ _ _ | exact Kd.V_nil _ _ _ _ _ | exact Kd.Q_nil _ _ _ _ _ | exact Kd.S_nil _ _ _ _ _⟩, ⟨by repeat (first | (with_reducible first | exact HB.out | apply below_alloc | apply pw_below_drewN | apply below_drew1) | exact HB.out)⟩⟩
  case round =>
    clear H'
    try clear c1
    try clear p2
    try clear c3
    obtain ⟨x9_1, x17_1, rfl, HA, HK1, HO_9, HB⟩ := hrel
    cases gk with
    | zero => exact absurd HA.out (by simp [spec_dlNext.l0])
    | succ k1 =>
      have H := HA.out
      clear HA
      simp only [spec_dlNext.l0] at H
      by_cases c5 : x17_1 < (l0.length : Int)
      · rw [if_pos c5] at H
        have c5b0 : decide (x17_1 < (l0.length : Int)) = true := decide_eq_true c5
        clear c5
        by_cases c6 : 0 ≤ x17_1
        · rw [if_pos c6] at H
          have c6b0 : decide (0 ≤ x17_1) = true := decide_eq_true c6
          clear c6
          by_cases c7 : x17_1 < (l0.length : Int)
          · rw [if_pos c7] at H
            have c7b0 : decide (x17_1 < (l0.length : Int)) = true := decide_eq_true c7
            clear c7
            have H' := Aside0.mk H
            clear H
            have p369 : 0 ≤ (x17_1 : Int) := of_decide_eq_true (by first | (with_reducible assumption) | assumption)
            have q369 : x17_1 < (l0.length : Int) := of_decide_eq_true (by first | (with_reducible assumption) | assumption)
            obtain ⟨ad369, A369_0, c369_0, e369, hx369_0, hl369_0, hi369_0⟩ := at_L1 HR0.out x17_1 p369 q369
            cases e369
            try replace hx369_0 := (HB.out.cell (World.block_lt_of_cell? w _ hx369_0)).trans hx369_0
            have HR369_0 := Aside0.mk hi369_0
            have HC369_0 := Aside0.mk hl369_0
            clear hi369_0 hl369_0
            replace p369 := eq_true p369
            replace q369 := eq_true q369
            go_wp2
            repeat (go_quiet (fail); try go_wp2)
            go_loopg [12, 24] k1 (fun kq v12 v24 w' => ∃ (x12_2 : Int) (x24_2 : Int), v12 = .int .i64 x12_2 ∧ v24 = .int .i64 x24_2 ∧ Aside0 (spec_dlNext.l1 kq l0 l1 a2 l3 x9_1 x17_1 x12_2 l0 (l0.length : Int) x17_1 (rd_L1 l0 x17_1) ((rd_L1 l0 x17_1).length : Int) x24_2 = some r) ∧ Aside0 (kq ≤ k1) ∧ Aside0 (Kd.R (Kd.int .i64) 3 w' w.heap.size (fun _ => True) u9 x9_1) ∧ Aside0 (Below w.heap.size w w'))
            case atStart => exact ⟨(0), (0), (by first | rfl | (simp; done) | (simp [*]; done)), (by first | rfl | (simp; done) | (simp [*]; done)), H', ⟨Nat.le_refl _⟩, ⟨by (with_reducible repeat (first | apply Kd.R_alloc | apply Kd.R_drewN | apply Kd.R_drew)); exact HO_9.out⟩, ⟨by repeat (first | (with_reducible first | exact HB.out | apply below_alloc | apply pw_below_drewN | apply below_drew1) | exact HB.out)⟩⟩
            case round =>
              clear H'
              try clear c1
              try clear p2
              try clear c3
              try clear p3
              try clear q3
              try clear hx3
              try clear c5
              try clear c5b0
              try clear c6
              try clear c6b0
              try clear c7
              try clear c7b0
              try clear hx369_0
              try clear p2
              try clear p369
              try clear q369
              obtain ⟨x12_2, x24_2, rfl, rfl, HA, HK2, HO_9, HB⟩ := hrel
              cases gk with
              | zero => exact absurd HA.out (by simp [spec_dlNext.l1])
              | succ k2 =>
                have H := HA.out
                clear HA
                simp only [spec_dlNext.l1] at H
                by_cases c8 : x24_2 < ((rd_L1 l0 x17_1).length : Int)
                · rw [if_pos c8] at H
                  have c8b0 : decide (x24_2 < ((rd_L1 l0 x17_1).length : Int)) = true := decide_eq_true c8
                  clear c8
                  by_cases c9 : 0 ≤ x24_2
                  · rw [if_pos c9] at H
                    have c9b0 : decide (0 ≤ x24_2) = true := decide_eq_true c9
                    clear c9
                    by_cases c10 : x24_2 < ((rd_L1 l0 x17_1).length : Int)
                    · rw [if_pos c10] at H
                      have c10b0 : decide (x24_2 < ((rd_L1 l0 x17_1).length : Int)) = true := decide_eq_true c10
                      clear c10
                      by_cases c11 : (rd (rd_L1 l0 x17_1) x24_2) = 1000000000
                      · rw [if_pos c11] at H
                        have c11b0 : ((rd (rd_L1 l0 x17_1) x24_2) == 1000000000) = true := beq_iff_eq.mpr c11
                        have c11b1 : ((rd (rd_L1 l0 x17_1) x24_2) != 1000000000) = false := bne_eq_false_iff_eq.mpr c11
                        clear c11
                        have H' := Aside0.mk H
                        clear H
                        have p373 : 0 ≤ (x24_2 : Int) := of_decide_eq_true (by first | (with_reducible assumption) | assumption)
                        have q373 : x24_2 < ((rd_L1 l0 x17_1).length : Int) := of_decide_eq_true (by first | (with_reducible assumption) | assumption)
                        obtain ⟨ad373, e373, hx373_0⟩ := Kd.at_int HR369_0.out x24_2 p373 q373
                        cases e373
                        try replace hx373_0 := (HB.out.cell (World.block_lt_of_cell? w _ hx373_0)).trans hx373_0
                        replace p373 := eq_true p373
                        replace q373 := eq_true q373
                        go_wp2
                        repeat (go_quiet (fail); try go_wp2)
                        go_roundg k2
                        case measure => have := HK1.out; have := HK2.out; omega
                        case rel => exact ⟨(x12_2), (wrap64 (x24_2 + 1)), (by first | rfl | (simp; done) | (simp [*]; done)), (by first | rfl | (simp; done) | (simp [*]; done)), H', ⟨by have := HK1.out; have := HK2.out; omega⟩, ⟨by (with_reducible repeat (first | apply Kd.R_alloc | apply Kd.R_drewN | apply Kd.R_drew)); exact HO_9.out⟩, ⟨by repeat (first | (with_reducible first | exact HB.out | apply below_alloc | apply pw_below_drewN | apply below_drew1) | exact HB.out)⟩⟩
                      · rw [if_neg c11] at H
                        have c11b0 : ((rd (rd_L1 l0 x17_1) x24_2) == 1000000000) = false := beq_eq_false_iff_ne.mpr c11
                        have c11b1 : ((rd (rd_L1 l0 x17_1) x24_2) != 1000000000) = true := bne_iff_ne.mpr c11
                        by_cases c12 : x24_2 < (l3.length : Int)
                        · rw [if_pos c12] at H
                          have c12b0 : decide (x24_2 < (l3.length : Int)) = true := decide_eq_true c12
                          clear c12
                          replace H := Option.bind_eq_some_iff.mp H
                          obtain ⟨t375, A130, H⟩ := H
                          replace H : ((spec_l1Most.f x12_2 (wrap64 ((rd l3 x24_2) - t375))).bind fun t376 => (spec_dlNext.l1 k2 l0 l1 a2 l3 x9_1 x17_1 t376 l0 (l0.length : Int) x17_1 (rd_L1 l0 x17_1) ((rd_L1 l0 x17_1).length : Int) (wrap64 (x24_2 + 1)))) = some r := H
                          have A13 := Aside0.mk A130
                          clear A130
                          replace H := Option.bind_eq_some_iff.mp H
                          obtain ⟨t376, A140, H⟩ := H
                          replace H : (spec_dlNext.l1 k2 l0 l1 a2 l3 x9_1 x17_1 t376 l0 (l0.length : Int) x17_1 (rd_L1 l0 x17_1) ((rd_L1 l0 x17_1).length : Int) (wrap64 (x24_2 + 1))) = some r := H
                          have A14 := Aside0.mk A140
                          clear A140
                          have H' := Aside0.mk H
                          clear H
                          have p373 : 0 ≤ (x24_2 : Int) := of_decide_eq_true (by first | (with_reducible assumption) | assumption)
                          have q373 : x24_2 < ((rd_L1 l0 x17_1).length : Int) := of_decide_eq_true (by first | (with_reducible assumption) | assumption)
                          obtain ⟨ad373, e373, hx373_0⟩ := Kd.at_int HR369_0.out x24_2 p373 q373
                          cases e373
                          try replace hx373_0 := (HB.out.cell (World.block_lt_of_cell? w _ hx373_0)).trans hx373_0
                          replace p373 := eq_true p373
                          replace q373 := eq_true q373
                          have p374 : 0 ≤ (x24_2 : Int) := of_decide_eq_true (by first | (with_reducible assumption) | assumption)
                          have q374 : x24_2 < (l3.length : Int) := of_decide_eq_true (by first | (with_reducible assumption) | assumption)
                          obtain ⟨ad374, e374, hx374_0⟩ := Kd.at_int HR3.out x24_2 p374 q374
                          cases e374
                          try replace hx374_0 := (HB.out.cell (World.block_lt_of_cell? w _ hx374_0)).trans hx374_0
                          replace p374 := eq_true p374
                          replace q374 := eq_true q374
                          go_wp2_with (first | (go_at_call 53; (with_reducible refine (spec_dlBuffer.calls _ _ l0 _ _ l1 a2 x17_1 x24_2 t375 _ ?side1 ?side2 ?side3 ?side4 A13.out).mono ?_); (case side1 => repeat (first | exact (Kd.C_below HR0.out HB.out) | (with_reducible refine Kd.C_alloc ?_ _) | (with_reducible refine Kd.C_drewN ?_ _) | (with_reducible refine Kd.C_drew ?_))); (case side2 => exact HC0.out); (case side3 => repeat (first | exact (Kd.C_below HR1.out HB.out) | (with_reducible refine Kd.C_alloc ?_ _) | (with_reducible refine Kd.C_drewN ?_ _) | (with_reducible refine Kd.C_drew ?_))); (case side4 => exact HC1.out); rintro e w' ⟨rfl, ⟨nd, rfl⟩⟩; (try first | exact ⟨rfl, _, World.drewN_drewN _ _ _⟩ | exact ⟨rfl, _, Eq.trans (World.drewN_drewN _ _ _) (congrArg (World.drewN _) (Nat.add_assoc _ _ _))⟩)) | (go_at_call 85; (with_reducible refine (spec_l1Most.calls x12_2 (wrap64 ((rd l3 x24_2) - t375)) t376 _ A14.out).mono ?_); rintro e w' ⟨rfl, ⟨nd, rfl⟩⟩; (try first | exact ⟨rfl, _, World.drewN_drewN _ _ _⟩ | exact ⟨rfl, _, Eq.trans (World.drewN_drewN _ _ _) (congrArg (World.drewN _) (Nat.add_assoc _ _ _))⟩)))
                          repeat (go_quiet (first | (go_at_call 53; (with_reducible refine (spec_dlBuffer.calls _ _ l0 _ _ l1 a2 x17_1 x24_2 t375 _ ?side1 ?side2 ?side3 ?side4 A13.out).mono ?_); (case side1 => repeat (first | exact (Kd.C_below HR0.out HB.out) | (with_reducible refine Kd.C_alloc ?_ _) | (with_reducible refine Kd.C_drewN ?_ _) | (with_reducible refine Kd.C_drew ?_))); (case side2 => exact HC0.out); (case side3 => repeat (first | exact (Kd.C_below HR1.out HB.out) | (with_reducible refine Kd.C_alloc ?_ _) | (with_reducible refine Kd.C_drewN ?_ _) | (with_reducible refine Kd.C_drew ?_))); (case side4 => exact HC1.out); rintro e w' ⟨rfl, ⟨nd, rfl⟩⟩; (try first | exact ⟨rfl, _, World.drewN_drewN _ _ _⟩ | exact ⟨rfl, _, Eq.trans (World.drewN_drewN _ _ _) (congrArg (World.drewN _) (Nat.add_assoc _ _ _))⟩)) | (go_at_call 85; (with_reducible refine (spec_l1Most.calls x12_2 (wrap64 ((rd l3 x24_2) - t375)) t376 _ A14.out).mono ?_); rintro e w' ⟨rfl, ⟨nd, rfl⟩⟩; (try first | exact ⟨rfl, _, World.drewN_drewN _ _ _⟩ | exact ⟨rfl, _, Eq.trans (World.drewN_drewN _ _ _) (congrArg (World.drewN _) (Nat.add_assoc _ _ _))⟩))); try go_wp2_with (first | (go_at_call 53; (with_reducible refine (spec_dlBuffer.calls _ _ l0 _ _ l1 a2 x17_1 x24_2 t375 _ ?side1 ?side2 ?side3 ?side4 A13.out).mono ?_); (case side1 => repeat (first | exact (Kd.C_below HR0.out HB.out) | (with_reducible refine Kd.C_alloc ?_ _) | (with_reducible refine Kd.C_drewN ?_ _) | (with_reducible refine Kd.C_drew ?_))); (case side2 => exact HC0.out); (case side3 => repeat (first | exact (Kd.C_below HR1.out HB.out) | (with_reducible refine Kd.C_alloc ?_ _) | (with_reducible refine Kd.C_drewN ?_ _) | (with_reducible refine Kd.C_drew ?_))); (case side4 => exact HC1.out); rintro e w' ⟨rfl, ⟨nd, rfl⟩⟩; (try first | exact ⟨rfl, _, World.drewN_drewN _ _ _⟩ | exact ⟨rfl, _, Eq.trans (World.drewN_drewN _ _ _) (congrArg (World.drewN _) (Nat.add_assoc _ _ _))⟩)) | (go_at_call 85; (with_reducible refine (spec_l1Most.calls x12_2 (wrap64 ((rd l3 x24_2) - t375)) t376 _ A14.out).mono ?_); rintro e w' ⟨rfl, ⟨nd, rfl⟩⟩; (try first | exact ⟨rfl, _, World.drewN_drewN _ _ _⟩ | exact ⟨rfl, _, Eq.trans (World.drewN_drewN _ _ _) (congrArg (World.drewN _) (Nat.add_assoc _ _ _))⟩))))
                          go_roundg k2
                          case measure => have := HK1.out; have := HK2.out; omega
                          case rel => exact ⟨(t376), (wrap64 (x24_2 + 1)), (by first | rfl | (simp; done) | (simp [*]; done)), (by first | rfl | (simp; done) | (simp [*]; done)), H', ⟨by have := HK1.out; have := HK2.out; omega⟩, ⟨by (with_reducible repeat (first | apply Kd.R_alloc | apply Kd.R_drewN | apply Kd.R_drew)); exact HO_9.out⟩, ⟨by repeat (first | (with_reducible first | exact HB.out | apply below_alloc | apply pw_below_drewN | apply below_drew1) | exact HB.out)⟩⟩
                        · rw [if_neg c12] at H
                          exact absurd H (by simp)
                    · rw [if_neg c10] at H
                      exact absurd H (by simp)
                  · rw [if_neg c9] at H
                    exact absurd H (by simp)
                · rw [if_neg c8] at H
                  have c8b0 : decide (x24_2 < ((rd_L1 l0 x17_1).length : Int)) = false := decide_eq_false c8
                  clear c8
                  by_cases c15 : x9_1.length < 17592186044416
                  · rw [if_pos c15] at H
                    have LMc15 := Aside0.mk c15
                    clear c15
                    obtain ⟨y370, hy370⟩ : ∃ y_ : List Int, y_ = (x9_1 ++ [x12_2]) := ⟨_, rfl⟩
                    replace H : (spec_dlNext.l0 k2 l0 l1 a2 l3 y370 l0 (l0.length : Int) (wrap64 (x17_1 + 1))) = some r := by first | (rw [hy370]; with_reducible exact H) | (have H2_ := (Option.bind_some _ _).symm.trans H; rw [hy370]; with_reducible exact H2_) | (have H2_ := (Option.bind_some _ _).symm.trans H; with_reducible exact H2_) | with_reducible exact H | (rw [hy370]; exact H) | exact H
                    have Ny370 := Aside0.mk hy370
                    clear hy370
                    have H' := Aside0.mk H
                    clear H
                    go_wp2_with (first | ((with_reducible refine gate_builtin (b := .append) (xs := #[.tmp 45, .tmp 47]) rfl ?_); at_builtin; refine Kd.R_append (Kd.int .i64) (w0 := w) w.heap.size rfl (.tmp 45) (.tmp 47) 23 3 (.int .i64 0) 8 rfl Try.underlying23 info3 rfl (by decide) (by omega) u9 x9_1 x12_2 [.int .i64 x12_2] (fun _ => True) (fun _ => False) rfl rfl ?aP (fun _ hk => hk.elim) ?aF ?aO ?aB ?aS ?aL ?_; (case aP => exact rfl); (case aB => exact (by repeat (first | (with_reducible first | exact HB.out | apply below_alloc | apply pw_below_drewN | apply below_drew1) | exact HB.out))); (case aF => exact (fun _ _ => trivial)); (case aO => exact (by (with_reducible repeat (first | apply Kd.R_alloc | apply Kd.R_drewN | apply Kd.R_drew)); exact HO_9.out)); (case aS => exact (below_size (by repeat (first | (with_reducible first | exact HB.out | apply below_alloc | apply pw_below_drewN | apply below_drew1) | exact HB.out)))); (case aL => have := LMc15.out; omega); intro v371 w16 ho hb hg hat; rw [← Ny370.out] at ho; have n0_ := Aside0.mk (hb); have n1_ := Aside0.mk (ho); clear HB; clear HO_9; have HB := n0_; have HO372 := n1_; clear n0_ n1_; clear ho hb hg hat))
                    repeat (go_quiet (first | ((with_reducible refine gate_builtin (b := .append) (xs := #[.tmp 45, .tmp 47]) rfl ?_); at_builtin; refine Kd.R_append (Kd.int .i64) (w0 := w) w.heap.size rfl (.tmp 45) (.tmp 47) 23 3 (.int .i64 0) 8 rfl Try.underlying23 info3 rfl (by decide) (by omega) u9 x9_1 x12_2 [.int .i64 x12_2] (fun _ => True) (fun _ => False) rfl rfl ?aP (fun _ hk => hk.elim) ?aF ?aO ?aB ?aS ?aL ?_; (case aP => exact rfl); (case aB => exact (by repeat (first | (with_reducible first | exact HB.out | apply below_alloc | apply pw_below_drewN | apply below_drew1) | exact HB.out))); (case aF => exact (fun _ _ => trivial)); (case aO => exact (by (with_reducible repeat (first | apply Kd.R_alloc | apply Kd.R_drewN | apply Kd.R_drew)); exact HO_9.out)); (case aS => exact (below_size (by repeat (first | (with_reducible first | exact HB.out | apply below_alloc | apply pw_below_drewN | apply below_drew1) | exact HB.out)))); (case aL => have := LMc15.out; omega); intro v371 w16 ho hb hg hat; rw [← Ny370.out] at ho; have n0_ := Aside0.mk (hb); have n1_ := Aside0.mk (ho); clear HB; clear HO_9; have HB := n0_; have HO372 := n1_; clear n0_ n1_; clear ho hb hg hat)); try go_wp2_with (first | ((with_reducible refine gate_builtin (b := .append) (xs := #[.tmp 45, .tmp 47]) rfl ?_); at_builtin; refine Kd.R_append (Kd.int .i64) (w0 := w) w.heap.size rfl (.tmp 45) (.tmp 47) 23 3 (.int .i64 0) 8 rfl Try.underlying23 info3 rfl (by decide) (by omega) u9 x9_1 x12_2 [.int .i64 x12_2] (fun _ => True) (fun _ => False) rfl rfl ?aP (fun _ hk => hk.elim) ?aF ?aO ?aB ?aS ?aL ?_; (case aP => exact rfl); (case aB => exact (by repeat (first | (with_reducible first | exact HB.out | apply below_alloc | apply pw_below_drewN | apply below_drew1) | exact HB.out))); (case aF => exact (fun _ _ => trivial)); (case aO => exact (by (with_reducible repeat (first | apply Kd.R_alloc | apply Kd.R_drewN | apply Kd.R_drew)); exact HO_9.out)); (case aS => exact (below_size (by repeat (first | (with_reducible first | exact HB.out | apply below_alloc | apply pw_below_drewN | apply below_drew1) | exact HB.out)))); (case aL => have := LMc15.out; omega); intro v371 w16 ho hb hg hat; rw [← Ny370.out] at ho; have n0_ := Aside0.mk (hb); have n1_ := Aside0.mk (ho); clear HB; clear HO_9; have HB := n0_; have HO372 := n1_; clear n0_ n1_; clear ho hb hg hat)))
                    go_roundg k2
                    case measure => have := HK1.out; have := HK2.out; omega
                    case rel => exact ⟨(y370), (wrap64 (x17_1 + 1)), (by first | rfl | (simp; done) | (simp [*]; done)), H', ⟨by have := HK1.out; have := HK2.out; omega⟩, ⟨by (with_reducible repeat (first | apply Kd.R_alloc | apply Kd.R_drewN | apply Kd.R_drew)); exact HO372.out⟩, ⟨by repeat (first | (with_reducible first | exact HB.out | apply below_alloc | apply pw_below_drewN | apply below_drew1) | exact HB.out)⟩⟩
                  · rw [if_neg c15] at H
                    exact absurd H (by simp)
          · rw [if_neg c7] at H
            exact absurd H (by simp)
        · rw [if_neg c6] at H
          exact absurd H (by simp)
      · rw [if_neg c5] at H
        have c5b0 : decide (x17_1 < (l0.length : Int)) = false := decide_eq_false c5
        clear c5
        obtain rfl := Option.some.inj H
        go_wp2
        repeat (go_quiet (fail); try go_wp2)
        go_ret
        exact ⟨_, by first | rfl | (simp [errW_none, errW_some] <;> rfl) | (simp [*, errW_none, errW_some] <;> rfl), by (with_reducible repeat (first | apply Kd.R_alloc | apply Kd.R_drewN | apply Kd.R_drew)); exact HO_9.out, by repeat (first | (with_reducible first | exact HB.out | apply below_alloc | apply pw_below_drewN | apply below_drew1) | exact HB.out)⟩


end Go.Proofs.Ytebjiooojkhkpaa.X
