-- Shaken out of the printed texts.
import Derived.Test.YtebjiooojkhkpaaZFnBuffersWBX0
import Derived.Test.YtebjiooojkhkpaaZFnBuffersQ
import Derived.Test.YtebjiooojkhkpaaZFnBuffersX0
import Derived.Test.YtebjiooojkhkpaaZFnBuffersX1
namespace Go.Proofs.Ytebjiooojkhkpaa.X
open Go.RowKit Go.Proofs.YtebjiooojkhkpaaW.PrintWords Go.Proofs.YtebjiooojkhkpaaW.PrintLast Go.Proofs.YtebjiooojkhkpaaW.PrintMore
attribute [local go_sem] max2_int min2_int max_two min_two max_three min_three max_four min_four   -- for this text's walks alone
set_option linter.unusedVariables false
set_option linter.unusedSimpArgs false

/-! ### impl_plan_next: function 65 -/
/-- A plan's rounds: for each train and each one that it waits for, a step. -/
def impl_plan_next.row {σ : Type} (wt : Int → Int → Option Bool) (step : σ → Int → Int → Option σ) (i : Int) : Nat → Nat → σ → Option σ
  | 0, _, s => some s
  | m + 1, j, s => (wt i (j : Int)).bind fun b => (if b = true then step s i (j : Int) else some s).bind fun s => impl_plan_next.row wt step i m (j + 1) s
def impl_plan_next.all {σ : Type} (wt : Int → Int → Option Bool) (step : σ → Int → Int → Option σ) (n : Nat) : Nat → Nat → σ → Option σ
  | 0, _, s => some s
  | m + 1, i, s => (impl_plan_next.row wt step (i : Int) n 0 s).bind fun s => impl_plan_next.all wt step n m (i + 1) s
/-- each: where every visit takes the one state to the next, so does the whole. -/
theorem impl_plan_next.each {σ : Type} (g : Nat) (lb : Array Value) (eg : ∀ args w, (callFunc g args).run Try.prog w = .ok (.enter g args) w) (A0 : Option Addr) (c0 : Nat) (l0 : List (List Int)) (A1 : Option Addr) (c1 : Nat) (l1 : List Int) (a2 : Int)
    (hc0 : l0.length ≤ c0) (hc1 : l1.length ≤ c1) (hmax : l0.length ≤ 9223372036854775807) (step : σ → Int → Int → Option σ) (R : σ → World → Prop) (S : Nat → Prop) (w : World) (hS : ¬ S w.heap.size)
    (hC : ∀ s W, R s W → Kd.C (Kd.slice 3 (Kd.int .i64)) W A0 l0.length l0 ∧ Kd.C (Kd.int .i64) W A1 l1.length l1)
    (hb : ∀ s W W', R s W → Below W.heap.size W W' → R s W')
    (hv : ∀ s s' (i j : Nat) W, i < l0.length → j < l0.length → w.heap.size < W.heap.size → R s W → step s (i : Int) (j : Int) = some s' → Calls Try.prog g (#[.int .i64 (i : Int), .int .i64 (j : Int)] ++ lb) W fun e W' => e = .returned (.tuple #[]) ∧ R s' W' ∧ Kept W W' S)
    (s0 s1 : σ) (h0 : R s0 w) (h : impl_plan_next.all (fun i j => impl_plan_waits.f l0 l1 a2 i j) step l0.length l0.length 0 s0 = some s1) :
    Calls Try.prog 59 #[.agg #[.slice A0 l0.length c0, .slice A1 l1.length c1, .int .i64 a2], .func (.func g) #[] lb] w fun e w' => e = .returned (.tuple #[]) ∧ R s1 w' ∧ Kept w w' S := by
  have HS := A_ hS
  have HC := A_ hC
  have HBR := A_ hb
  have HV := A_ hv
  have H0 := A_ (hb s0 w _ h0 (below_alloc (Below.refl _ _) (Obj.cells #[.slice A0 l0.length c0, .slice A1 l1.length c1, .int .i64 a2] 63 (0, 0))))
  have H := A_ h
  clear hS hC hb hv h0 h
  go_enter Try.func59, Try.ntmps59
  go_wp2
  go_loopg [4, 9] l0.length (fun gk v4 v9 wr => ∃ (i : Nat) (s : σ), v9 = .int .i64 (i : Int) ∧ Aside0 (i + gk = l0.length) ∧ Aside0 (impl_plan_next.all (fun i j => impl_plan_waits.f l0 l1 a2 i j) step l0.length gk i s = some s1) ∧ Aside0 (R s wr) ∧ Aside0 (Kept w wr S) ∧ Aside0 (wr.heap[w.heap.size]? = some (.cells #[.slice A0 l0.length c0, .slice A1 l1.length c1, .int .i64 a2] 63 (0, 0))))
  case atStart => exact ⟨0, s0, rfl, ⟨by omega⟩, H, H0, ⟨Kept.alloc (Kept.refl _ _) _⟩, ⟨blk_new _ _⟩⟩
  case round =>
    clear H H0
    obtain ⟨i, s, rfl, HI, HA, HR, HK, BK⟩ := hrel
    cases gk with
    | zero =>
      have hlt : decide ((i : Int) < (l0.length : Int)) = false := by have := HI.out; simp; omega
      have hltn : decide (i < l0.length) = false := by have := HI.out; simp; omega
      have e := Option.some.inj HA.out
      subst e
      go_wp2
      go_end0
      exact ⟨rfl, HR.out, HK.out⟩
    | succ gi =>
      have hlt : decide ((i : Int) < (l0.length : Int)) = true := by have := HI.out; simp; omega
      have hltn : decide (i < l0.length) = true := by have := HI.out; simp; omega
      obtain ⟨s2, h2, h3⟩ := Option.bind_eq_some_iff.mp HA.out
      have H2 := A_ h2
      have H3 := A_ h3
      clear h2 h3 HA
      have hcz0 : wr.cell? ⟨w.heap.size, 0, none⟩ = some (.slice A0 l0.length c0) := (blk_cell BK.out 0).trans rfl
      have hfz0 := blk_frozen BK.out 0
      go_wp2
      clear hcz0 hfz0
      go_loopg [5, 15] l0.length (fun gj v5 v15 wr2 => ∃ (j : Nat) (t : σ), v15 = .int .i64 (j : Int) ∧ Aside0 (j + gj = l0.length) ∧ Aside0 (impl_plan_next.row (fun i j => impl_plan_waits.f l0 l1 a2 i j) step (i : Int) gj j t = some s2) ∧ Aside0 (R t wr2) ∧ Aside0 (Kept w wr2 S) ∧ Aside0 (wr2.heap[w.heap.size]? = some (.cells #[.slice A0 l0.length c0, .slice A1 l1.length c1, .int .i64 a2] 63 (0, 0))))
      case atStart => exact ⟨0, s, rfl, ⟨by omega⟩, H2, HR, HK, BK⟩
      case round =>
        clear HR HK BK H2
        obtain ⟨j, t, rfl, HJ, HA, HR, HK, BK⟩ := hrel
        cases gk with
        | zero =>
          have hlt2 : decide ((j : Int) < (l0.length : Int)) = false := by have := HJ.out; simp; omega
          have hlt2n : decide (j < l0.length) = false := by have := HJ.out; simp; omega
          have e := Option.some.inj HA.out
          subst e
          go_wp2
          go_roundg gi
          case measure => omega
          case rel => exact ⟨i + 1, t, congrArg (Value.int .i64) (by have := HI.out; unfold wrap64; omega), ⟨by have := HI.out; omega⟩, H3, HR, HK, BK⟩
        | succ gj =>
          have hlt2 : decide ((j : Int) < (l0.length : Int)) = true := by have := HJ.out; simp; omega
          have hlt2n : decide (j < l0.length) = true := by have := HJ.out; simp; omega
          obtain ⟨b, hw, h4⟩ := Option.bind_eq_some_iff.mp HA.out
          have HW := A_ hw
          have H4 := A_ h4
          clear HA hw h4
          have hcz0 : wr.cell? ⟨w.heap.size, 0, none⟩ = some (.slice A0 l0.length c0) := (blk_cell BK.out 0).trans rfl
          have hcz1 : wr.cell? ⟨w.heap.size, 1, none⟩ = some (.slice A1 l1.length c1) := (blk_cell BK.out 1).trans rfl
          have hcz2 : wr.cell? ⟨w.heap.size, 2, none⟩ = some (.int .i64 a2) := (blk_cell BK.out 2).trans rfl
          have hfz0 := blk_frozen BK.out 0
          have hfz1 := blk_frozen BK.out 1
          have hfz2 := blk_frozen BK.out 2
          have HLI := A_ (show i < l0.length by have := HI.out; omega)
          have HLJ := A_ (show j < l0.length by have := HJ.out; omega)
          cases b with
          | false =>
            go_wp2_with fail
            refine (impl_plan_waits.calls A0 c0 l0 A1 c1 l1 a2 (i : Int) (j : Int) false wr (HC.out _ _ HR.out).1 hc0 (HC.out _ _ HR.out).2 hc1 HW.out).mono ?_
            rintro e w1 ⟨rfl, hb1⟩
            have HB1 := A_ hb1
            clear hb1 hcz0 hcz1 hcz2 hfz0 hfz1 hfz2
            go_wp2
            go_roundg gj
            case measure => omega
            case rel => exact ⟨j + 1, t, congrArg (Value.int .i64) (by have := HJ.out; unfold wrap64; omega), ⟨by have := HJ.out; omega⟩, H4, ⟨HBR.out _ _ _ HR.out HB1.out⟩, ⟨HK.out.below HB1.out⟩, ⟨blk_below BK.out HB1.out⟩⟩
          | true =>
            obtain ⟨t2, h5, h6⟩ := Option.bind_eq_some_iff.mp H4.out
            have H5 := A_ (show step t (i : Int) (j : Int) = some t2 from h5)
            have H6 := A_ h6
            clear h5 h6 H4
            go_wp2_with fail
            refine (impl_plan_waits.calls A0 c0 l0 A1 c1 l1 a2 (i : Int) (j : Int) true wr (HC.out _ _ HR.out).1 hc0 (HC.out _ _ HR.out).2 hc1 HW.out).mono ?_
            rintro e w1 ⟨rfl, hb1⟩
            have HB1 := A_ hb1
            clear hb1 hcz0 hcz1 hcz2 hfz0 hfz1 hfz2
            go_wp2_with fail
            refine (HV.out t t2 i j w1 HLI.out HLJ.out (blk_lt (blk_below BK.out HB1.out)) (HBR.out _ _ _ HR.out HB1.out) H5.out).mono ?_
            rintro e w2 ⟨rfl, hr2, hk2⟩
            have HR2 := A_ hr2
            have HK2 := A_ hk2
            clear hr2 hk2
            go_wp2
            go_roundg gj
            case measure => omega
            case rel => exact ⟨j + 1, t2, congrArg (Value.int .i64) (by have := HJ.out; unfold wrap64; omega), ⟨by have := HJ.out; omega⟩, H6, HR2, ⟨(HK.out.below HB1.out).then_ HK2.out (fun k hk => .inl hk)⟩, ⟨blk_kept (blk_below BK.out HB1.out) HK2.out HS.out⟩⟩
/-- One visit of next: a number of the delays is raised. -/
def impl_plan_next.step (l0 : List (List Int)) (l1 : List Int) (a2 : Int) (x : List Int) (s : List Int) (i j : Int) : Option (List Int) := if 0 ≤ i then (if i < (s.length : Int) then (if 0 ≤ j then (if j < (x.length : Int) then (impl_plan_buffer.f l0 l1 a2 i j).bind fun b => some (s.set i.toNat (mx (rd s i) (wrap64 ((rd x j) - b)))) else none) else none) else none) else none
set_option maxHeartbeats 8000000 in
set_option maxRecDepth 100000 in
theorem impl_plan_next.visit (A0 : Option Addr) (c0 : Nat) (l0 : List (List Int)) (A1 : Option Addr) (c1 : Nat) (l1 : List Int) (a2 : Int) (Ax : Option Addr) (cx : Nat) (x : List Int) (v : Value) (s s' : List Int) (base : Nat) (ok : Nat → Prop) (Bo Bx Bp : Nat) (i j : Int) (w : World)
    (hr0 : Kd.C (Kd.slice 3 (Kd.int .i64)) w A0 l0.length l0) (hc0 : l0.length ≤ c0) (hr1 : Kd.C (Kd.int .i64) w A1 l1.length l1) (hc1 : l1.length ≤ c1) (hrx : Kd.C (Kd.int .i64) w Ax x.length x)
    (hv : Kd.R (Kd.int .i64) 3 w base ok v s) (hbo : w.heap[Bo]? = some (.cells #[v] 23 (0, 0))) (hbx : w.heap[Bx]? = some (.cells #[.slice Ax x.length cx] 23 (0, 0))) (hbp : w.heap[Bp]? = some (.cells #[.slice A0 l0.length c0, .slice A1 l1.length c1, .int .i64 a2] 63 (0, 0)))
    (h : impl_plan_next.step l0 l1 a2 x s i j = some s') :
    Calls Try.prog 87 #[.int .i64 i, .int .i64 j, .pointer (some ⟨Bo, 0, none⟩), .pointer (some ⟨Bx, 0, none⟩), .pointer (some ⟨Bp, 0, none⟩)] w fun e w' => e = .returned (.tuple #[]) ∧ Kd.R (Kd.int .i64) 3 w' base ok v s' ∧ Kept w w' (fun k => some k = v.ownBlock) ∧ ∀ u : World, Below u.heap.size u w → (∀ k, v.ownBlock = some k → u.heap.size ≤ k) → Below u.heap.size u w' := by
  unfold impl_plan_next.step at h
  by_cases h1 : 0 ≤ i
  · by_cases h2 : i < (s.length : Int)
    · by_cases h3 : 0 ≤ j
      · by_cases h4 : j < (x.length : Int)
        · rw [if_pos h1, if_pos h2, if_pos h3, if_pos h4] at h
          obtain ⟨b, hb, h⟩ := Option.bind_eq_some_iff.mp h
          obtain rfl := Option.some.inj h
          clear h
          have HBF := A_ hb
          have HR0 := A_ hr0
          have HR1 := A_ hr1
          obtain ⟨adx, ex, hxj⟩ := Kd.at_int hrx j h3 h4
          cases ex
          obtain ⟨go, co, eo, gb, gl, cl, HG⟩ := Kd.R_form hv (by omega)
          subst eo
          have GB := A_ gb
          have HV := A_ hv
          obtain ⟨hxo, hfo⟩ := Kd.R_celln 0 hv i h1 h2
          have hcz0 : w.cell? ⟨Bp, 0, none⟩ = some (.slice A0 l0.length c0) := (blk_cell hbp 0).trans rfl
          have hcz1 : w.cell? ⟨Bp, 1, none⟩ = some (.slice A1 l1.length c1) := (blk_cell hbp 1).trans rfl
          have hcz2 : w.cell? ⟨Bp, 2, none⟩ = some (.int .i64 a2) := (blk_cell hbp 2).trans rfl
          have hczo : w.cell? ⟨Bo, 0, none⟩ = some (.slice (some ⟨go, 0, none⟩) s.length co) := (blk_cell hbo 0).trans rfl
          have hczx : w.cell? ⟨Bx, 0, none⟩ = some (.slice (some adx) x.length cx) := (blk_cell hbx 0).trans rfl
          have p1 := eq_true h1
          have p2 := eq_true h2
          have p3 := eq_true h3
          have p4 := eq_true h4
          clear hr0 hr1 hrx gb gl cl HG hv hb
          go_enter Try.func87, Try.ntmps87
          refine start_ (n := 18) (S := fun w' => w'.cell? ⟨Bo, 0, none⟩ = some (.slice (some ⟨go, 0, none⟩) s.length co) ∧ w'.cell? ⟨Bx, 0, none⟩ = some (.slice (some adx) x.length cx) ∧ w'.cell? ⟨Bp, 0, none⟩ = some (.slice A0 l0.length c0) ∧ w'.cell? ⟨Bp, 1, none⟩ = some (.slice A1 l1.length c1) ∧ w'.cell? ⟨Bp, 2, none⟩ = some (.int .i64 a2) ∧ w'.cell? (adx.add j.toNat) = some (.int .i64 (rd x j)) ∧ w'.cell? ⟨go, i.toNat, none⟩ = some (.int .i64 (rd s i))) (ds := [17]) #[false, false, false, false, false, false, false, false, false, false, false, false, false, false, false, false, false, false] kr_ rfl rfl ⟨hczo, hczx, hcz0, hcz1, hcz2, hxj, hxo⟩ (fun hHeld => ?_)
          refine take_ (i := 0) (N := some 7) (v := ?_) (a' := ?_) #[true, false, false, false, false, false, false, false, false, false, false, false, false, false, false, false, false, false] rfl rfl kr_ (fun _ _ _ h => h) (Or.inl ⟨by rfl, ?_⟩) hHeld ?_ ?_
          rotate_left
          · rintro w' ⟨s0, s1, s2, s3, s4, s5, s6⟩
            go_simp
            with_reducible rfl
          rotate_left
          · simp only [Act.put, List.setIfInBounds_toArray, List.set_cons_zero, List.set_cons_succ, i64_w, i32_w]
            rfl
          refine pure_ (i := 1) (N := some 8) (v := ?_) (a' := ?_) #[true, true, false, false, false, false, false, false, false, false, false, false, false, false, false, false, false, false] rfl rfl kr_ (fun _ _ _ h => h) (Or.inl ⟨by rfl, ?_⟩) ?_ ?_
          rotate_left
          · intro w'
            go_simp
            with_reducible rfl
          rotate_left
          · simp only [Act.put, List.setIfInBounds_toArray, List.set_cons_zero, List.set_cons_succ, i64_w, i32_w]
            rfl
          refine take_ (i := 2) (N := some 9) (v := ?_) (a' := ?_) #[true, true, true, false, false, false, false, false, false, false, false, false, false, false, false, false, false, false] rfl rfl kr_ (fun _ _ _ h => h) (Or.inl ⟨by rfl, ?_⟩) hHeld ?_ ?_
          rotate_left
          · rintro w' ⟨s0, s1, s2, s3, s4, s5, s6⟩
            go_simp
            with_reducible rfl
          rotate_left
          · simp only [Act.put, List.setIfInBounds_toArray, List.set_cons_zero, List.set_cons_succ, i64_w, i32_w]
            rfl
          refine pure_ (i := 3) (N := some 10) (v := ?_) (a' := ?_) #[true, true, true, true, false, false, false, false, false, false, false, false, false, false, false, false, false, false] rfl rfl kr_ (fun _ _ _ h => h) (Or.inl ⟨by rfl, ?_⟩) ?_ ?_
          rotate_left
          · intro w'
            go_simp
            with_reducible rfl
          rotate_left
          · simp only [Act.put, List.setIfInBounds_toArray, List.set_cons_zero, List.set_cons_succ, i64_w, i32_w]
            rfl
          refine pure_ (i := 4) (N := some 11) (v := ?_) (a' := ?_) #[true, true, true, true, true, false, false, false, false, false, false, false, false, false, false, false, false, false] rfl rfl kr_ (fun _ _ _ h => h) (Or.inl ⟨by rfl, ?_⟩) ?_ ?_
          rotate_left
          · intro w'
            go_simp
            with_reducible rfl
          rotate_left
          · simp only [Act.put, List.setIfInBounds_toArray, List.set_cons_zero, List.set_cons_succ, i64_w, i32_w]
            rfl
          refine take_ (i := 5) (N := some 12) (v := ?_) (a' := ?_) #[true, true, true, true, true, true, false, false, false, false, false, false, false, false, false, false, false, false] rfl rfl kr_ (fun _ _ _ h => h) (Or.inl ⟨by rfl, ?_⟩) hHeld ?_ ?_
          rotate_left
          · rintro w' ⟨s0, s1, s2, s3, s4, s5, s6⟩
            go_simp
            with_reducible rfl
          rotate_left
          · simp only [Act.put, List.setIfInBounds_toArray, List.set_cons_zero, List.set_cons_succ, i64_w, i32_w]
            rfl
          refine take_ (i := 6) (N := some 13) (v := ?_) (a' := ?_) #[true, true, true, true, true, true, true, false, false, false, false, false, false, false, false, false, false, false] rfl rfl kr_ (fun _ _ _ h => h) (Or.inl ⟨by rfl, ?_⟩) hHeld ?_ ?_
          rotate_left
          · rintro w' ⟨s0, s1, s2, s3, s4, s5, s6⟩
            go_simp
            with_reducible rfl
          rotate_left
          · simp only [Act.put, List.setIfInBounds_toArray, List.set_cons_zero, List.set_cons_succ, i64_w, i32_w]
            rfl
          refine pure_ (i := 7) (N := some 14) (v := ?_) (a' := ?_) #[true, true, true, true, true, true, true, true, false, false, false, false, false, false, false, false, false, false] rfl rfl kr_ (fun _ _ _ h => h) (Or.inl ⟨by rfl, ?_⟩) ?_ ?_
          rotate_left
          · intro w'
            go_simp
            with_reducible rfl
          rotate_left
          · simp only [Act.put, List.setIfInBounds_toArray, List.set_cons_zero, List.set_cons_succ, i64_w, i32_w]
            rfl
          refine pure_ (i := 8) (N := some 15) (v := ?_) (a' := ?_) #[true, true, true, true, true, true, true, true, true, false, false, false, false, false, false, false, false, false] rfl rfl kr_ (fun _ _ _ h => h) (Or.inl ⟨by rfl, ?_⟩) ?_ ?_
          rotate_left
          · intro w'
            go_simp
            with_reducible rfl
          rotate_left
          · simp only [Act.put, List.setIfInBounds_toArray, List.set_cons_zero, List.set_cons_succ, i64_w, i32_w]
            rfl
          refine take_ (i := 9) (N := some 16) (v := ?_) (a' := ?_) #[true, true, true, true, true, true, true, true, true, true, false, false, false, false, false, false, false, false] rfl rfl kr_ (fun _ _ _ h => h) (Or.inl ⟨by rfl, ?_⟩) hHeld ?_ ?_
          rotate_left
          · rintro w' ⟨s0, s1, s2, s3, s4, s5, s6⟩
            go_simp
            with_reducible rfl
          rotate_left
          · simp only [Act.put, List.setIfInBounds_toArray, List.set_cons_zero, List.set_cons_succ, i64_w, i32_w]
            rfl
          refine take_ (i := 10) (N := some 17) (v := ?_) (a' := ?_) #[true, true, true, true, true, true, true, true, true, true, true, false, false, false, false, false, false, false] rfl rfl kr_ (fun _ _ _ h => h) (Or.inl ⟨by rfl, ?_⟩) hHeld ?_ ?_
          rotate_left
          · rintro w' ⟨s0, s1, s2, s3, s4, s5, s6⟩
            go_simp
            with_reducible rfl
          rotate_left
          · simp only [Act.put, List.setIfInBounds_toArray, List.set_cons_zero, List.set_cons_succ, i64_w, i32_w]
            rfl
          refine pure_ (i := 11) (N := some 18) (v := ?_) (a' := ?_) #[true, true, true, true, true, true, true, true, true, true, true, true, false, false, false, false, false, false] rfl rfl kr_ (fun _ _ _ h => h) (Or.inl ⟨by rfl, ?_⟩) ?_ ?_
          rotate_left
          · intro w'
            go_simp
            with_reducible rfl
          rotate_left
          · simp only [Act.put, List.setIfInBounds_toArray, List.set_cons_zero, List.set_cons_succ, i64_w, i32_w]
            rfl
          refine pure_ (i := 12) (N := some 19) (v := ?_) (a' := ?_) #[true, true, true, true, true, true, true, true, true, true, true, true, true, false, false, false, false, false] rfl rfl kr_ (fun _ _ _ h => h) (Or.inl ⟨by rfl, ?_⟩) ?_ ?_
          rotate_left
          · intro w'
            go_simp
            with_reducible rfl
          rotate_left
          · simp only [Act.put, List.setIfInBounds_toArray, List.set_cons_zero, List.set_cons_succ, i64_w, i32_w]
            rfl
          refine one_ (i := 13) (N := some 20) #[true, true, true, true, true, true, true, true, true, true, true, true, true, true, false, false, false, false] rfl rfl kr_ (by decide) (fun K hK => ?_)
          refine goes_ Try.func57 kr_ rfl #[.agg #[.slice A0 l0.length c0, .slice A1 l1.length c1, .int .i64 a2], .int .i64 i, .int .i64 j] (by rfl) rfl rfl (by (try simp only [List.map_toArray, List.map_cons, List.map_nil]); first | done | rfl) ?_
          refine (impl_plan_buffer.calls A0 c0 l0 A1 c1 l1 a2 i j b _ (Kd.C_drew HR0.out) hc0 (Kd.C_drew HR1.out) hc1 HBF.out).mono ?_
          rintro e w1 ⟨rfl, hb1⟩
          refine ⟨_, rfl, ?_⟩
          have hb2 : Below w.heap.size w w1 := below_step (below_drew (Below.refl _ _)) hb1
          have HB1 := A_ hb2
          refine hK.out _ _ ⟨pw_cell_below hb2 hczo, pw_cell_below hb2 hczx, pw_cell_below hb2 hcz0, pw_cell_below hb2 hcz1, pw_cell_below hb2 hcz2, pw_cell_below hb2 hxj, pw_cell_below hb2 hxo⟩ (fun hHeld => ?_)
          clear hK K hb1 hb2
          have HV1 := A_ (Kd.R_below HV.out HB1.out)
          obtain ⟨hx1, hf1⟩ := Kd.R_celln 0 HV1.out i h1 h2
          refine norm_ (a' := ?_) ?_ ?_
          rotate_left
          · simp only [Act.put, List.setIfInBounds_toArray, List.set_cons_zero, List.set_cons_succ, i64_w, i32_w]
            rfl
          refine pure_ (i := 14) (N := some 21) (v := ?_) (a' := ?_) #[true, true, true, true, true, true, true, true, true, true, true, true, true, true, true, false, false, false] rfl rfl kr_ (fun _ _ _ h => h) (Or.inl ⟨by rfl, ?_⟩) ?_ ?_
          rotate_left
          · intro w'
            go_simp
            with_reducible rfl
          rotate_left
          · simp only [Act.put, List.setIfInBounds_toArray, List.set_cons_zero, List.set_cons_succ, i64_w, i32_w]
            rfl
          refine pure_ (i := 15) (N := some 22) (v := ?_) (a' := ?_) #[true, true, true, true, true, true, true, true, true, true, true, true, true, true, true, true, false, false] rfl rfl kr_ (fun _ _ _ h => h) (Or.inl ⟨by rfl, ?_⟩) ?_ ?_
          rotate_left
          · intro w'
            go_simp
            with_reducible rfl
          rotate_left
          · simp only [Act.put, List.setIfInBounds_toArray, List.set_cons_zero, List.set_cons_succ, i64_w, i32_w]
            rfl
          refine pure_ (i := 16) (N := some 23) (v := ?_) (a' := ?_) #[true, true, true, true, true, true, true, true, true, true, true, true, true, true, true, true, true, false] rfl rfl kr_ (fun _ _ _ h => h) (Or.inl ⟨by rfl, ?_⟩) ?_ ?_
          rotate_left
          · intro w'
            go_simp
            with_reducible rfl
          rotate_left
          · simp only [Act.put, List.setIfInBounds_toArray, List.set_cons_zero, List.set_cons_succ, i64_w, i32_w]
            rfl
          refine last_ (i := 17) (N := none) #[true, true, true, true, true, true, true, true, true, true, true, true, true, true, true, true, true, true] rfl rfl kr_ (by decide) (fun K hK => ?_)
          refine skip_ (w1 := w1.setCell ⟨go, i.toNat, none⟩ (.int .i64 (mx (rd s i) (wrap64 (rd x j - b))))) (by rfl) rfl ?_ ?_
          · first | (go_simp; done) | (go_simp; rfl)
          refine hK.out _ _ ?_
          clear hK K
          refine done_ kr_ ?_
          have HP := Kd.R_putg HV1.out i (mx (rd s i) (wrap64 (rd x j - b)))
          go_end0
          exact ⟨rfl, HP.1, Kept.of_grown HP.2 (Kept.of_below HB1.out _) (fun k hk => .inl (by rw [← hk]; simp [Value.ownBlock])), fun u hu hq => below_set (below_then hu hu.size (below_weaken (Below.refl _ _) (Nat.le_refl _) HB1.out)) (hq go (by simp [Value.ownBlock]))⟩
        · rw [if_pos h1, if_pos h2, if_pos h3, if_neg h4] at h
          cases h
      · rw [if_pos h1, if_pos h2, if_neg h3] at h
        cases h
    · rw [if_pos h1, if_neg h2] at h
      cases h
  · rw [if_neg h1] at h
    cases h
/-- What a round of next keeps: the row that is made, the rows that came in, the variables. -/
def impl_plan_next.Keeps (w : World) (base : Nat) (Bo : Nat) (A0 : Option Addr) (c0 : Nat) (l0 : List (List Int)) (A1 : Option Addr) (c1 : Nat) (l1 : List Int) (a2 : Int) (Ax : Option Addr) (cx : Nat) (x : List Int) (v : Value) (s : List Int) (W : World) : Prop :=
  Kd.R (Kd.int .i64) 3 W base (fun _ => True) v s ∧ Kd.F (Kd.slice 3 (Kd.int .i64)) W (fun k => k < w.heap.size) A0 l0.length l0 ∧ Kd.F (Kd.int .i64) W (fun k => k < w.heap.size) A1 l1.length l1 ∧ Kd.F (Kd.int .i64) W (fun k => k < w.heap.size) Ax x.length x ∧
  W.heap[Bo]? = some (.cells #[v] 23 (0, 0)) ∧ W.heap[w.heap.size + 1]? = some (.cells #[.slice Ax x.length cx] 23 (0, 0)) ∧ W.heap[w.heap.size]? = some (.cells #[.slice A0 l0.length c0, .slice A1 l1.length c1, .int .i64 a2] 63 (0, 0)) ∧ Below w.heap.size w W
def impl_plan_next.f (l0_0 : List (List Int)) (l0_1 : List Int) (a0_2 : Int) (l1 : List Int) : Option (List Int) := if l1.length ≤ 35184372088832 then impl_plan_next.all (fun i j => impl_plan_waits.f l0_0 l0_1 a0_2 i j) (fun s i j => impl_plan_next.step l0_0 l0_1 a0_2 l1 s i j) l0_0.length l0_0.length 0 (List.replicate l1.length 0) else none
set_option maxHeartbeats 8000000 in
set_option maxRecDepth 100000 in
theorem impl_plan_next.calls (A0_0 : Option Addr) (c0_0 : Nat) (l0_0 : List (List Int)) (A0_1 : Option Addr) (c0_1 : Nat) (l0_1 : List Int) (a0_2 : Int) (A1 : Option Addr) (c1 : Nat) (l1 : List Int) (r : List Int) (w : World) (hr0_0 : Kd.C (Kd.slice 3 (Kd.int .i64)) w A0_0 l0_0.length l0_0) (hc0_0 : l0_0.length ≤ c0_0) (hr0_1 : Kd.C (Kd.int .i64) w A0_1 l0_1.length l0_1) (hc0_1 : l0_1.length ≤ c0_1) (hr1 : Kd.C (Kd.int .i64) w A1 l1.length l1) (hc1 : l1.length ≤ c1) (h : impl_plan_next.f l0_0 l0_1 a0_2 l1 = some r) :
    Calls Try.prog 65 #[.agg #[.slice A0_0 l0_0.length c0_0, .slice A0_1 l0_1.length c0_1, .int .i64 a0_2], .slice A1 l1.length c1] w fun e w' => ∃ v0_ : Value, e = .returned (v0_) ∧ Kd.R (Kd.int .i64) 3 w' w.heap.size (fun _ => True) v0_ r ∧ Below w.heap.size w w' := by
  have hm : l0_0.length ≤ 9223372036854775807 := hr0_0.2.1
  unfold impl_plan_next.f at h
  by_cases hl : l1.length ≤ 35184372088832
  · rw [if_pos hl] at h
    have HR0 := A_ hr0_0
    have HR1 := A_ hr0_1
    have HRX := A_ hr1
    have H := A_ h
    have c2b1 : decide (0 ≤ (l1.length : Int)) = true := by simp
    have c3b1 : decide (((l1.length : Int) : Int).toNat ≤ 35184372088832) = true := by simp; exact hl
    clear hr0_0 hr0_1 hr1 h
    have HB := A_ (Below.refl w.heap.size w)
    go_enter Try.func65, Try.ntmps65
    go_upto_region 2 with (first | ((with_reducible refine gate_dst (N := 8) rfl ?_); refine Kd.R_make (Kd.int .i64) _ 3 rfl (N := 8) rfl 23 _ _ rfl (l1.length : Int) rfl rfl Try.underlying23 (.int .i64 0) 8 info3 rfl (by decide) (by omega) 0 (ok := fun _ => True) (okp := fun _ => True) rfl (fun _ hk => hk) trivial (od_) (Nat.le_trans (Nat.mul_le_mul_right _ (od_ : (l1.length : Int).toNat ≤ 35184372088832)) (by omega)) (Below.refl _ _) (Nat.le_refl _) ?_; intro v142 w4 ho5 hb hg_ hnew_; clear hg_ hnew_; have HO := A_ ho5; have HB4 := A_ hb; clear ho5 hb; obtain ⟨Av, cv, ev⟩ := Kd.R_slice HO.out; subst ev; have BP := blk_below (blk_alloc (blk_new w (Obj.cells #[.slice A0_0 l0_0.length c0_0, .slice A0_1 l0_1.length c0_1, .int .i64 a0_2] 63 (0, 0))) _) HB4.out; have BX := blk_below (blk_new (w.alloc (Obj.cells #[.slice A0_0 l0_0.length c0_0, .slice A0_1 l0_1.length c0_1, .int .i64 a0_2] 63 (0, 0))) (Obj.cells #[.slice A1 l1.length c1] 23 (0, 0))) HB4.out; rw [show (w.alloc (Obj.cells #[.slice A0_0 l0_0.length c0_0, .slice A0_1 l0_1.length c0_1, .int .i64 a0_2] 63 (0, 0))).heap.size = w.heap.size + 1 by simp [World.alloc_eq]] at BX))
    have hOb : Kd.R (Kd.int .i64) 3 w4 (w.heap.size + 2) (fun _ => True) (.slice Av l1.length cv) (List.replicate l1.length 0) := by
      have h := HO.out
      simp only [List.length_replicate, Int.toNat_natCast] at h
      have e2 : ((w.alloc (Obj.cells #[.slice A0_0 l0_0.length c0_0, .slice A0_1 l0_1.length c0_1, .int .i64 a0_2] 63 (0, 0))).alloc (Obj.cells #[.slice A1 l1.length c1] 23 (0, 0))).heap.size = w.heap.size + 2 := by simp [World.alloc_eq]
      rw [e2] at h
      exact h
    have hBb : Below w.heap.size w w4 := below_step (below_alloc (below_alloc (Below.refl _ _) _) _) HB4.out
    have BO := blk_new w4 (Obj.cells #[.slice Av l1.length cv] 23 (0, 0))
    have BP5 := blk_alloc BP (Obj.cells #[.slice Av l1.length cv] 23 (0, 0))
    have BX5 := blk_alloc BX (Obj.cells #[.slice Av l1.length cv] 23 (0, 0))
    have hOb5 := Kd.R_alloc hOb (Obj.cells #[.slice Av l1.length cv] 23 (0, 0))
    have hlt4 := Kd.R_lt hOb
    have hB5 := below_alloc hBb (Obj.cells #[.slice Av l1.length cv] 23 (0, 0))
    clear HO HB4 hOb hBb
    generalize w4.alloc (Obj.cells #[.slice Av l1.length cv] 23 (0, 0)) = w5 at BO BP5 BX5 hOb5 hB5 ⊢
    generalize w4.heap.size = Bo at BO hlt4 ⊢
    have hbase := Kd.R_base hOb5
    have hltB := blk_lt BO
    have eg : ∀ args w, (callFunc 87 args).run Try.prog w = .ok (.enter 87 args) w := Ext.entersOf Try.func87 kr_ rfl
    have HE := A_ (impl_plan_next.each 87 #[.pointer (some ⟨Bo, 0, none⟩), .pointer (some ⟨w.heap.size + 1, 0, none⟩), .pointer (some ⟨w.heap.size, 0, none⟩)] eg A0_0 c0_0 l0_0 A0_1 c0_1 l0_1 a0_2 hc0_0 hc0_1 hm (fun s i j => impl_plan_next.step l0_0 l0_1 a0_2 l1 s i j) (fun s W => impl_plan_next.Keeps w (w.heap.size + 2) Bo A0_0 c0_0 l0_0 A0_1 c0_1 l0_1 a0_2 A1 c1 l1 (.slice Av l1.length cv) s W) (fun k => some k = (Value.slice Av l1.length cv).ownBlock) w5
      (fun hk => by have := hlt4 _ hk.symm; omega)
      (fun s W h => ⟨Kd.F_now h.2.1, Kd.F_now h.2.2.1⟩)
      (fun s W W' h hW => ⟨Kd.R_below h.1 hW, Kd.F_below h.2.1 hW, Kd.F_below h.2.2.1 hW, Kd.F_below h.2.2.2.1 hW, blk_below h.2.2.2.2.1 hW, blk_below h.2.2.2.2.2.1 hW, blk_below h.2.2.2.2.2.2.1 hW, below_step h.2.2.2.2.2.2.2 hW⟩)
      (fun s s' i j W hi hj _ h hs => by
        refine (impl_plan_next.visit A0_0 c0_0 l0_0 A0_1 c0_1 l0_1 a0_2 A1 c1 l1 (.slice Av l1.length cv) s s' (w.heap.size + 2) (fun _ => True) Bo (w.heap.size + 1) w.heap.size (i : Int) (j : Int) W (Kd.F_now h.2.1) hc0_0 (Kd.F_now h.2.2.1) hc0_1 (Kd.F_now h.2.2.2.1) h.1 h.2.2.2.2.1 h.2.2.2.2.2.1 h.2.2.2.2.2.2.1 hs).mono ?_
        rintro e W' ⟨rfl, hr, hk, hbw⟩
        exact ⟨rfl, ⟨hr, Kd.F_kept h.2.1 hk (fun k h1 h2 => by have := hbase k h2.symm; omega), Kd.F_kept h.2.2.1 hk (fun k h1 h2 => by have := hbase k h2.symm; omega), Kd.F_kept h.2.2.2.1 hk (fun k h1 h2 => by have := hbase k h2.symm; omega), blk_kept h.2.2.2.2.1 hk (fun h2 => by have := hlt4 _ h2.symm; omega), blk_kept h.2.2.2.2.2.1 hk (fun h2 => by have := hbase _ h2.symm; omega), blk_kept h.2.2.2.2.2.2.1 hk (fun h2 => by have := hbase _ h2.symm; omega), hbw w h.2.2.2.2.2.2.2 (fun k h2 => by have := hbase k h2; omega)⟩, hk⟩)
      _ r ⟨hOb5, Kd.F_below (Kd.C_F (Kd.heap_slice 3 (Kd.heap_int .i64)) HR0.out) hB5, Kd.F_below (Kd.C_F (Kd.heap_int .i64) HR1.out) hB5, Kd.F_below (Kd.C_F (Kd.heap_int .i64) HRX.out) hB5, BO, BX5, BP5, hB5⟩ H.out)
    have hcz0 : w5.cell? ⟨w.heap.size, 0, none⟩ = some (.slice A0_0 l0_0.length c0_0) := (blk_cell BP5 0).trans rfl
    have hcz1 : w5.cell? ⟨w.heap.size, 1, none⟩ = some (.slice A0_1 l0_1.length c0_1) := (blk_cell BP5 1).trans rfl
    have hcz2 : w5.cell? ⟨w.heap.size, 2, none⟩ = some (.int .i64 a0_2) := (blk_cell BP5 2).trans rfl
    have hmf : ∀ (fn : Fn) (first cap : Array Value) (w : World), (Instr.makeFunc fn first cap).run Try.prog w = .ok (.func fn first cap) w := fun _ _ _ _ => rfl
    clear BP BX BP5 BX5 hOb5 hlt4 hbase hltB eg BO hB5
    go_wp2_with fail
    refine HE.out.mono ?_
    rintro e w6 ⟨rfl, hr6, _⟩
    have hczo6 : w6.cell? ⟨Bo, 0, none⟩ = some (.slice Av l1.length cv) := (blk_cell hr6.2.2.2.2.1 0).trans rfl
    have H6 := A_ hr6
    clear hr6 hcz0 hcz1 hcz2 HE
    go_wp2
    go_ret
    exact ⟨_, rfl, Kd.R_lower H6.out.1 (by omega), H6.out.2.2.2.2.2.2.2⟩
  · rw [if_neg hl] at h
    cases h
/-! ### impl_LeastBuffer: function 24 -/
/-- One visit: the first pair, or one with a smaller buffer. (A plan's rounds: 65.) -/
def impl_LeastBuffer.step (l0 : List (List Int)) (l1 : List Int) (a2 : Int) (s : Int × Int × Bool) (i j : Int) : Option (Int × Int × Bool) := if s.2.2 = true then (impl_plan_buffer.f l0 l1 a2 i j).bind fun x => (impl_plan_buffer.f l0 l1 a2 s.1 s.2.1).bind fun y => some (if x < y then (i, j, true) else s) else some (i, j, true)
set_option maxHeartbeats 8000000 in
set_option maxRecDepth 100000 in
theorem impl_LeastBuffer.visit (A0 : Option Addr) (c0 : Nat) (l0 : List (List Int)) (A1 : Option Addr) (c1 : Nat) (l1 : List Int) (a2 : Int) (s s' : Int × Int × Bool) (Ba Bb Bf Bp : Nat) (i j : Int) (w : World)
    (hr0 : Kd.C (Kd.slice 3 (Kd.int .i64)) w A0 l0.length l0) (hc0 : l0.length ≤ c0) (hr1 : Kd.C (Kd.int .i64) w A1 l1.length l1) (hc1 : l1.length ≤ c1)
    (hba : w.heap[Ba]? = some (.cells #[.int .i64 s.1] 3 (0, 0))) (hbb : w.heap[Bb]? = some (.cells #[.int .i64 s.2.1] 3 (0, 0))) (hbf : w.heap[Bf]? = some (.cells #[.bool s.2.2] 4 (0, 0))) (hbp : w.heap[Bp]? = some (.cells #[.slice A0 l0.length c0, .slice A1 l1.length c1, .int .i64 a2] 63 (0, 0)))
    (hab : Ba ≠ Bb) (haf : Ba ≠ Bf) (hbf2 : Bb ≠ Bf)
    (h : impl_LeastBuffer.step l0 l1 a2 s i j = some s') :
    Calls Try.prog 60 #[.int .i64 i, .int .i64 j, .pointer (some ⟨Bf, 0, none⟩), .pointer (some ⟨Bp, 0, none⟩), .pointer (some ⟨Ba, 0, none⟩), .pointer (some ⟨Bb, 0, none⟩)] w fun e w' => e = .returned (.tuple #[]) ∧ w'.heap[Ba]? = some (.cells #[.int .i64 s'.1] 3 (0, 0)) ∧ w'.heap[Bb]? = some (.cells #[.int .i64 s'.2.1] 3 (0, 0)) ∧ w'.heap[Bf]? = some (.cells #[.bool s'.2.2] 4 (0, 0)) ∧ Kept w w' (fun k => k = Ba ∨ k = Bb ∨ k = Bf) ∧ ∀ u : World, Below u.heap.size u w → u.heap.size ≤ Ba → u.heap.size ≤ Bb → u.heap.size ≤ Bf → Below u.heap.size u w' := by
  obtain ⟨a, b, f⟩ := s
  dsimp only at hba hbb hbf h
  unfold impl_LeastBuffer.step at h
  dsimp only at h
  have HR0 := A_ hr0
  have HR1 := A_ hr1
  have HBA := A_ hba
  have HBB := A_ hbb
  have HBF := A_ hbf
  have hza : w.cell? ⟨Ba, 0, none⟩ = some (.int .i64 a) := (blk_cell hba 0).trans rfl
  have hzb : w.cell? ⟨Bb, 0, none⟩ = some (.int .i64 b) := (blk_cell hbb 0).trans rfl
  have hzf : w.cell? ⟨Bf, 0, none⟩ = some (.bool f) := (blk_cell hbf 0).trans rfl
  have hcz0 : w.cell? ⟨Bp, 0, none⟩ = some (.slice A0 l0.length c0) := (blk_cell hbp 0).trans rfl
  have hcz1 : w.cell? ⟨Bp, 1, none⟩ = some (.slice A1 l1.length c1) := (blk_cell hbp 1).trans rfl
  have hcz2 : w.cell? ⟨Bp, 2, none⟩ = some (.int .i64 a2) := (blk_cell hbp 2).trans rfl
  clear hr0 hr1 hba hbb hbf hbp
  cases f with
  | false =>
    have hff := blk_frozen HBF.out 0
    have hfa := blk_frozen HBA.out 0
    have hfb := blk_frozen HBB.out 0
    rw [if_neg (by simp)] at h
    obtain rfl := Option.some.inj h
    clear h
    go_enter Try.func60, Try.ntmps60
    go_upto_region 0 with fail
    refine start_ (n := 13) (S := fun w' => w'.cell? ⟨Bf, 0, none⟩ = some (.bool false)) (ds := []) #[false, false, false, false, false, false, false, false, false, false, false, false, false] kr_ rfl rfl hzf (fun hHeld => ?_)
    refine take_ (i := 0) (N := some 8) (v := ?_) (a' := ?_) #[true, false, false, false, false, false, false, false, false, false, false, false, false] rfl rfl kr_ (fun _ _ _ h => h) (Or.inl ⟨by rfl, ?_⟩) hHeld ?_ ?_
    rotate_left
    · rintro w' s0
      go_simp
      with_reducible rfl
    rotate_left
    · simp only [Act.put, List.setIfInBounds_toArray, List.set_cons_zero, List.set_cons_succ, i64_w, i32_w]
      rfl
    refine pure_ (i := 1) (N := some 9) (v := ?_) (a' := ?_) #[true, true, false, false, false, false, false, false, false, false, false, false, false] rfl rfl kr_ (fun _ _ _ h => h) (Or.inl ⟨by rfl, ?_⟩) ?_ ?_
    rotate_left
    · intro w'
      go_simp
      with_reducible rfl
    rotate_left
    · simp only [Act.put, List.setIfInBounds_toArray, List.set_cons_zero, List.set_cons_succ, i64_w, i32_w]
      rfl
    refine pure_ (i := 2) (N := some 10) (v := ?_) (a' := ?_) #[true, true, true, false, false, false, false, false, false, false, false, false, false] rfl rfl kr_ (fun _ _ _ h => h) (Or.inl ⟨by rfl, ?_⟩) ?_ ?_
    rotate_left
    · intro w'
      go_simp
      with_reducible rfl
    rotate_left
    · simp only [Act.put, List.setIfInBounds_toArray, List.set_cons_zero, List.set_cons_succ, i64_w, i32_w]
      rfl
    refine pure_ (i := 3) (N := some 11) (v := undef) (a' := ?_) #[true, true, true, true, false, false, false, false, false, false, false, false, false] rfl rfl kr_ (fun _ _ _ h => h) (Or.inr ⟨by rfl, rfl⟩) ?_ ?_
    rotate_left
    · simp only [Act.put, List.setIfInBounds_toArray, List.set_cons_zero, List.set_cons_succ, i64_w, i32_w]
      rfl
    refine pure_ (i := 4) (N := some 12) (v := undef) (a' := ?_) #[true, true, true, true, true, false, false, false, false, false, false, false, false] rfl rfl kr_ (fun _ _ _ h => h) (Or.inr ⟨by rfl, rfl⟩) ?_ ?_
    rotate_left
    · simp only [Act.put, List.setIfInBounds_toArray, List.set_cons_zero, List.set_cons_succ, i64_w, i32_w]
      rfl
    refine pure_ (i := 5) (N := some 13) (v := undef) (a' := ?_) #[true, true, true, true, true, true, false, false, false, false, false, false, false] rfl rfl kr_ (fun _ _ _ h => h) (Or.inr ⟨by rfl, rfl⟩) ?_ ?_
    rotate_left
    · simp only [Act.put, List.setIfInBounds_toArray, List.set_cons_zero, List.set_cons_succ, i64_w, i32_w]
      rfl
    refine pure_ (i := 6) (N := some 14) (v := undef) (a' := ?_) #[true, true, true, true, true, true, true, false, false, false, false, false, false] rfl rfl kr_ (fun _ _ _ h => h) (Or.inr ⟨by rfl, rfl⟩) ?_ ?_
    rotate_left
    · simp only [Act.put, List.setIfInBounds_toArray, List.set_cons_zero, List.set_cons_succ, i64_w, i32_w]
      rfl
    refine pure_ (i := 7) (N := some 15) (v := undef) (a' := ?_) #[true, true, true, true, true, true, true, true, false, false, false, false, false] rfl rfl kr_ (fun _ _ _ h => h) (Or.inr ⟨by rfl, rfl⟩) ?_ ?_
    rotate_left
    · simp only [Act.put, List.setIfInBounds_toArray, List.set_cons_zero, List.set_cons_succ, i64_w, i32_w]
      rfl
    refine pure_ (i := 8) (N := some 16) (v := undef) (a' := ?_) #[true, true, true, true, true, true, true, true, true, false, false, false, false] rfl rfl kr_ (fun _ _ _ h => h) (Or.inr ⟨by rfl, rfl⟩) ?_ ?_
    rotate_left
    · simp only [Act.put, List.setIfInBounds_toArray, List.set_cons_zero, List.set_cons_succ, i64_w, i32_w]
      rfl
    refine pure_ (i := 9) (N := some 17) (v := undef) (a' := ?_) #[true, true, true, true, true, true, true, true, true, true, false, false, false] rfl rfl kr_ (fun _ _ _ h => h) (Or.inr ⟨by rfl, rfl⟩) ?_ ?_
    rotate_left
    · simp only [Act.put, List.setIfInBounds_toArray, List.set_cons_zero, List.set_cons_succ, i64_w, i32_w]
      rfl
    refine pure_ (i := 10) (N := some 18) (v := undef) (a' := ?_) #[true, true, true, true, true, true, true, true, true, true, true, false, false] rfl rfl kr_ (fun _ _ _ h => h) (Or.inr ⟨by rfl, rfl⟩) ?_ ?_
    rotate_left
    · simp only [Act.put, List.setIfInBounds_toArray, List.set_cons_zero, List.set_cons_succ, i64_w, i32_w]
      rfl
    refine pure_ (i := 11) (N := some 19) (v := undef) (a' := ?_) #[true, true, true, true, true, true, true, true, true, true, true, true, false] rfl rfl kr_ (fun _ _ _ h => h) (Or.inr ⟨by rfl, rfl⟩) ?_ ?_
    rotate_left
    · simp only [Act.put, List.setIfInBounds_toArray, List.set_cons_zero, List.set_cons_succ, i64_w, i32_w]
      rfl
    refine pure_ (i := 12) (N := some 20) (v := ?_) (a' := ?_) #[true, true, true, true, true, true, true, true, true, true, true, true, true] rfl rfl kr_ (fun _ _ _ h => h) (Or.inl ⟨by rfl, ?_⟩) ?_ ?_
    rotate_left
    · intro w'
      go_simp
      with_reducible rfl
    rotate_left
    · simp only [Act.put, List.setIfInBounds_toArray, List.set_cons_zero, List.set_cons_succ, i64_w, i32_w]
      rfl
    refine done_ kr_ ?_
    go_wp2
    go_end0
    refine ⟨rfl, ?_, ?_, ?_, ?_, ?_⟩
    · exact blk_far (blk_far (blk_set (blk_drew HBA.out) 0 (.int .i64 i)) hab _) haf _
    · exact blk_far (blk_set (blk_far (blk_drew HBB.out) (Ne.symm hab) _) 0 (.int .i64 j)) hbf2 _
    · exact blk_set (blk_far (blk_far (blk_drew HBF.out) (Ne.symm haf) _) (Ne.symm hbf2) _) 0 (.bool true)
    · exact ((((Kept.refl w _).drew).setCell (.inl (.inl rfl)) _).setCell (.inl (.inr (.inl rfl))) _).setCell (.inl (.inr (.inr rfl))) _
    · exact fun u hu h1 h2 h3 => below_set (below_set (below_set (below_drew hu) h1) h2) h3
  | true =>
    rw [if_pos rfl] at h
    obtain ⟨x, hx, h⟩ := Option.bind_eq_some_iff.mp h
    obtain ⟨y, hy, h⟩ := Option.bind_eq_some_iff.mp h
    have HX := A_ hx
    have HY := A_ hy
    clear hx hy
    have hS := Option.some.inj h
    clear h
    go_enter Try.func60, Try.ntmps60
    go_upto_region 0 with fail
    refine start_ (n := 13) (S := fun w' => w'.cell? ⟨Bf, 0, none⟩ = some (.bool true) ∧ w'.cell? ⟨Ba, 0, none⟩ = some (.int .i64 a) ∧ w'.cell? ⟨Bb, 0, none⟩ = some (.int .i64 b) ∧ w'.cell? ⟨Bp, 0, none⟩ = some (.slice A0 l0.length c0) ∧ w'.cell? ⟨Bp, 1, none⟩ = some (.slice A1 l1.length c1) ∧ w'.cell? ⟨Bp, 2, none⟩ = some (.int .i64 a2)) (ds := []) #[false, false, false, false, false, false, false, false, false, false, false, false, false] kr_ rfl rfl ⟨hzf, hza, hzb, hcz0, hcz1, hcz2⟩ (fun hHeld => ?_)
    refine take_ (i := 0) (N := some 8) (v := ?_) (a' := ?_) #[true, false, false, false, false, false, false, false, false, false, false, false, false] rfl rfl kr_ (fun _ _ _ h => h) (Or.inl ⟨by rfl, ?_⟩) hHeld ?_ ?_
    rotate_left
    · rintro w' ⟨s0, s1, s2, s3, s4, s5⟩
      go_simp
      with_reducible rfl
    rotate_left
    · simp only [Act.put, List.setIfInBounds_toArray, List.set_cons_zero, List.set_cons_succ, i64_w, i32_w]
      rfl
    refine pure_ (i := 1) (N := some 9) (v := ?_) (a' := ?_) #[true, true, false, false, false, false, false, false, false, false, false, false, false] rfl rfl kr_ (fun _ _ _ h => h) (Or.inl ⟨by rfl, ?_⟩) ?_ ?_
    rotate_left
    · intro w'
      go_simp
      with_reducible rfl
    rotate_left
    · simp only [Act.put, List.setIfInBounds_toArray, List.set_cons_zero, List.set_cons_succ, i64_w, i32_w]
      rfl
    refine pure_ (i := 2) (N := some 10) (v := ?_) (a' := ?_) #[true, true, true, false, false, false, false, false, false, false, false, false, false] rfl rfl kr_ (fun _ _ _ h => h) (Or.inl ⟨by rfl, ?_⟩) ?_ ?_
    rotate_left
    · intro w'
      go_simp
      with_reducible rfl
    rotate_left
    · simp only [Act.put, List.setIfInBounds_toArray, List.set_cons_zero, List.set_cons_succ, i64_w, i32_w]
      rfl
    refine take_ (i := 3) (N := some 11) (v := ?_) (a' := ?_) #[true, true, true, true, false, false, false, false, false, false, false, false, false] rfl rfl kr_ (fun _ _ _ h => h) (Or.inl ⟨by rfl, ?_⟩) hHeld ?_ ?_
    rotate_left
    · rintro w' ⟨s0, s1, s2, s3, s4, s5⟩
      go_simp
      with_reducible rfl
    rotate_left
    · simp only [Act.put, List.setIfInBounds_toArray, List.set_cons_zero, List.set_cons_succ, i64_w, i32_w]
      rfl
    refine pure_ (i := 4) (N := some 12) (v := ?_) (a' := ?_) #[true, true, true, true, true, false, false, false, false, false, false, false, false] rfl rfl kr_ (fun _ _ _ h => h) (Or.inl ⟨by rfl, ?_⟩) ?_ ?_
    rotate_left
    · intro w'
      go_simp
      with_reducible rfl
    rotate_left
    · simp only [Act.put, List.setIfInBounds_toArray, List.set_cons_zero, List.set_cons_succ, i64_w, i32_w]
      rfl
    refine pure_ (i := 5) (N := some 13) (v := ?_) (a' := ?_) #[true, true, true, true, true, true, false, false, false, false, false, false, false] rfl rfl kr_ (fun _ _ _ h => h) (Or.inl ⟨by rfl, ?_⟩) ?_ ?_
    rotate_left
    · intro w'
      go_simp
      with_reducible rfl
    rotate_left
    · simp only [Act.put, List.setIfInBounds_toArray, List.set_cons_zero, List.set_cons_succ, i64_w, i32_w]
      rfl
    refine take_ (i := 7) (N := some 15) (v := ?_) (a' := ?_) #[true, true, true, true, true, true, false, true, false, false, false, false, false] rfl rfl kr_ (fun _ _ _ h => h) (Or.inl ⟨by rfl, ?_⟩) hHeld ?_ ?_
    rotate_left
    · rintro w' ⟨s0, s1, s2, s3, s4, s5⟩
      go_simp
      with_reducible rfl
    rotate_left
    · simp only [Act.put, List.setIfInBounds_toArray, List.set_cons_zero, List.set_cons_succ, i64_w, i32_w]
      rfl
    refine take_ (i := 8) (N := some 16) (v := ?_) (a' := ?_) #[true, true, true, true, true, true, false, true, true, false, false, false, false] rfl rfl kr_ (fun _ _ _ h => h) (Or.inl ⟨by rfl, ?_⟩) hHeld ?_ ?_
    rotate_left
    · rintro w' ⟨s0, s1, s2, s3, s4, s5⟩
      go_simp
      with_reducible rfl
    rotate_left
    · simp only [Act.put, List.setIfInBounds_toArray, List.set_cons_zero, List.set_cons_succ, i64_w, i32_w]
      rfl
    refine take_ (i := 9) (N := some 17) (v := ?_) (a' := ?_) #[true, true, true, true, true, true, false, true, true, true, false, false, false] rfl rfl kr_ (fun _ _ _ h => h) (Or.inl ⟨by rfl, ?_⟩) hHeld ?_ ?_
    rotate_left
    · rintro w' ⟨s0, s1, s2, s3, s4, s5⟩
      go_simp
      with_reducible rfl
    rotate_left
    · simp only [Act.put, List.setIfInBounds_toArray, List.set_cons_zero, List.set_cons_succ, i64_w, i32_w]
      rfl
    refine one_ (i := 6) (N := some 14) #[true, true, true, true, true, true, true, true, true, true, false, false, false] rfl rfl kr_ (by decide) (fun K hK => ?_)
    refine goes_ Try.func57 kr_ rfl #[.agg #[.slice A0 l0.length c0, .slice A1 l1.length c1, .int .i64 a2], .int .i64 i, .int .i64 j] (by rfl) rfl rfl (by (try simp only [List.map_toArray, List.map_cons, List.map_nil]); first | done | rfl) ?_
    refine (impl_plan_buffer.calls A0 c0 l0 A1 c1 l1 a2 i j x _ (Kd.C_drew HR0.out) hc0 (Kd.C_drew HR1.out) hc1 HX.out).mono ?_
    rintro e w1 ⟨rfl, hb1⟩
    refine ⟨_, rfl, ?_⟩
    have HB1 := A_ (below_step (below_drew (Below.refl _ _)) hb1 : Below w.heap.size w w1)
    refine hK.out _ _ ⟨pw_cell_below HB1.out hzf, pw_cell_below HB1.out hza, pw_cell_below HB1.out hzb, pw_cell_below HB1.out hcz0, pw_cell_below HB1.out hcz1, pw_cell_below HB1.out hcz2⟩ (fun hHeld => ?_)
    clear hK K hb1
    refine norm_ (a' := ?_) ?_ ?_
    rotate_left
    · simp only [Act.put, List.setIfInBounds_toArray, List.set_cons_zero, List.set_cons_succ, i64_w, i32_w]
      rfl
    refine one_ (i := 10) (N := some 18) #[true, true, true, true, true, true, true, true, true, true, true, false, false] rfl rfl kr_ (by decide) (fun K hK => ?_)
    refine goes_ Try.func57 kr_ rfl #[.agg #[.slice A0 l0.length c0, .slice A1 l1.length c1, .int .i64 a2], .int .i64 a, .int .i64 b] (by rfl) rfl rfl (by (try simp only [List.map_toArray, List.map_cons, List.map_nil]); first | done | rfl) ?_
    refine (impl_plan_buffer.calls A0 c0 l0 A1 c1 l1 a2 a b y _ (Kd.C_below HR0.out HB1.out) hc0 (Kd.C_below HR1.out HB1.out) hc1 HY.out).mono ?_
    rintro e w2 ⟨rfl, hb2⟩
    refine ⟨_, rfl, ?_⟩
    have HB2 := A_ (below_step HB1.out hb2 : Below w.heap.size w w2)
    have hzf2 := pw_cell_below HB2.out hzf
    have hza2 := pw_cell_below HB2.out hza
    have hzb2 := pw_cell_below HB2.out hzb
    have hff2 := blk_frozen (blk_below HBF.out HB2.out) 0
    have hfa2 := blk_frozen (blk_below HBA.out HB2.out) 0
    have hfb2 := blk_frozen (blk_below HBB.out HB2.out) 0
    refine hK.out _ _ ⟨hzf2, hza2, hzb2, pw_cell_below HB2.out hcz0, pw_cell_below HB2.out hcz1, pw_cell_below HB2.out hcz2⟩ (fun hHeld => ?_)
    clear hK K hb2
    refine norm_ (a' := ?_) ?_ ?_
    rotate_left
    · simp only [Act.put, List.setIfInBounds_toArray, List.set_cons_zero, List.set_cons_succ, i64_w, i32_w]
      rfl
    refine pure_ (i := 11) (N := some 19) (v := ?_) (a' := ?_) #[true, true, true, true, true, true, true, true, true, true, true, true, false] rfl rfl kr_ (fun _ _ _ h => h) (Or.inl ⟨by rfl, ?_⟩) ?_ ?_
    rotate_left
    · intro w'
      go_simp
      with_reducible rfl
    rotate_left
    · simp only [Act.put, List.setIfInBounds_toArray, List.set_cons_zero, List.set_cons_succ, i64_w, i32_w]
      rfl
    refine pure_ (i := 12) (N := some 20) (v := ?_) (a' := ?_) #[true, true, true, true, true, true, true, true, true, true, true, true, true] rfl rfl kr_ (fun _ _ _ h => h) (Or.inl ⟨by rfl, ?_⟩) ?_ ?_
    rotate_left
    · intro w'
      go_simp
      with_reducible rfl
    rotate_left
    · simp only [Act.put, List.setIfInBounds_toArray, List.set_cons_zero, List.set_cons_succ, i64_w, i32_w]
      rfl
    refine done_ kr_ ?_
    by_cases hxy : x < y
    · rw [if_pos hxy] at hS
      subst hS
      have hd := decide_eq_true hxy
      go_wp2
      go_end0
      refine ⟨rfl, ?_, ?_, ?_, ?_, ?_⟩
      · exact blk_far (blk_far (blk_set (blk_below HBA.out HB2.out) 0 (.int .i64 i)) hab _) haf _
      · exact blk_far (blk_set (blk_far (blk_below HBB.out HB2.out) (Ne.symm hab) _) 0 (.int .i64 j)) hbf2 _
      · exact blk_set (blk_far (blk_far (blk_below HBF.out HB2.out) (Ne.symm haf) _) (Ne.symm hbf2) _) 0 (.bool true)
      · exact (((Kept.of_below HB2.out _).setCell (.inl (.inl rfl)) _).setCell (.inl (.inr (.inl rfl))) _).setCell (.inl (.inr (.inr rfl))) _
      · exact fun u hu h1 h2 h3 => below_set (below_set (below_set (below_then hu hu.size (below_weaken (Below.refl _ _) (Nat.le_refl _) HB2.out)) h1) h2) h3
    · rw [if_neg hxy] at hS
      subst hS
      have hd := decide_eq_false hxy
      go_wp2
      go_end0
      exact ⟨rfl, blk_below HBA.out HB2.out, blk_below HBB.out HB2.out, blk_below HBF.out HB2.out, Kept.of_below HB2.out _, fun u hu h1 h2 h3 => below_then hu hu.size (below_weaken (Below.refl _ _) (Nat.le_refl _) HB2.out)⟩
/-- What the visits keep: the rows that came in, the variables. -/
def impl_LeastBuffer.Keeps (w w1 : World) (A0 : Option Addr) (c0 : Nat) (l0 : List (List Int)) (A1 : Option Addr) (c1 : Nat) (l1 : List Int) (a2 : Int) (s : Int × Int × Bool) (W : World) : Prop :=
  Kd.F (Kd.slice 3 (Kd.int .i64)) W (fun k => k < w1.heap.size) A0 l0.length l0 ∧ Kd.F (Kd.int .i64) W (fun k => k < w1.heap.size) A1 l1.length l1 ∧
  W.heap[w1.heap.size]? = some (.cells #[.slice A0 l0.length c0, .slice A1 l1.length c1, .int .i64 a2] 63 (0, 0)) ∧ W.heap[w1.heap.size + 1]? = some (.cells #[.int .i64 s.1] 3 (0, 0)) ∧ W.heap[w1.heap.size + 2]? = some (.cells #[.int .i64 s.2.1] 3 (0, 0)) ∧ W.heap[w1.heap.size + 3]? = some (.cells #[.bool s.2.2] 4 (0, 0)) ∧ Below w.heap.size w W
def impl_LeastBuffer.f (k : Nat) (l0 : List (List Int)) (l1 : List Int) (a2 : Int) : Option (Int × Int × Int × Bool) := (impl_planOf.f k l0 l1 a2).bind fun bt => if bt.2.2.2 = true then (impl_plan_next.all (fun i j => impl_plan_waits.f bt.1 bt.2.1 bt.2.2.1 i j) (fun s i j => impl_LeastBuffer.step bt.1 bt.2.1 bt.2.2.1 s i j) bt.1.length bt.1.length 0 (0, 0, false)).bind fun s => (impl_plan_buffer.f bt.1 bt.2.1 bt.2.2.1 s.1 s.2.1).bind fun x => some (s.1, s.2.1, x, true) else some (0, 0, 0, false)
theorem impl_LeastBuffer.mono : ∀ a0 a1 a2 k, LeO (impl_LeastBuffer.f k a0 a1 a2) (impl_LeastBuffer.f (k + 1) a0 a1 a2) := fun a0 a1 a2 k => LeO.bind (impl_planOf.mono a0 a1 a2 k) fun _ => LeO.refl _
set_option maxHeartbeats 8000000 in
set_option maxRecDepth 100000 in
theorem impl_LeastBuffer.calls (k : Nat) (A0 : Option Addr) (c0 : Nat) (l0 : List (List Int)) (A1 : Option Addr) (c1 : Nat) (l1 : List Int) (a2 : Int) (r1 : Int) (r2 : Int) (r3 : Int) (r4 : Bool) (w : World) (hr0 : Kd.C (Kd.slice 3 (Kd.int .i64)) w A0 l0.length l0) (hc0 : l0.length ≤ c0) (hr1 : Kd.C (Kd.int .i64) w A1 l1.length l1) (hc1 : l1.length ≤ c1) (h : impl_LeastBuffer.f k l0 l1 a2 = some (r1, r2, r3, r4)) :
    Calls Try.prog 24 #[.slice A0 l0.length c0, .slice A1 l1.length c1, .int .i64 a2] w fun e w' => e = .returned (.tuple #[.int .i64 r1, .int .i64 r2, .int .i64 r3, .bool r4]) ∧ Below w.heap.size w w' := by
  obtain ⟨⟨t1, t2, t3, t4⟩, hp, h⟩ := Option.bind_eq_some_iff.mp h
  dsimp only at h
  have HR0 := A_ hr0
  have HR1 := A_ hr1
  have HP := A_ hp
  have H := A_ h
  clear hr0 hr1 hp h
  go_enter Try.func24, Try.ntmps24
  go_wp2_with fail
  refine (impl_planOf.calls k (fun k_ => k_ < w.heap.size) A0 c0 l0 (fun k_ => k_ < w.heap.size) A1 c1 l1 a2 t1 t2 t3 t4 _ (Kd.V_mk hc0 (Kd.C_F (Kd.heap_slice 3 (Kd.heap_int .i64)) HR0.out)) (Kd.V_mk hc1 (Kd.C_F (Kd.heap_int .i64) HR1.out)) HP.out).mono ?_
  rintro e w1 ⟨v0, v1, rfl, ho0, ho1, hb⟩
  obtain ⟨Ap, cp, ev⟩ := Kd.V_slice ho0
  subst ev
  obtain ⟨Aq, cq, ev⟩ := Kd.V_slice ho1
  subst ev
  have HO0 := A_ (Kd.V_mono (Kd.V_bound ho0) (fun k hk => hk.2) : Kd.V _ _ w1 _ (fun k => k < w1.heap.size) _ _)
  have HO1 := A_ (Kd.V_mono (Kd.V_bound ho1) (fun k hk => hk.2) : Kd.V _ _ w1 _ (fun k => k < w1.heap.size) _ _)
  have HB := A_ hb
  clear ho0 ho1 hb
  cases t4 with
  | false =>
    have h := H.out
    rw [if_neg (by simp)] at h
    injection h with h
    injection h with h1 h
    injection h with h2 h
    injection h with h3 h4
    subst h1 h2 h3 h4
    go_wp2
    refine bodyPost_ret (results_list (rs := [.tmp 6, .tmp 7, .tmp 8, .tmp 9]) rfl (by simp) (.tmp (.tmp (.tmp (.tmp .nil))))) rfl ?_
    exact ⟨by first | rfl | (simp; done), below_alloc HB.out _⟩
  | true =>
    have h := H.out
    rw [if_pos rfl] at h
    obtain ⟨s, hs, h⟩ := Option.bind_eq_some_iff.mp h
    obtain ⟨x, hx, h⟩ := Option.bind_eq_some_iff.mp h
    injection h with h
    injection h with h1 h
    injection h with h2 h
    injection h with h3 h4
    subst h1 h2 h3 h4
    have HS := A_ hs
    have HX := A_ hx
    clear hs hx H
    go_upto_region 5 with fail
    have BP := blk_alloc (blk_alloc (blk_alloc (blk_new w1 (Obj.cells #[.slice Ap t1.length cp, .slice Aq t2.length cq, .int .i64 t3] 63 (0, 0))) (Obj.cells #[.int .i64 0] 3 (0, 0))) (Obj.cells #[.int .i64 0] 3 (0, 0))) (Obj.cells #[.bool false] 4 (0, 0))
    have BA := blk_alloc (blk_alloc (blk_new (w1.alloc (Obj.cells #[.slice Ap t1.length cp, .slice Aq t2.length cq, .int .i64 t3] 63 (0, 0))) (Obj.cells #[.int .i64 0] 3 (0, 0))) (Obj.cells #[.int .i64 0] 3 (0, 0))) (Obj.cells #[.bool false] 4 (0, 0))
    have BB := blk_alloc (blk_new ((w1.alloc (Obj.cells #[.slice Ap t1.length cp, .slice Aq t2.length cq, .int .i64 t3] 63 (0, 0))).alloc (Obj.cells #[.int .i64 0] 3 (0, 0))) (Obj.cells #[.int .i64 0] 3 (0, 0))) (Obj.cells #[.bool false] 4 (0, 0))
    have BF := blk_new (((w1.alloc (Obj.cells #[.slice Ap t1.length cp, .slice Aq t2.length cq, .int .i64 t3] 63 (0, 0))).alloc (Obj.cells #[.int .i64 0] 3 (0, 0))).alloc (Obj.cells #[.int .i64 0] 3 (0, 0))) (Obj.cells #[.bool false] 4 (0, 0))
    have hB5 := below_alloc (below_alloc (below_alloc (below_alloc HB.out (Obj.cells #[.slice Ap t1.length cp, .slice Aq t2.length cq, .int .i64 t3] 63 (0, 0))) (Obj.cells #[.int .i64 0] 3 (0, 0))) (Obj.cells #[.int .i64 0] 3 (0, 0))) (Obj.cells #[.bool false] 4 (0, 0))
    have hF0 := Kd.F_alloc (Kd.F_alloc (Kd.F_alloc (Kd.F_alloc (Kd.V_F HO0.out) (Obj.cells #[.slice Ap t1.length cp, .slice Aq t2.length cq, .int .i64 t3] 63 (0, 0))) (Obj.cells #[.int .i64 0] 3 (0, 0))) (Obj.cells #[.int .i64 0] 3 (0, 0))) (Obj.cells #[.bool false] 4 (0, 0))
    have hF1 := Kd.F_alloc (Kd.F_alloc (Kd.F_alloc (Kd.F_alloc (Kd.V_F HO1.out) (Obj.cells #[.slice Ap t1.length cp, .slice Aq t2.length cq, .int .i64 t3] 63 (0, 0))) (Obj.cells #[.int .i64 0] 3 (0, 0))) (Obj.cells #[.int .i64 0] 3 (0, 0))) (Obj.cells #[.bool false] 4 (0, 0))
    have e1 : (w1.alloc (Obj.cells #[.slice Ap t1.length cp, .slice Aq t2.length cq, .int .i64 t3] 63 (0, 0))).heap.size = w1.heap.size + 1 := by simp [World.alloc_eq]
    have e2 : ((w1.alloc (Obj.cells #[.slice Ap t1.length cp, .slice Aq t2.length cq, .int .i64 t3] 63 (0, 0))).alloc (Obj.cells #[.int .i64 0] 3 (0, 0))).heap.size = w1.heap.size + 2 := by simp [World.alloc_eq]
    have e3 : (((w1.alloc (Obj.cells #[.slice Ap t1.length cp, .slice Aq t2.length cq, .int .i64 t3] 63 (0, 0))).alloc (Obj.cells #[.int .i64 0] 3 (0, 0))).alloc (Obj.cells #[.int .i64 0] 3 (0, 0))).heap.size = w1.heap.size + 3 := by simp [World.alloc_eq]
    rw [e1] at BA
    rw [e2] at BB
    rw [e3] at BF
    clear e1 e2 e3
    generalize (((w1.alloc (Obj.cells #[.slice Ap t1.length cp, .slice Aq t2.length cq, .int .i64 t3] 63 (0, 0))).alloc (Obj.cells #[.int .i64 0] 3 (0, 0))).alloc (Obj.cells #[.int .i64 0] 3 (0, 0))).alloc (Obj.cells #[.bool false] 4 (0, 0)) = w5 at BP BA BB BF hB5 hF0 hF1 ⊢
    have hsz := HB.out.size
    have hlt5 := blk_lt BF
    have hcp := (Kd.V_reads' HO0.out).2.1
    have hcq := (Kd.V_reads' HO1.out).2.1
    have hm : t1.length ≤ 9223372036854775807 := (Kd.V_reads' HO0.out).2.2.2.1
    have eg : ∀ args w, (callFunc 60 args).run Try.prog w = .ok (.enter 60 args) w := Ext.entersOf Try.func60 kr_ rfl
    have HE := A_ (impl_plan_next.each 60 #[.pointer (some ⟨w1.heap.size + 1 + 1 + 1, 0, none⟩), .pointer (some ⟨w1.heap.size, 0, none⟩), .pointer (some ⟨w1.heap.size + 1, 0, none⟩), .pointer (some ⟨w1.heap.size + 1 + 1, 0, none⟩)] eg Ap cp t1 Aq cq t2 t3 hcp hcq hm (fun s i j => impl_LeastBuffer.step t1 t2 t3 s i j) (fun s W => impl_LeastBuffer.Keeps w w1 Ap cp t1 Aq cq t2 t3 s W) (fun k => k = w1.heap.size + 1 ∨ k = w1.heap.size + 2 ∨ k = w1.heap.size + 3) w5
      (by omega)
      (fun s W h => ⟨Kd.F_now h.1, Kd.F_now h.2.1⟩)
      (fun s W W' h hW => ⟨Kd.F_below h.1 hW, Kd.F_below h.2.1 hW, blk_below h.2.2.1 hW, blk_below h.2.2.2.1 hW, blk_below h.2.2.2.2.1 hW, blk_below h.2.2.2.2.2.1 hW, below_step h.2.2.2.2.2.2 hW⟩)
      (fun s s' i j W hi hj _ h hs => by
        refine (impl_LeastBuffer.visit Ap cp t1 Aq cq t2 t3 s s' (w1.heap.size + 1) (w1.heap.size + 2) (w1.heap.size + 3) w1.heap.size (i : Int) (j : Int) W (Kd.F_now h.1) hcp (Kd.F_now h.2.1) hcq h.2.2.2.1 h.2.2.2.2.1 h.2.2.2.2.2.1 h.2.2.1 (by omega) (by omega) (by omega) hs).mono ?_
        rintro e W' ⟨rfl, ha, hb, hf, hk, hbw⟩
        exact ⟨rfl, ⟨Kd.F_kept h.1 hk (fun k h1 h2 => by omega), Kd.F_kept h.2.1 hk (fun k h1 h2 => by omega), blk_kept h.2.2.1 hk (fun h2 => by omega), ha, hb, hf, hbw w h.2.2.2.2.2.2 (by omega) (by omega) (by omega)⟩, hk⟩)
      (0, 0, false) s ⟨hF0, hF1, BP, BA, BB, BF, hB5⟩ HS.out)
    have hcz0 : w5.cell? ⟨w1.heap.size, 0, none⟩ = some (.slice Ap t1.length cp) := (blk_cell BP 0).trans rfl
    have hcz1 : w5.cell? ⟨w1.heap.size, 1, none⟩ = some (.slice Aq t2.length cq) := (blk_cell BP 1).trans rfl
    have hcz2 : w5.cell? ⟨w1.heap.size, 2, none⟩ = some (.int .i64 t3) := (blk_cell BP 2).trans rfl
    have hmf : ∀ (fn : Fn) (first cap : Array Value) (w : World), (Instr.makeFunc fn first cap).run Try.prog w = .ok (.func fn first cap) w := fun _ _ _ _ => rfl
    have HCP := A_ hcp
    have HCQ := A_ hcq
    clear BP BA BB BF hF0 hF1 eg hB5 hlt5 hsz hcp hcq
    go_wp2_with fail
    refine HE.out.mono ?_
    rintro e w6 ⟨rfl, hr6, _⟩
    have H6 := A_ hr6
    clear hr6 hcz0 hcz1 hcz2 HE
    go_upto_region 6 with fail
    have hz0 : w6.cell? ⟨w1.heap.size, 0, none⟩ = some (.slice Ap t1.length cp) := (blk_cell H6.out.2.2.1 0).trans rfl
    have hz1 : w6.cell? ⟨w1.heap.size, 1, none⟩ = some (.slice Aq t2.length cq) := (blk_cell H6.out.2.2.1 1).trans rfl
    have hz2 : w6.cell? ⟨w1.heap.size, 2, none⟩ = some (.int .i64 t3) := (blk_cell H6.out.2.2.1 2).trans rfl
    have hza : w6.cell? ⟨w1.heap.size + 1, 0, none⟩ = some (.int .i64 s.1) := (blk_cell H6.out.2.2.2.1 0).trans rfl
    have hzb : w6.cell? ⟨w1.heap.size + 1 + 1, 0, none⟩ = some (.int .i64 s.2.1) := (blk_cell H6.out.2.2.2.2.1 0).trans rfl
    refine start_ (n := 10) (S := fun w' => w'.cell? ⟨w1.heap.size, 0, none⟩ = some (.slice Ap t1.length cp) ∧ w'.cell? ⟨w1.heap.size, 1, none⟩ = some (.slice Aq t2.length cq) ∧ w'.cell? ⟨w1.heap.size, 2, none⟩ = some (.int .i64 t3) ∧ w'.cell? ⟨w1.heap.size + 1, 0, none⟩ = some (.int .i64 s.1) ∧ w'.cell? ⟨w1.heap.size + 1 + 1, 0, none⟩ = some (.int .i64 s.2.1)) (ds := []) #[false, false, false, false, false, false, false, false, false, false] kr_ rfl rfl ⟨hz0, hz1, hz2, hza, hzb⟩ (fun hHeld => ?_)
    refine take_ (i := 0) (N := some 27) (v := ?_) (a' := ?_) #[true, false, false, false, false, false, false, false, false, false] rfl rfl kr_ (fun _ _ _ h => h) (Or.inl ⟨by rfl, ?_⟩) hHeld ?_ ?_
    rotate_left
    · rintro w' ⟨s0, s1, s2, s3, s4⟩
      go_simp
      with_reducible rfl
    rotate_left
    · simp only [Act.put, List.setIfInBounds_toArray, List.set_cons_zero, List.set_cons_succ, i64_w, i32_w]
      rfl
    refine take_ (i := 1) (N := some 28) (v := ?_) (a' := ?_) #[true, true, false, false, false, false, false, false, false, false] rfl rfl kr_ (fun _ _ _ h => h) (Or.inl ⟨by rfl, ?_⟩) hHeld ?_ ?_
    rotate_left
    · rintro w' ⟨s0, s1, s2, s3, s4⟩
      go_simp
      with_reducible rfl
    rotate_left
    · simp only [Act.put, List.setIfInBounds_toArray, List.set_cons_zero, List.set_cons_succ, i64_w, i32_w]
      rfl
    refine take_ (i := 2) (N := some 29) (v := ?_) (a' := ?_) #[true, true, true, false, false, false, false, false, false, false] rfl rfl kr_ (fun _ _ _ h => h) (Or.inl ⟨by rfl, ?_⟩) hHeld ?_ ?_
    rotate_left
    · rintro w' ⟨s0, s1, s2, s3, s4⟩
      go_simp
      with_reducible rfl
    rotate_left
    · simp only [Act.put, List.setIfInBounds_toArray, List.set_cons_zero, List.set_cons_succ, i64_w, i32_w]
      rfl
    refine take_ (i := 3) (N := some 30) (v := ?_) (a' := ?_) #[true, true, true, true, false, false, false, false, false, false] rfl rfl kr_ (fun _ _ _ h => h) (Or.inl ⟨by rfl, ?_⟩) hHeld ?_ ?_
    rotate_left
    · rintro w' ⟨s0, s1, s2, s3, s4⟩
      go_simp
      with_reducible rfl
    rotate_left
    · simp only [Act.put, List.setIfInBounds_toArray, List.set_cons_zero, List.set_cons_succ, i64_w, i32_w]
      rfl
    refine take_ (i := 4) (N := some 31) (v := ?_) (a' := ?_) #[true, true, true, true, true, false, false, false, false, false] rfl rfl kr_ (fun _ _ _ h => h) (Or.inl ⟨by rfl, ?_⟩) hHeld ?_ ?_
    rotate_left
    · rintro w' ⟨s0, s1, s2, s3, s4⟩
      go_simp
      with_reducible rfl
    rotate_left
    · simp only [Act.put, List.setIfInBounds_toArray, List.set_cons_zero, List.set_cons_succ, i64_w, i32_w]
      rfl
    refine one_ (i := 5) (N := some 32) #[true, true, true, true, true, true, false, false, false, false] rfl rfl kr_ (by decide) (fun K hK => ?_)
    refine goes_ Try.func57 kr_ rfl #[.agg #[.slice Ap t1.length cp, .slice Aq t2.length cq, .int .i64 t3], .int .i64 s.1, .int .i64 s.2.1] (by rfl) rfl rfl (by (try simp only [List.map_toArray, List.map_cons, List.map_nil]); first | done | rfl) ?_
    refine (impl_plan_buffer.calls Ap cp t1 Aq cq t2 t3 s.1 s.2.1 x _ (Kd.C_drew (Kd.F_now H6.out.1)) HCP.out (Kd.C_drew (Kd.F_now H6.out.2.1)) HCQ.out HX.out).mono ?_
    rintro e w7 ⟨rfl, hb7⟩
    refine ⟨_, rfl, ?_⟩
    have HB7 := A_ (below_step (below_drew (Below.refl _ _)) hb7 : Below w6.heap.size w6 w7)
    refine hK.out _ _ ⟨pw_cell_below HB7.out hz0, pw_cell_below HB7.out hz1, pw_cell_below HB7.out hz2, pw_cell_below HB7.out hza, pw_cell_below HB7.out hzb⟩ (fun hHeld => ?_)
    clear hK K hb7
    refine norm_ (a' := ?_) ?_ ?_
    rotate_left
    · simp only [Act.put, List.setIfInBounds_toArray, List.set_cons_zero, List.set_cons_succ, i64_w, i32_w]
      rfl
    refine pure_ (i := 6) (N := some 6) (v := ?_) (a' := ?_) #[true, true, true, true, true, true, true, false, false, false] rfl rfl kr_ (fun _ _ _ h => h) (Or.inl ⟨by rfl, ?_⟩) ?_ ?_
    rotate_left
    · intro w'
      go_simp
      with_reducible rfl
    rotate_left
    · simp only [Act.put, List.setIfInBounds_toArray, List.set_cons_zero, List.set_cons_succ, i64_w, i32_w]
      rfl
    refine pure_ (i := 7) (N := some 7) (v := ?_) (a' := ?_) #[true, true, true, true, true, true, true, true, false, false] rfl rfl kr_ (fun _ _ _ h => h) (Or.inl ⟨by rfl, ?_⟩) ?_ ?_
    rotate_left
    · intro w'
      go_simp
      with_reducible rfl
    rotate_left
    · simp only [Act.put, List.setIfInBounds_toArray, List.set_cons_zero, List.set_cons_succ, i64_w, i32_w]
      rfl
    refine pure_ (i := 8) (N := some 8) (v := ?_) (a' := ?_) #[true, true, true, true, true, true, true, true, true, false] rfl rfl kr_ (fun _ _ _ h => h) (Or.inl ⟨by rfl, ?_⟩) ?_ ?_
    rotate_left
    · intro w'
      go_simp
      with_reducible rfl
    rotate_left
    · simp only [Act.put, List.setIfInBounds_toArray, List.set_cons_zero, List.set_cons_succ, i64_w, i32_w]
      rfl
    refine pure_ (i := 9) (N := some 9) (v := ?_) (a' := ?_) #[true, true, true, true, true, true, true, true, true, true] rfl rfl kr_ (fun _ _ _ h => h) (Or.inl ⟨by rfl, ?_⟩) ?_ ?_
    rotate_left
    · intro w'
      go_simp
      with_reducible rfl
    rotate_left
    · simp only [Act.put, List.setIfInBounds_toArray, List.set_cons_zero, List.set_cons_succ, i64_w, i32_w]
      rfl
    refine done_ kr_ ?_
    go_wp2
    refine bodyPost_ret (results_list (rs := [.tmp 6, .tmp 7, .tmp 8, .tmp 9]) rfl (by simp) (.tmp (.tmp (.tmp (.tmp .nil))))) rfl ?_
    exact ⟨by first | rfl | (simp; done), below_step H6.out.2.2.2.2.2.2 HB7.out⟩
/-! ### spec_CriticalWaits: function 25 -/
mutual
def spec_CriticalWaits.l0 : Nat → List (List Int) → List Int → Int → List (List Int) → List (List Int) → Int → Int → Option ((List (List Int)) × Bool)
  | 0, _, _, _, _, _, _, _ => none
  | k + 1, x0, x1, x2, x8, x18, x19, x20 => if x20 < x19 then (if 0 ≤ x20 then (if x20 < (x18.length : Int) then (spec_CriticalWaits.l1 k x0 x1 x2 x8 x20 x18 x19 x20 (rd_L1 x18 x20) ((rd_L1 x18 x20).length : Int) 0) else (none)) else (none)) else (some (x8, true))
def spec_CriticalWaits.l1 : Nat → List (List Int) → List Int → Int → List (List Int) → Int → List (List Int) → Int → Int → List Int → Int → Int → Option ((List (List Int)) × Bool)
  | 0, _, _, _, _, _, _, _, _, _, _, _ => none
  | k + 1, x0, x1, x2, x8, x9, x18, x19, x20, x25, x26, x27 => if x27 < x26 then (if 0 ≤ x27 then (if x27 < (x25.length : Int) then (if (rd x25 x27) = 1000000000 then (spec_CriticalWaits.l1 k x0 x1 x2 x8 x9 x18 x19 x20 x25 x26 (wrap64 (x27 + 1))) else ((spec_dlBuffer.f x0 x1 x2 x9 x27).bind fun t325 => (if t325 = 0 then (if x8.length < 5864062014805 then (spec_CriticalWaits.l1 k x0 x1 x2 (x8 ++ [(([x9, x27] : List Int))]) x9 x18 x19 x20 x25 x26 (wrap64 (x27 + 1))) else (none)) else (spec_CriticalWaits.l1 k x0 x1 x2 x8 x9 x18 x19 x20 x25 x26 (wrap64 (x27 + 1)))))) else (none)) else (none)) else (spec_CriticalWaits.l0 k x0 x1 x2 x8 x18 x19 (wrap64 (x20 + 1)))
end
def spec_CriticalWaits.f (k : Nat) (l0 : List (List Int)) (l1 : List Int) (a2 : Int) : Option ((List (List Int)) × Bool) := (spec_dlGood.f k l0 l1 a2).bind fun t322 => (if t322 = true then (spec_CriticalWaits.l0 k l0 l1 a2 ([] : List (List Int)) l0 (l0.length : Int) 0) else (some (([] : List (List Int)), false)))
theorem spec_CriticalWaits.mono_l : ∀ k, (∀ y0 y1 y2 y3 y4 y5 y6, LeO (spec_CriticalWaits.l0 k y0 y1 y2 y3 y4 y5 y6) (spec_CriticalWaits.l0 (k + 1) y0 y1 y2 y3 y4 y5 y6)) ∧ (∀ y0 y1 y2 y3 y4 y5 y6 y7 y8 y9 y10, LeO (spec_CriticalWaits.l1 k y0 y1 y2 y3 y4 y5 y6 y7 y8 y9 y10) (spec_CriticalWaits.l1 (k + 1) y0 y1 y2 y3 y4 y5 y6 y7 y8 y9 y10))
  | 0 => ⟨fun _ _ _ _ _ _ _ r h => by simp [spec_CriticalWaits.l0] at h, fun _ _ _ _ _ _ _ _ _ _ _ r h => by simp [spec_CriticalWaits.l1] at h⟩
  | k + 1 => by
    obtain ⟨ih0, ih1⟩ := spec_CriticalWaits.mono_l k
    refine ⟨?_, ?_⟩
    all_goals (intros; first | unfold spec_CriticalWaits.l0 | unfold spec_CriticalWaits.l1)
    all_goals (repeat' first | (with_reducible first | exact ih0 _ _ _ _ _ _ _ | exact ih1 _ _ _ _ _ _ _ _ _ _ _ | exact spec_dlGood.mono _ _ _ _ | exact LeO.refl _ | exact LeO.none _ | refine LeO.ite ?_ ?_ | refine LeO.bind ?_ (fun _ => ?_)) | exact ih0 _ _ _ _ _ _ _ | exact ih1 _ _ _ _ _ _ _ _ _ _ _ | exact spec_dlGood.mono _ _ _ _ | exact LeO.none _ | refine LeO.ite ?_ ?_ | refine LeO.bind ?_ (fun _ => ?_))
theorem spec_CriticalWaits.mono : ∀ a0 a1 a2 k, LeO (spec_CriticalWaits.f k a0 a1 a2) (spec_CriticalWaits.f (k + 1) a0 a1 a2) := by
 intro a0 a1 a2 k
 obtain ⟨ih0, ih1⟩ := spec_CriticalWaits.mono_l k
 unfold spec_CriticalWaits.f
 repeat' first | (with_reducible first | exact ih0 _ _ _ _ _ _ _ | exact ih1 _ _ _ _ _ _ _ _ _ _ _ | exact spec_dlGood.mono _ _ _ _ | exact LeO.refl _ | exact LeO.none _ | refine LeO.ite ?_ ?_ | refine LeO.bind ?_ (fun _ => ?_)) | exact ih0 _ _ _ _ _ _ _ | exact ih1 _ _ _ _ _ _ _ _ _ _ _ | exact spec_dlGood.mono _ _ _ _ | exact LeO.none _ | refine LeO.ite ?_ ?_ | refine LeO.bind ?_ (fun _ => ?_)
set_option maxHeartbeats 8000000 in
set_option maxRecDepth 100000 in
theorem spec_CriticalWaits.calls (k : Nat) (A0 : Option Addr) (c0 : Nat) (l0 : List (List Int)) (A1 : Option Addr) (c1 : Nat) (l1 : List Int) (a2 : Int) (r1 : List (List Int)) (r2 : Bool) (w : World) (hr0 : Kd.C (Kd.slice 3 (Kd.int .i64)) w A0 l0.length l0) (hc0 : l0.length ≤ c0) (hr1 : Kd.C (Kd.int .i64) w A1 l1.length l1) (hc1 : l1.length ≤ c1) (h : spec_CriticalWaits.f k l0 l1 a2 = some (r1, r2)) :
 Calls Try.prog 25 #[.slice A0 l0.length c0, .slice A1 l1.length c1, .int .i64 a2] w fun e w' => ∃ v0_ : Value, e = .returned (.tuple #[v0_, .bool r2]) ∧ Kd.S (Kd.slice 3 (Kd.int .i64)) 23 w' w.heap.size (fun _ => True) v0_ r1 ∧ Below w.heap.size w w' := by
 have HR0 := A_ hr0
 have HC0 := A_ hc0
 clear hr0 hc0
 have HR1 := A_ hr1
 have HC1 := A_ hc1
 clear hr1 hc1
 have HB := A_ (Below.refl w.heap.size w)
 have H : ((spec_dlGood.f k l0 l1 a2).bind fun t322 => (if t322 = true then (spec_CriticalWaits.l0 k l0 l1 a2 ([] : List (List Int)) l0 (l0.length : Int) 0) else (some (([] : List (List Int)), false)))) = some (r1, r2) := h
 clear h
 obtain ⟨t322, A40, H⟩ := Option.bind_eq_some_iff.mp H
 try dsimp only at H
 have A4 := A_ A40; clear A40
 by_cases c5 : t322 = true
 ·
  subst c5
  rw [if_pos rfl] at H
  have H' := A_ H; clear H
  go_enter Try.func25, Try.ntmps25
  go_wp2_with (first | ((with_reducible refine gate_callee (f := 51) rfl ?_); refine goesL_ (some 16) rfl rfl Try.func51 kr_ rfl #[.slice A0 l0.length c0, .slice A1 l1.length c1, .int .i64 a2] rfl am_ ?_; (with_reducible refine (spec_dlGood.calls k _ _ l0 _ _ l1 a2 true _ ?side1 ?side2 ?side3 ?side4 A4.out).mono ?_); (case side1 => exact kC_ HR0.out); (case side2 => exact HC0.out); (case side3 => exact kC_ HR1.out); (case side4 => exact HC1.out); rintro e w' ⟨rfl, ⟨nd, rfl⟩⟩; refine ⟨_, rfl, ?_⟩))
  go_loopg [8, 20] k (fun kq v8 v20 w' => ∃ (x8_1 : List (List Int)) (x20_1 : Int), v20 = .int .i64 x20_1 ∧ Aside0 (spec_CriticalWaits.l0 kq l0 l1 a2 x8_1 l0 (l0.length : Int) x20_1 = some (r1, r2)) ∧ Aside0 (kq ≤ k) ∧ Aside0 (Kd.S (Kd.slice 3 (Kd.int .i64)) 23 w' w.heap.size (fun _ => True) v8 x8_1) ∧ Aside0 (Below w.heap.size w w'))
  case atStart => exact ⟨(([] : List (List Int))), (0), es_, H', ⟨Nat.le_refl _⟩, ⟨by first | exact Kd.S_nil _ _ _ _ _ | exact Kd.N_nil _ _ _ _ _ | exact Kd.V_nil _ _ _ _ _ | exact Kd.Q_nil _ _ _ _ _ | exact Kd.R_nil _ _ _ _ _⟩, ⟨bl_⟩⟩
  case round =>
   clear H'
   (try clear c1); (try clear c2); (try clear p2); (try clear c5)
   obtain ⟨x8_1, x20_1, rfl, HA, HK1, HO_8, HB⟩ := hrel
   cases gk with
   | zero => exact absurd HA.out (by simp [spec_CriticalWaits.l0])
   | succ k1 =>
    have H := HA.out
    clear HA
    simp only [spec_CriticalWaits.l0] at H
    by_cases c6 : x20_1 < (l0.length : Int)
    ·
     rw [if_pos c6] at H
     have c6b0 := decide_eq_true c6
     clear c6
     by_cases c7 : 0 ≤ x20_1
     ·
      rw [if_pos c7] at H
      have c7b0 := decide_eq_true c7
      clear c7
      by_cases c8 : x20_1 < (l0.length : Int)
      ·
       rw [if_pos c8] at H
       have c8b0 := decide_eq_true c8
       clear c8
       have H' := A_ H; clear H
       have p323 : 0 ≤ (x20_1 : Int) := od_
       have q323 : x20_1 < (l0.length : Int) := od_
       obtain ⟨ad323, A323_0, c323_0, e323, hx323_0, hl323_0, hi323_0⟩ := at_L1 HR0.out x20_1 p323 q323
       cases e323
       try replace hx323_0 := (HB.out.cell (World.block_lt_of_cell? w _ hx323_0)).trans hx323_0
       have HR323_0 := A_ hi323_0
       have HC323_0 := A_ hl323_0
       clear hi323_0 hl323_0
       replace p323 := eq_true p323
       replace q323 := eq_true q323
       go_wp2
       go_loopg [8, 27] k1 (fun kq v8 v27 w' => ∃ (x8_2 : List (List Int)) (x27_2 : Int), v27 = .int .i64 x27_2 ∧ Aside0 (spec_CriticalWaits.l1 kq l0 l1 a2 x8_2 x20_1 l0 (l0.length : Int) x20_1 (rd_L1 l0 x20_1) ((rd_L1 l0 x20_1).length : Int) x27_2 = some (r1, r2)) ∧ Aside0 (kq ≤ k1) ∧ Aside0 (Kd.S (Kd.slice 3 (Kd.int .i64)) 23 w' w.heap.size (fun _ => True) v8 x8_2) ∧ Aside0 (Below w.heap.size w w'))
       case atStart => exact ⟨(x8_1), (0), es_, H', ⟨Nat.le_refl _⟩, ⟨kS_ HO_8.out⟩, ⟨bl_⟩⟩
       case round =>
        clear H'
        (try clear c1); (try clear c2); (try clear p2); (try clear c3); (try clear p3); (try clear q3); (try clear hx3); (try clear c5); (try clear c6); (try clear c6b0); (try clear c7); (try clear c7b0); (try clear c8); (try clear c8b0); (try clear hx323_0); (try clear p2); (try clear p323); (try clear q323)
        obtain ⟨x8_2, x27_2, rfl, HA, HK2, HO_8, HB⟩ := hrel
        cases gk with
        | zero => exact absurd HA.out (by simp [spec_CriticalWaits.l1])
        | succ k2 =>
         have H := HA.out
         clear HA
         simp only [spec_CriticalWaits.l1] at H
         by_cases c9 : x27_2 < ((rd_L1 l0 x20_1).length : Int)
         ·
          rw [if_pos c9] at H
          have c9b0 := decide_eq_true c9
          clear c9
          by_cases c10 : 0 ≤ x27_2
          ·
           rw [if_pos c10] at H
           have c10b0 := decide_eq_true c10
           clear c10
           by_cases c11 : x27_2 < ((rd_L1 l0 x20_1).length : Int)
           ·
            rw [if_pos c11] at H
            have c11b0 := decide_eq_true c11
            clear c11
            by_cases c12 : (rd (rd_L1 l0 x20_1) x27_2) = 1000000000
            ·
             rw [if_pos c12] at H
             have c12b0 : ((rd (rd_L1 l0 x20_1) x27_2) == 1000000000) = true := beq_iff_eq.mpr c12
             have c12b1 : ((rd (rd_L1 l0 x20_1) x27_2) != 1000000000) = false := bne_eq_false_iff_eq.mpr c12
             clear c12
             have H' := A_ H; clear H
             have p324 : 0 ≤ (x27_2 : Int) := od_
             have q324 : x27_2 < ((rd_L1 l0 x20_1).length : Int) := od_
             obtain ⟨ad324, e324, hx324_0⟩ := Kd.at_int HR323_0.out x27_2 p324 q324
             cases e324
             try replace hx324_0 := (HB.out.cell (World.block_lt_of_cell? w _ hx324_0)).trans hx324_0
             replace p324 := eq_true p324
             replace q324 := eq_true q324
             go_wp2
             go_roundg k2
             case measure => have := HK1.out; have := HK2.out; omega
             case rel => exact ⟨(x8_2), (wrap64 (x27_2 + 1)), es_, H', ⟨by have := HK1.out; have := HK2.out; omega⟩, ⟨kS_ HO_8.out⟩, ⟨bl_⟩⟩
            ·
             rw [if_neg c12] at H
             have c12b0 : ((rd (rd_L1 l0 x20_1) x27_2) == 1000000000) = false := beq_eq_false_iff_ne.mpr c12
             have c12b1 : ((rd (rd_L1 l0 x20_1) x27_2) != 1000000000) = true := bne_iff_ne.mpr c12
             obtain ⟨t325, A130, H⟩ := Option.bind_eq_some_iff.mp H
             try dsimp only at H
             have A13 := A_ A130; clear A130
             by_cases c14 : t325 = 0
             ·
              rw [if_pos c14] at H
              have c14b0 : (t325 == 0) = true := beq_iff_eq.mpr c14
              have c14b1 : (t325 != 0) = false := bne_eq_false_iff_eq.mpr c14
              clear c14
              obtain ⟨y326, hy326⟩ : ∃ y_ : List Int, y_ = (([x20_1, x27_2] : List Int)) := ⟨_, rfl⟩
              replace H : (if x8_2.length < 5864062014805 then (spec_CriticalWaits.l1 k2 l0 l1 a2 (x8_2 ++ [y326]) x20_1 l0 (l0.length : Int) x20_1 (rd_L1 l0 x20_1) ((rd_L1 l0 x20_1).length : Int) (wrap64 (x27_2 + 1))) else (none)) = some (r1, r2) := by first | (rw [hy326]; with_reducible exact H) | (have H2_ := (Option.bind_some _ _).symm.trans H; rw [hy326]; with_reducible exact H2_) | (have H2_ := (Option.bind_some _ _).symm.trans H; with_reducible exact H2_) | with_reducible exact H | (rw [hy326]; exact H) | exact H
              have Ny326 := A_ hy326
              clear hy326
              by_cases c15 : x8_2.length < 5864062014805
              ·
               rw [if_pos c15] at H
               have LMc15 := A_ c15
               clear c15
               obtain ⟨y329, hy329⟩ : ∃ y_ : List (List Int), y_ = (x8_2 ++ [y326]) := ⟨_, rfl⟩
               replace H : (spec_CriticalWaits.l1 k2 l0 l1 a2 y329 x20_1 l0 (l0.length : Int) x20_1 (rd_L1 l0 x20_1) ((rd_L1 l0 x20_1).length : Int) (wrap64 (x27_2 + 1))) = some (r1, r2) := by first | (rw [hy329]; with_reducible exact H) | (have H2_ := (Option.bind_some _ _).symm.trans H; rw [hy329]; with_reducible exact H2_) | (have H2_ := (Option.bind_some _ _).symm.trans H; with_reducible exact H2_) | with_reducible exact H | (rw [hy329]; exact H) | exact H
               have Ny329 := A_ hy329
               clear hy329
               have H' := A_ H; clear H
               have p324 : 0 ≤ (x27_2 : Int) := od_
               have q324 : x27_2 < ((rd_L1 l0 x20_1).length : Int) := od_
               obtain ⟨ad324, e324, hx324_0⟩ := Kd.at_int HR323_0.out x27_2 p324 q324
               cases e324
               try replace hx324_0 := (HB.out.cell (World.block_lt_of_cell? w _ hx324_0)).trans hx324_0
               replace p324 := eq_true p324
               replace q324 := eq_true q324
               go_wp2_with (first | (go_at_call 53; (with_reducible refine (spec_dlBuffer.calls _ _ l0 _ _ l1 a2 x20_1 x27_2 t325 _ ?side1 ?side2 ?side3 ?side4 A13.out).mono ?_); (case side1 => exact kC_ (Kd.C_below HR0.out HB.out)); (case side2 => exact HC0.out); (case side3 => exact kC_ (Kd.C_below HR1.out HB.out)); (case side4 => exact HC1.out); rintro e w' ⟨rfl, ⟨nd, rfl⟩⟩) | ((with_reducible refine gate_dst (N := 46) rfl ?_); refine Kd.R_lit (Kd.int .i64) _ 3 ?hg (N := 46) ?hd (xs := ([x20_1, x27_2] : List Int)) (inner := [.int .i64 x20_1, .int .i64 x27_2]) (ok := fun _ => True) (okp := fun _ => True) ?hr ?hp (fun _ hk => hk) trivial (Below.refl _ _) (Nat.le_refl _) (by simp) ?_; (case hd => rfl); (case hg => rfl); (case hr => first | (go_simp; done) | (go_simp; rfl)); (case hp => exact (Reps.one (show Kd.M (Kd.int .i64) _ _ _ x20_1 [.int .i64 x20_1] from rfl) (Reps.one (show Kd.M (Kd.int .i64) _ _ _ x27_2 [.int .i64 x27_2] from rfl) (Reps.none _ _)))); intro v327 w16 ho17 hb hg_ hnew_; clear hg_ hnew_; (first | rw [← Ny326.out] at ho17 | (simp only [Int.reduceToNat] at ho17; rw [← Ny326.out] at ho17)); have n0_ := A_ (Kd.S_elder' (kS_ HO_8.out) (Kd.R_base ho17) hb); have n1_ := A_ (Kd.R_lower ho17 (below_size bl_)); have n2_ := A_ (below_step bl_ hb); clear HO_8; clear HB; have HO_8 := n0_; have HO328 := n1_; have HB := n2_; clear n0_ n1_ n2_; clear hb ho17; obtain ⟨Ao19, co19, eo19⟩ := Kd.R_slice HO328.out; subst eo19) | ((with_reducible refine gate_builtin (b := .append) (xs := #[.tmp 43, .tmp 47]) rfl ?_); at_builtin; refine Kd.S_append (Kd.slice 3 (Kd.int .i64)) (w0 := w) w.heap.size rfl (.tmp 43) (.tmp 47) 22 23 (.slice none 0 0) 24 rfl Try.underlying22 info23 rfl (by decide) (by omega) u8 x8_2 y326 [.slice Ao19 y326.length co19] (fun _ => True) (fun k_ => some k_ = (.slice Ao19 y326.length co19 : Value).ownBlock) rfl rfl ?aP (fun k_ hk_ => ((Kd.R_mono (ok' := fun k_ => ((fun _ => True)) k_ ∧ some k_ ≠ (u8 : Value).ownBlock) (Kd.R_apart' (HO328.out) (Kd.S_typed HO_8.out) (by decide)) (fun k_ hk => ⟨trivial, hk.2⟩))).1 k_ hk_.symm) ?aF ?aO ?aB ?aS ?aL ?_; (case aP => exact Kd.M_row (Kd.R_mono (Kd.R_tight rfl (Kd.R_mono (ok' := fun k_ => ((fun _ => True)) k_ ∧ some k_ ≠ (u8 : Value).ownBlock) (Kd.R_apart' (HO328.out) (Kd.S_typed HO_8.out) (by decide)) (fun k_ hk => ⟨trivial, hk.2⟩))) (fun _ h_ => h_))); (case aB => exact bl_); (case aF => exact (fun _ _ => trivial)); (case aO => exact (by (with_reducible repeat (first | apply Kd.S_alloc | apply Kd.S_drewN | apply Kd.S_drew)); exact Kd.S_mono HO_8.out (fun k_ hk => ⟨trivial, fun e_ => hk.2 e_⟩))); (case aS => exact (below_size bl_)); (case aL => have := LMc15.out; omega); intro v330 w18 ho hb hg hat; rw [← Ny329.out] at ho; have n0_ := A_ (hb); have n1_ := A_ (ho); clear HB; clear HO_8; clear HO328; have HB := n0_; have HO331 := n1_; clear n0_ n1_; clear ho hb hg hat))
               go_roundg k2
               case measure => have := HK1.out; have := HK2.out; omega
               case rel => exact ⟨(y329), (wrap64 (x27_2 + 1)), es_, H', ⟨by have := HK1.out; have := HK2.out; omega⟩, ⟨kS_ HO331.out⟩, ⟨bl_⟩⟩
              ·
               rw [if_neg c15] at H; cases H
             ·
              rw [if_neg c14] at H
              have c14b0 : (t325 == 0) = false := beq_eq_false_iff_ne.mpr c14
              have c14b1 : (t325 != 0) = true := bne_iff_ne.mpr c14
              have H' := A_ H; clear H
              have p324 : 0 ≤ (x27_2 : Int) := od_
              have q324 : x27_2 < ((rd_L1 l0 x20_1).length : Int) := od_
              obtain ⟨ad324, e324, hx324_0⟩ := Kd.at_int HR323_0.out x27_2 p324 q324
              cases e324
              try replace hx324_0 := (HB.out.cell (World.block_lt_of_cell? w _ hx324_0)).trans hx324_0
              replace p324 := eq_true p324
              replace q324 := eq_true q324
              go_wp2_with (first | (go_at_call 53; (with_reducible refine (spec_dlBuffer.calls _ _ l0 _ _ l1 a2 x20_1 x27_2 t325 _ ?side1 ?side2 ?side3 ?side4 A13.out).mono ?_); (case side1 => exact kC_ (Kd.C_below HR0.out HB.out)); (case side2 => exact HC0.out); (case side3 => exact kC_ (Kd.C_below HR1.out HB.out)); (case side4 => exact HC1.out); rintro e w' ⟨rfl, ⟨nd, rfl⟩⟩))
              go_roundg k2
              case measure => have := HK1.out; have := HK2.out; omega
              case rel => exact ⟨(x8_2), (wrap64 (x27_2 + 1)), es_, H', ⟨by have := HK1.out; have := HK2.out; omega⟩, ⟨kS_ HO_8.out⟩, ⟨bl_⟩⟩
           ·
            rw [if_neg c11] at H; cases H
          ·
           rw [if_neg c10] at H; cases H
         ·
          rw [if_neg c9] at H
          have c9b0 := decide_eq_false c9
          clear c9
          have H' := A_ H; clear H
          go_wp2
          go_roundg k2
          case measure => have := HK1.out; have := HK2.out; omega
          case rel => exact ⟨(x8_2), (wrap64 (x20_1 + 1)), es_, H', ⟨by have := HK1.out; have := HK2.out; omega⟩, ⟨kS_ HO_8.out⟩, ⟨bl_⟩⟩
      ·
       rw [if_neg c8] at H; cases H
     ·
      rw [if_neg c7] at H; cases H
    ·
     rw [if_neg c6] at H
     have c6b0 := decide_eq_false c6
     clear c6
     simp only [Option.some.injEq, Prod.mk.injEq] at H
     obtain ⟨rfl, rfl⟩ := H
     go_wp2
     go_ret2
     exact ⟨_, ew_, kS_ HO_8.out, bl_⟩
 ·
  replace c5 := Bool.eq_false_iff.mpr c5
  subst c5
  rw [if_neg (show ¬ (false = true) by decide)] at H
  simp only [Option.some.injEq, Prod.mk.injEq] at H
  obtain ⟨rfl, rfl⟩ := H
  go_enter Try.func25, Try.ntmps25
  go_wp2_with (first | ((with_reducible refine gate_callee (f := 51) rfl ?_); refine goesL_ (some 16) rfl rfl Try.func51 kr_ rfl #[.slice A0 l0.length c0, .slice A1 l1.length c1, .int .i64 a2] rfl am_ ?_; (with_reducible refine (spec_dlGood.calls k _ _ l0 _ _ l1 a2 false _ ?side1 ?side2 ?side3 ?side4 A4.out).mono ?_); (case side1 => exact kC_ HR0.out); (case side2 => exact HC0.out); (case side3 => exact kC_ HR1.out); (case side4 => exact HC1.out); rintro e w' ⟨rfl, ⟨nd, rfl⟩⟩; refine ⟨_, rfl, ?_⟩))
  go_ret2
  exact ⟨_, ew_, by first | exact Kd.S_nil _ _ _ _ _ | exact Kd.N_nil _ _ _ _ _ | exact Kd.V_nil _ _ _ _ _ | exact Kd.Q_nil _ _ _ _ _ | exact Kd.R_nil _ _ _ _ _, bl_⟩
/-! ### impl_CriticalWaits: function 26 -/
/-- One visit: a pair without a buffer is told. (A plan's rounds: 65.) -/
def impl_CriticalWaits.step (l0 : List (List Int)) (l1 : List Int) (a2 : Int) (s : List (List Int)) (i j : Int) : Option (List (List Int)) := (impl_plan_buffer.f l0 l1 a2 i j).bind fun x => if x = 0 then (if s.length < 5864062014805 then some (s ++ [[i, j]]) else none) else some s
set_option maxHeartbeats 8000000 in
set_option maxRecDepth 100000 in
theorem impl_CriticalWaits.visit (A0 : Option Addr) (c0 : Nat) (l0 : List (List Int)) (A1 : Option Addr) (c1 : Nat) (l1 : List Int) (a2 : Int) (v : Value) (s s' : List (List Int)) (Bo Bp : Nat) (i j : Int) (u w : World) (hu : Below u.heap.size u w)
    (hr0 : Kd.C (Kd.slice 3 (Kd.int .i64)) w A0 l0.length l0) (hc0 : l0.length ≤ c0) (hr1 : Kd.C (Kd.int .i64) w A1 l1.length l1) (hc1 : l1.length ≤ c1)
    (hbo : w.heap[Bo]? = some (.cells #[v] 22 (0, 0))) (hbp : w.heap[Bp]? = some (.cells #[.slice A0 l0.length c0, .slice A1 l1.length c1, .int .i64 a2] 63 (0, 0)))
    (hBo : u.heap.size ≤ Bo) (hS : Kd.S (Kd.slice 3 (Kd.int .i64)) 23 w u.heap.size (fun _ => True) v s)
    (h : impl_CriticalWaits.step l0 l1 a2 s i j = some s') :
    Calls Try.prog 61 #[.int .i64 i, .int .i64 j, .pointer (some ⟨Bp, 0, none⟩), .pointer (some ⟨Bo, 0, none⟩)] w fun e w' => e = .returned (.tuple #[]) ∧ (∃ v', w'.heap[Bo]? = some (.cells #[v'] 22 (0, 0)) ∧ Kd.S (Kd.slice 3 (Kd.int .i64)) 23 w' u.heap.size (fun _ => True) v' s' ∧ (v'.ownBlock = v.ownBlock ∨ ∃ b, v'.ownBlock = some b ∧ w.heap.size ≤ b)) ∧ Kept w w' (fun k => k = Bo ∨ some k = v.ownBlock) ∧ Below u.heap.size u w' := by
  obtain ⟨x, hx, h⟩ := Option.bind_eq_some_iff.mp h
  have HX := A_ hx
  have HR0 := A_ hr0
  have HR1 := A_ hr1
  have HBO := A_ hbo
  have HU := A_ hu
  have HSV := A_ hS
  obtain ⟨Av, cv, ev⟩ := Kd.S_slice hS
  subst ev
  have hczo : w.cell? ⟨Bo, 0, none⟩ = some (.slice Av s.length cv) := (blk_cell hbo 0).trans rfl
  have hcz0 : w.cell? ⟨Bp, 0, none⟩ = some (.slice A0 l0.length c0) := (blk_cell hbp 0).trans rfl
  have hcz1 : w.cell? ⟨Bp, 1, none⟩ = some (.slice A1 l1.length c1) := (blk_cell hbp 1).trans rfl
  have hcz2 : w.cell? ⟨Bp, 2, none⟩ = some (.int .i64 a2) := (blk_cell hbp 2).trans rfl
  have HNE := A_ (fun k (hk : (Value.slice Av s.length cv).ownBlock = some k) => ((Kd.S_R (Kd.S_types hS hbo (by decide))).1 k hk).2)
  clear hx hr0 hr1 hbo hu hS hbp
  by_cases hx0 : x = 0
  · subst hx0
    rw [if_pos rfl] at h
    by_cases hl : s.length < 5864062014805
    · rw [if_pos hl] at h
      have hs' := Option.some.inj h
      clear h
      have LM := A_ hl
      clear hl
      go_enter Try.func61, Try.ntmps61
      go_wp2_with fail
      refine (impl_plan_buffer.calls A0 c0 l0 A1 c1 l1 a2 i j 0 _ HR0.out hc0 HR1.out hc1 HX.out).mono ?_
      rintro e w1 ⟨rfl, hb1⟩
      have HB1 := A_ hb1
      have hczo1 := pw_cell_below hb1 hczo
      have HO := A_ (Kd.S_below HSV.out hb1)
      have HB := A_ (below_then HU.out HU.out.size hb1)
      clear hb1 hczo hcz0 hcz1 hcz2
      obtain ⟨y, hy⟩ : ∃ y_ : List Int, y_ = [i, j] := ⟨_, rfl⟩
      obtain ⟨s2, hs2⟩ : ∃ s_ : List (List Int), s_ = s ++ [y] := ⟨_, rfl⟩
      have Ny := A_ hy
      have Ns := A_ hs2
      clear hy hs2
      go_wp2_with (first | ((with_reducible refine gate_dst (N := 14) rfl ?_); refine Kd.R_lit (Kd.int .i64) _ 3 ?hg (N := 14) ?hd (xs := ([i, j] : List Int)) (inner := [.int .i64 i, .int .i64 j]) (ok := fun _ => True) (okp := fun _ => True) ?hr ?hp (fun _ hk => hk) trivial (Below.refl _ _) (Nat.le_refl _) (by simp) ?_; (case hd => rfl); (case hg => rfl); (case hr => first | (go_simp; done) | (go_simp; rfl)); (case hp => exact (Reps.one (show Kd.M (Kd.int .i64) _ _ _ i [.int .i64 i] from rfl) (Reps.one (show Kd.M (Kd.int .i64) _ _ _ j [.int .i64 j] from rfl) (Reps.none _ _)))); intro v3 w2 ho2 hb2 hg_ hnew_; clear hg_ hnew_; (first | rw [← Ny.out] at ho2 | (simp only [Int.reduceToNat] at ho2; rw [← Ny.out] at ho2)); have n0_ := A_ (Kd.S_elder' HO.out (Kd.R_base ho2) hb2); have n1_ := A_ (Kd.R_lower ho2 (below_size HB.out)); have n2_ := A_ (below_step HB.out hb2); have HB2 := A_ (below_step HB1.out hb2); clear HO; clear HB; have HO := n0_; have HR3 := n1_; have HB := n2_; clear n0_ n1_ n2_; clear hb2 ho2; obtain ⟨Ao, co, eo⟩ := Kd.R_slice HR3.out; subst eo) | ((with_reducible refine gate_builtin (b := .append) (xs := #[.tmp 11, .tmp 15]) rfl ?_); at_builtin; refine Kd.S_append (Kd.slice 3 (Kd.int .i64)) (w0 := u) u.heap.size rfl (.tmp 11) (.tmp 15) 22 23 (.slice none 0 0) 24 rfl Try.underlying22 info23 rfl (by decide) (by omega) (.slice Av s.length cv) s y [.slice Ao y.length co] (fun _ => True) (fun k_ => some k_ = (.slice Ao y.length co : Value).ownBlock) rfl rfl ?aP (fun k_ hk_ => ((Kd.R_mono (ok' := fun k_ => ((fun _ => True)) k_ ∧ some k_ ≠ (.slice Av s.length cv : Value).ownBlock) (Kd.R_apart' (HR3.out) (Kd.S_typed HO.out) (by decide)) (fun k_ hk => ⟨trivial, hk.2⟩))).1 k_ hk_.symm) ?aF ?aO ?aB ?aS ?aL ?_; (case aP => exact Kd.M_row (Kd.R_mono (Kd.R_tight rfl (Kd.R_mono (ok' := fun k_ => ((fun _ => True)) k_ ∧ some k_ ≠ (.slice Av s.length cv : Value).ownBlock) (Kd.R_apart' (HR3.out) (Kd.S_typed HO.out) (by decide)) (fun k_ hk => ⟨trivial, hk.2⟩))) (fun _ h_ => h_))); (case aB => exact bl_); (case aF => exact (fun _ _ => trivial)); (case aO => exact (by (with_reducible repeat (first | apply Kd.S_alloc | apply Kd.S_drewN | apply Kd.S_drew)); exact Kd.S_mono HO.out (fun k_ hk => ⟨trivial, fun e_ => hk.2 e_⟩))); (case aS => exact (below_size bl_)); (case aL => have := LM.out; omega); intro v5 w4 ho hb hg hat; rw [← Ns.out] at ho; have HB4 := A_ (hb); have HO4 := A_ (ho); have HG4 := A_ hg; have HA4 := A_ hat; have BK4 := blk_grown (blk_below HBO.out HB2.out) hg (fun e_ => HNE.out _ e_.symm rfl); have hzo4 : w4.cell? ⟨Bo, 0, none⟩ = some (.slice Av s.length cv) := (blk_cell BK4 0).trans rfl; have hfo4 := blk_frozen BK4 0; clear ho hb hg hat; obtain ⟨A5, c5, e5⟩ := Kd.S_slice HO4.out; subst e5))
      have es : s2 = s' := by rw [Ns.out, Ny.out]; exact hs'
      subst es
      go_end0
      refine ⟨rfl, ⟨_, blk_set BK4 0 _, Kd.S_mono (Kd.S_far (Kd.S_types HO4.out BK4 (by decide)) (fun k hk => hk.2) _) (fun _ _ => trivial), ?_⟩, ?_, below_set HB4.out hBo⟩
      · rcases HA4.out with h1 | ⟨b, h1, h2⟩
        · exact .inl h1
        · refine .inr ⟨b, h1, ?_⟩
          have h3 := HB2.out.size
          omega
      · exact (Kept.of_grown HG4.out (Kept.of_below HB2.out _) (fun k hk => .inl (.inr hk.symm))).setCell (.inl (.inl rfl)) _
    · rw [if_neg hl] at h
      cases h
  · rw [if_neg hx0] at h
    obtain rfl := Option.some.inj h
    have hne := beq_eq_false_iff_ne.mpr hx0
    go_enter Try.func61, Try.ntmps61
    go_wp2_with fail
    refine (impl_plan_buffer.calls A0 c0 l0 A1 c1 l1 a2 i j x _ HR0.out hc0 HR1.out hc1 HX.out).mono ?_
    rintro e w1 ⟨rfl, hb1⟩
    go_wp2
    go_end0
    exact ⟨rfl, ⟨_, blk_below HBO.out hb1, Kd.S_below HSV.out hb1, .inl rfl⟩, Kept.of_below hb1 _, below_then HU.out HU.out.size hb1⟩
/-- What the visits keep: the rows that came in, the variables, the list. -/
def impl_CriticalWaits.Keeps (w w1 u w5 : World) (Bo : Nat) (A0 : Option Addr) (c0 : Nat) (l0 : List (List Int)) (A1 : Option Addr) (c1 : Nat) (l1 : List Int) (a2 : Int) (s : List (List Int)) (W : World) : Prop :=
  Kd.F (Kd.slice 3 (Kd.int .i64)) W (fun k => k < w1.heap.size) A0 l0.length l0 ∧ Kd.F (Kd.int .i64) W (fun k => k < w1.heap.size) A1 l1.length l1 ∧
  W.heap[w1.heap.size]? = some (.cells #[.slice A0 l0.length c0, .slice A1 l1.length c1, .int .i64 a2] 63 (0, 0)) ∧ Below w.heap.size w W ∧ Below u.heap.size u W ∧
  ∃ v, W.heap[Bo]? = some (.cells #[v] 22 (0, 0)) ∧ Kd.S (Kd.slice 3 (Kd.int .i64)) 23 W u.heap.size (fun _ => True) v s ∧ ∀ k, v.ownBlock = some k → k ≠ w5.heap.size
def impl_CriticalWaits.f (k : Nat) (l0 : List (List Int)) (l1 : List Int) (a2 : Int) : Option (List (List Int) × Bool) := (impl_planOf.f k l0 l1 a2).bind fun bt => if bt.2.2.2 = true then (impl_plan_next.all (fun i j => impl_plan_waits.f bt.1 bt.2.1 bt.2.2.1 i j) (fun s i j => impl_CriticalWaits.step bt.1 bt.2.1 bt.2.2.1 s i j) bt.1.length bt.1.length 0 []).bind fun s => some (s, true) else some ([], false)
theorem impl_CriticalWaits.mono : ∀ a0 a1 a2 k, LeO (impl_CriticalWaits.f k a0 a1 a2) (impl_CriticalWaits.f (k + 1) a0 a1 a2) := fun a0 a1 a2 k => LeO.bind (impl_planOf.mono a0 a1 a2 k) fun _ => LeO.refl _
set_option maxHeartbeats 8000000 in
set_option maxRecDepth 100000 in
theorem impl_CriticalWaits.calls (k : Nat) (A0 : Option Addr) (c0 : Nat) (l0 : List (List Int)) (A1 : Option Addr) (c1 : Nat) (l1 : List Int) (a2 : Int) (r1 : List (List Int)) (r2 : Bool) (w : World) (hr0 : Kd.C (Kd.slice 3 (Kd.int .i64)) w A0 l0.length l0) (hc0 : l0.length ≤ c0) (hr1 : Kd.C (Kd.int .i64) w A1 l1.length l1) (hc1 : l1.length ≤ c1) (h : impl_CriticalWaits.f k l0 l1 a2 = some (r1, r2)) :
    Calls Try.prog 26 #[.slice A0 l0.length c0, .slice A1 l1.length c1, .int .i64 a2] w fun e w' => ∃ v0_ : Value, e = .returned (.tuple #[v0_, .bool r2]) ∧ Kd.S (Kd.slice 3 (Kd.int .i64)) 23 w' w.heap.size (fun _ => True) v0_ r1 ∧ Below w.heap.size w w' := by
  obtain ⟨⟨t1, t2, t3, t4⟩, hp, h⟩ := Option.bind_eq_some_iff.mp h
  dsimp only at h
  have HR0 := A_ hr0
  have HR1 := A_ hr1
  have HP := A_ hp
  have H := A_ h
  clear hr0 hr1 hp h
  go_enter Try.func26, Try.ntmps26
  go_wp2_with fail
  refine (impl_planOf.calls k (fun k_ => k_ < w.heap.size) A0 c0 l0 (fun k_ => k_ < w.heap.size) A1 c1 l1 a2 t1 t2 t3 t4 _ (Kd.V_mk hc0 (Kd.C_F (Kd.heap_slice 3 (Kd.heap_int .i64)) HR0.out)) (Kd.V_mk hc1 (Kd.C_F (Kd.heap_int .i64) HR1.out)) HP.out).mono ?_
  rintro e w1 ⟨v0, v1, rfl, ho0, ho1, hb⟩
  obtain ⟨Ap, cp, ev⟩ := Kd.V_slice ho0
  subst ev
  obtain ⟨Aq, cq, ev⟩ := Kd.V_slice ho1
  subst ev
  have HO0 := A_ (Kd.V_mono (Kd.V_bound ho0) (fun k hk => hk.2) : Kd.V _ _ w1 _ (fun k => k < w1.heap.size) _ _)
  have HO1 := A_ (Kd.V_mono (Kd.V_bound ho1) (fun k hk => hk.2) : Kd.V _ _ w1 _ (fun k => k < w1.heap.size) _ _)
  have HB := A_ hb
  clear ho0 ho1 hb
  cases t4 with
  | false =>
    have h := H.out
    rw [if_neg (by simp)] at h
    injection h with h
    injection h with h1 h2
    subst h1 h2
    go_wp2
    go_ret2
    exact ⟨_, by first | rfl | (simp; done), Kd.S_nil _ _ _ _ _, below_alloc HB.out _⟩
  | true =>
    have h := H.out
    rw [if_pos rfl] at h
    obtain ⟨s, hs, h⟩ := Option.bind_eq_some_iff.mp h
    injection h with h
    injection h with h1 h2
    subst h1 h2
    have HS := A_ hs
    clear hs H
    go_upto_region 4 with fail
    have BPu := blk_new w1 (Obj.cells #[.slice Ap t1.length cp, .slice Aq t2.length cq, .int .i64 t3] 63 (0, 0))
    have hBu := below_alloc HB.out (Obj.cells #[.slice Ap t1.length cp, .slice Aq t2.length cq, .int .i64 t3] 63 (0, 0))
    have hF0 := Kd.F_alloc (Kd.V_F HO0.out) (Obj.cells #[.slice Ap t1.length cp, .slice Aq t2.length cq, .int .i64 t3] 63 (0, 0))
    have hF1 := Kd.F_alloc (Kd.V_F HO1.out) (Obj.cells #[.slice Ap t1.length cp, .slice Aq t2.length cq, .int .i64 t3] 63 (0, 0))
    have hszu : (w1.alloc (Obj.cells #[.slice Ap t1.length cp, .slice Aq t2.length cq, .int .i64 t3] 63 (0, 0))).heap.size = w1.heap.size + 1 := by simp [World.alloc_eq]
    generalize w1.alloc (Obj.cells #[.slice Ap t1.length cp, .slice Aq t2.length cq, .int .i64 t3] 63 (0, 0)) = u at BPu hBu hF0 hF1 hszu ⊢
    go_upto_region 5 with (first | ((with_reducible refine gate_dst (N := 20) rfl ?_); refine Kd.S_lit (Kd.slice 3 (Kd.int .i64)) _ 23 ?hg (N := 20) ?hd (xs := ([] : List (List Int))) (inner := []) (ok := fun _ => True) (okp := fun _ => True) ?hr ?hp (fun _ hk => hk) trivial (Below.refl _ _) (Nat.le_refl _) (by simp) ?_; (case hd => rfl); (case hg => rfl); (case hr => first | (go_simp; done) | (go_simp; rfl)); (case hp => exact (Reps.none _ _)); intro v3 w3 ho3 hb3 hg_ hnew_; clear hg_ hnew_; have HO3 := A_ ho3; have HB3 := A_ hb3; clear ho3 hb3; obtain ⟨A3, c3, e3⟩ := Kd.S_slice HO3.out; subst e3))
    have BO := blk_new w3 (Obj.cells #[.slice A3 0 c3] 22 (0, 0))
    have BP5 := blk_alloc (blk_below BPu HB3.out) (Obj.cells #[.slice A3 0 c3] 22 (0, 0))
    have hG0 := Kd.F_alloc (Kd.F_below hF0 HB3.out) (Obj.cells #[.slice A3 0 c3] 22 (0, 0))
    have hG1 := Kd.F_alloc (Kd.F_below hF1 HB3.out) (Obj.cells #[.slice A3 0 c3] 22 (0, 0))
    have hBu5 := below_alloc HB3.out (Obj.cells #[.slice A3 0 c3] 22 (0, 0))
    have hB5 := below_step hBu hBu5
    have hS5 := Kd.S_alloc HO3.out (Obj.cells #[.slice A3 0 c3] 22 (0, 0))
    have hlt3 := Kd.R_lt (Kd.S_R HO3.out)
    have hsz3 := HB3.out.size
    generalize w3.alloc (Obj.cells #[.slice A3 0 c3] 22 (0, 0)) = w5 at BO BP5 hG0 hG1 hBu5 hB5 hS5 ⊢
    have hltB := blk_lt BO
    have hszw := hBu.size
    have hcp := (Kd.V_reads' HO0.out).2.1
    have hcq := (Kd.V_reads' HO1.out).2.1
    have hm : t1.length ≤ 9223372036854775807 := (Kd.V_reads' HO0.out).2.2.2.1
    have eg : ∀ args w, (callFunc 61 args).run Try.prog w = .ok (.enter 61 args) w := Ext.entersOf Try.func61 kr_ rfl
    have HE := A_ (impl_plan_next.each 61 #[.pointer (some ⟨w1.heap.size, 0, none⟩), .pointer (some ⟨w3.heap.size, 0, none⟩)] eg Ap cp t1 Aq cq t2 t3 hcp hcq hm (fun s i j => impl_CriticalWaits.step t1 t2 t3 s i j) (fun s W => impl_CriticalWaits.Keeps w w1 u w5 w3.heap.size Ap cp t1 Aq cq t2 t3 s W) (fun k => k = w3.heap.size ∨ (u.heap.size ≤ k ∧ k ≠ w5.heap.size)) w5
      (fun h => by rcases h with h | h <;> omega)
      (fun s W h => ⟨Kd.F_now h.1, Kd.F_now h.2.1⟩)
      (fun s W W' h hW => by
        obtain ⟨h1, h2, h3, h4, h5, v, h6, h7, h8⟩ := h
        exact ⟨Kd.F_below h1 hW, Kd.F_below h2 hW, blk_below h3 hW, below_step h4 hW, below_step h5 hW, v, blk_below h6 hW, Kd.S_below h7 hW, h8⟩)
      (fun s s' i j W hi hj hlt h hs => by
        obtain ⟨h1, h2, h3, h4, h5, v, h6, h7, h8⟩ := h
        have hbv := Kd.S_base h7
        refine (impl_CriticalWaits.visit Ap cp t1 Aq cq t2 t3 v s s' w3.heap.size w1.heap.size (i : Int) (j : Int) u W h5 (Kd.F_now h1) hcp (Kd.F_now h2) hcq h6 h3 hsz3 h7 hs).mono ?_
        rintro e W' ⟨rfl, ⟨v', g1, g2, g3⟩, hk, hbu⟩
        refine ⟨rfl, ⟨Kd.F_kept h1 hk (fun k q1 q2 => ?_), Kd.F_kept h2 hk (fun k q1 q2 => ?_), blk_kept h3 hk (fun q2 => ?_), below_step hBu hbu, hbu, v', g1, g2, fun k hk' => ?_⟩, hk.mono (fun k q => ?_)⟩
        · rcases q2 with q2 | q2
          · omega
          · have := hbv k q2.symm
            omega
        · rcases q2 with q2 | q2
          · omega
          · have := hbv k q2.symm
            omega
        · rcases q2 with q2 | q2
          · omega
          · have := hbv _ q2.symm
            omega
        · rcases g3 with g3 | ⟨b, g3, g4⟩
          · exact h8 k (g3 ▸ hk')
          · rw [g3] at hk'
            injection hk' with hk'
            omega
        · rcases q with q | q
          · exact .inl q
          · exact .inr ⟨hbv k q.symm, h8 k q.symm⟩)
      [] s ⟨hG0, hG1, BP5, hB5, hBu5, _, BO, hS5, fun k hk => by have := hlt3 k hk; omega⟩ HS.out)
    have hcz0 : w5.cell? ⟨w1.heap.size, 0, none⟩ = some (.slice Ap t1.length cp) := (blk_cell BP5 0).trans rfl
    have hcz1 : w5.cell? ⟨w1.heap.size, 1, none⟩ = some (.slice Aq t2.length cq) := (blk_cell BP5 1).trans rfl
    have hcz2 : w5.cell? ⟨w1.heap.size, 2, none⟩ = some (.int .i64 t3) := (blk_cell BP5 2).trans rfl
    have hmf : ∀ (fn : Fn) (first cap : Array Value) (w : World), (Instr.makeFunc fn first cap).run Try.prog w = .ok (.func fn first cap) w := fun _ _ _ _ => rfl
    have HSZ := A_ hszw
    clear BO BP5 hG0 hG1 hBu5 hB5 hS5 hlt3 hsz3 hltB hszw hcp hcq eg BPu hBu hF0 hF1 hszu
    go_wp2_with fail
    refine HE.out.mono ?_
    rintro e w6 ⟨rfl, hr6, _⟩
    obtain ⟨_, _, _, h4, _, v6, h6, h7, _⟩ := hr6
    have hczo6 : w6.cell? ⟨w3.heap.size, 0, none⟩ = some v6 := (blk_cell h6 0).trans rfl
    have H7 := A_ h7
    have H4 := A_ h4
    obtain ⟨A6, c6, e6⟩ := Kd.S_slice h7
    subst e6
    clear h4 h6 h7 hcz0 hcz1 hcz2 HE
    go_wp2
    go_ret2
    exact ⟨_, by first | rfl | (simp; done), Kd.S_lower H7.out HSZ.out, H4.out⟩

/-! ### spec_l1Most: function 85 -/
def spec_l1Most.f (a0 : Int) (a1 : Int) : Option (Int) := if a0 > a1 then (some a0) else (some a1)
set_option maxHeartbeats 8000000 in
set_option maxRecDepth 100000 in
theorem spec_l1Most.calls (a0 : Int) (a1 : Int) (r : Int) (w : World) (h : spec_l1Most.f a0 a1 = some r) :
 Calls Try.prog 85 #[.int .i64 a0, .int .i64 a1] w fun e w' => e = .returned (.int .i64 r) ∧ Drawn0 w w' := by
 have H : (if a0 > a1 then (some a0) else (some a1)) = some r := h
 clear h
 by_cases c3 : a0 > a1
 ·
  rw [if_pos c3] at H
  have c3b0 := decide_eq_true c3
  clear c3
  obtain rfl := Option.some.inj H
  go_enter Try.func85, Try.ntmps85
  go_wp2
  go_ret
  exact ⟨es_, by repeat (first | exact Drawn0.refl _ | apply Drawn0.step)⟩
 ·
  rw [if_neg c3] at H
  have c3b0 := decide_eq_false c3
  clear c3
  obtain rfl := Option.some.inj H
  go_enter Try.func85, Try.ntmps85
  go_wp2
  go_ret
  exact ⟨es_, by repeat (first | exact Drawn0.refl _ | apply Drawn0.step)⟩
/-! ### spec_dlNext: function 63 -/
mutual
def spec_dlNext.l0 : Nat → List (List Int) → List Int → Int → List Int → List Int → List (List Int) → Int → Int → Option (List Int)
  | 0, _, _, _, _, _, _, _, _ => none
  | k + 1, x0, x1, x2, x3, x9, x15, x16, x17 => if x17 < x16 then (if 0 ≤ x17 then (if x17 < (x15.length : Int) then (spec_dlNext.l1 k x0 x1 x2 x3 x9 x17 0 x15 x16 x17 (rd_L1 x15 x17) ((rd_L1 x15 x17).length : Int) 0) else (none)) else (none)) else (some x9)
def spec_dlNext.l1 : Nat → List (List Int) → List Int → Int → List Int → List Int → Int → Int → List (List Int) → Int → Int → List Int → Int → Int → Option (List Int)
  | 0, _, _, _, _, _, _, _, _, _, _, _, _, _ => none
  | k + 1, x0, x1, x2, x3, x9, x10, x12, x15, x16, x17, x22, x23, x24 => if x24 < x23 then (if 0 ≤ x24 then (if x24 < (x22.length : Int) then (if (rd x22 x24) = 1000000000 then (spec_dlNext.l1 k x0 x1 x2 x3 x9 x10 x12 x15 x16 x17 x22 x23 (wrap64 (x24 + 1))) else (if x24 < (x3.length : Int) then ((spec_dlBuffer.f x0 x1 x2 x10 x24).bind fun t375 => ((spec_l1Most.f x12 (wrap64 ((rd x3 x24) - t375))).bind fun t376 => (spec_dlNext.l1 k x0 x1 x2 x3 x9 x10 t376 x15 x16 x17 x22 x23 (wrap64 (x24 + 1))))) else (none))) else (none)) else (none)) else (if x9.length < 17592186044416 then (spec_dlNext.l0 k x0 x1 x2 x3 (x9 ++ [x12]) x15 x16 (wrap64 (x17 + 1))) else (none))
end
def spec_dlNext.f (k : Nat) (l0 : List (List Int)) (l1 : List Int) (a2 : Int) (l3 : List Int) : Option (List Int) := spec_dlNext.l0 k l0 l1 a2 l3 ([] : List Int) l0 (l0.length : Int) 0
theorem spec_dlNext.mono_l : ∀ k, (∀ y0 y1 y2 y3 y4 y5 y6 y7, LeO (spec_dlNext.l0 k y0 y1 y2 y3 y4 y5 y6 y7) (spec_dlNext.l0 (k + 1) y0 y1 y2 y3 y4 y5 y6 y7)) ∧ (∀ y0 y1 y2 y3 y4 y5 y6 y7 y8 y9 y10 y11 y12, LeO (spec_dlNext.l1 k y0 y1 y2 y3 y4 y5 y6 y7 y8 y9 y10 y11 y12) (spec_dlNext.l1 (k + 1) y0 y1 y2 y3 y4 y5 y6 y7 y8 y9 y10 y11 y12))
  | 0 => ⟨fun _ _ _ _ _ _ _ _ r h => by simp [spec_dlNext.l0] at h, fun _ _ _ _ _ _ _ _ _ _ _ _ _ r h => by simp [spec_dlNext.l1] at h⟩
  | k + 1 => by
    obtain ⟨ih0, ih1⟩ := spec_dlNext.mono_l k
    refine ⟨?_, ?_⟩
    all_goals (intros; first | unfold spec_dlNext.l0 | unfold spec_dlNext.l1)
    all_goals (repeat' first | (with_reducible first | exact ih0 _ _ _ _ _ _ _ _ | exact ih1 _ _ _ _ _ _ _ _ _ _ _ _ _ | exact LeO.refl _ | exact LeO.none _ | refine LeO.ite ?_ ?_ | refine LeO.bind ?_ (fun _ => ?_)) | exact ih0 _ _ _ _ _ _ _ _ | exact ih1 _ _ _ _ _ _ _ _ _ _ _ _ _ | exact LeO.none _ | refine LeO.ite ?_ ?_ | refine LeO.bind ?_ (fun _ => ?_))
theorem spec_dlNext.mono : ∀ a0 a1 a2 a3 k, LeO (spec_dlNext.f k a0 a1 a2 a3) (spec_dlNext.f (k + 1) a0 a1 a2 a3) := by
 intro a0 a1 a2 a3 k
 obtain ⟨ih0, ih1⟩ := spec_dlNext.mono_l k
 unfold spec_dlNext.f
 repeat' first | (with_reducible first | exact ih0 _ _ _ _ _ _ _ _ | exact ih1 _ _ _ _ _ _ _ _ _ _ _ _ _ | exact LeO.refl _ | exact LeO.none _ | refine LeO.ite ?_ ?_ | refine LeO.bind ?_ (fun _ => ?_)) | exact ih0 _ _ _ _ _ _ _ _ | exact ih1 _ _ _ _ _ _ _ _ _ _ _ _ _ | exact LeO.none _ | refine LeO.ite ?_ ?_ | refine LeO.bind ?_ (fun _ => ?_)
set_option maxHeartbeats 8000000 in
set_option maxRecDepth 100000 in
theorem spec_dlNext.calls (k : Nat) (A0 : Option Addr) (c0 : Nat) (l0 : List (List Int)) (A1 : Option Addr) (c1 : Nat) (l1 : List Int) (a2 : Int) (A3 : Option Addr) (c3 : Nat) (l3 : List Int) (r : List Int) (w : World) (hr0 : Kd.C (Kd.slice 3 (Kd.int .i64)) w A0 l0.length l0) (hc0 : l0.length ≤ c0) (hr1 : Kd.C (Kd.int .i64) w A1 l1.length l1) (hc1 : l1.length ≤ c1) (hr3 : Kd.C (Kd.int .i64) w A3 l3.length l3) (hc3 : l3.length ≤ c3) (h : spec_dlNext.f k l0 l1 a2 l3 = some r) :
 Calls Try.prog 63 #[.slice A0 l0.length c0, .slice A1 l1.length c1, .int .i64 a2, .slice A3 l3.length c3] w fun e w' => ∃ v0_ : Value, e = .returned (v0_) ∧ Kd.R (Kd.int .i64) 3 w' w.heap.size (fun _ => True) v0_ r ∧ Below w.heap.size w w' := by
 have HR0 := A_ hr0
 have HC0 := A_ hc0
 clear hr0 hc0
 have HR1 := A_ hr1
 have HC1 := A_ hc1
 clear hr1 hc1
 have HR3 := A_ hr3
 have HC3 := A_ hc3
 clear hr3 hc3
 have HB := A_ (Below.refl w.heap.size w)
 have H : (spec_dlNext.l0 k l0 l1 a2 l3 ([] : List Int) l0 (l0.length : Int) 0) = some r := h
 clear h
 have H' := A_ H; clear H
 go_enter Try.func63, Try.ntmps63
 go_wp2
 repeat (go_quiet (fail); try go_wp2)
 go_loopg [9, 17] k (fun kq v9 v17 w' => ∃ (x9_1 : List Int) (x17_1 : Int), v17 = .int .i64 x17_1 ∧ Aside0 (spec_dlNext.l0 kq l0 l1 a2 l3 x9_1 l0 (l0.length : Int) x17_1 = some r) ∧ Aside0 (kq ≤ k) ∧ Aside0 (Kd.R (Kd.int .i64) 3 w' w.heap.size (fun _ => True) v9 x9_1) ∧ Aside0 (Below w.heap.size w w'))
 case atStart => exact ⟨(([] : List Int)), (0), es_, H', ⟨Nat.le_refl _⟩, ⟨by first | exact Kd.R_nil _ _ _ _ _ | exact Kd.N_nil _ _ _ _ _ | exact Kd.V_nil _ _ _ _ _ | exact Kd.Q_nil _ _ _ _ _ | exact Kd.S_nil _ _ _ _ _⟩, ⟨bl_⟩⟩
 case round =>
  clear H'
  (try clear c1); (try clear p2); (try clear c3)
  obtain ⟨x9_1, x17_1, rfl, HA, HK1, HO_9, HB⟩ := hrel
  cases gk with
  | zero => exact absurd HA.out (by simp [spec_dlNext.l0])
  | succ k1 =>
   have H := HA.out
   clear HA
   simp only [spec_dlNext.l0] at H
   by_cases c5 : x17_1 < (l0.length : Int)
   ·
    rw [if_pos c5] at H
    have c5b0 := decide_eq_true c5
    clear c5
    by_cases c6 : 0 ≤ x17_1
    ·
     rw [if_pos c6] at H
     have c6b0 := decide_eq_true c6
     clear c6
     by_cases c7 : x17_1 < (l0.length : Int)
     ·
      rw [if_pos c7] at H
      have c7b0 := decide_eq_true c7
      clear c7
      have H' := A_ H; clear H
      have p369 : 0 ≤ (x17_1 : Int) := od_
      have q369 : x17_1 < (l0.length : Int) := od_
      obtain ⟨ad369, A369_0, c369_0, e369, hx369_0, hl369_0, hi369_0⟩ := at_L1 HR0.out x17_1 p369 q369
      cases e369
      try replace hx369_0 := (HB.out.cell (World.block_lt_of_cell? w _ hx369_0)).trans hx369_0
      have HR369_0 := A_ hi369_0
      have HC369_0 := A_ hl369_0
      clear hi369_0 hl369_0
      replace p369 := eq_true p369
      replace q369 := eq_true q369
      go_wp2
      repeat (go_quiet (fail); try go_wp2)
      go_loopg [12, 24] k1 (fun kq v12 v24 w' => ∃ (x12_2 : Int) (x24_2 : Int), v12 = .int .i64 x12_2 ∧ v24 = .int .i64 x24_2 ∧ Aside0 (spec_dlNext.l1 kq l0 l1 a2 l3 x9_1 x17_1 x12_2 l0 (l0.length : Int) x17_1 (rd_L1 l0 x17_1) ((rd_L1 l0 x17_1).length : Int) x24_2 = some r) ∧ Aside0 (kq ≤ k1) ∧ Aside0 (Kd.R (Kd.int .i64) 3 w' w.heap.size (fun _ => True) u9 x9_1) ∧ Aside0 (Below w.heap.size w w'))
      case atStart => exact ⟨(0), (0), es_, es_, H', ⟨Nat.le_refl _⟩, ⟨kR_ HO_9.out⟩, ⟨bl_⟩⟩
      case round =>
       clear H'
       (try clear c1); (try clear p2); (try clear c3); (try clear p3); (try clear q3); (try clear hx3); (try clear c5); (try clear c5b0); (try clear c6); (try clear c6b0); (try clear c7); (try clear c7b0); (try clear hx369_0); (try clear p2); (try clear p369); (try clear q369)
       obtain ⟨x12_2, x24_2, rfl, rfl, HA, HK2, HO_9, HB⟩ := hrel
       cases gk with
       | zero => exact absurd HA.out (by simp [spec_dlNext.l1])
       | succ k2 =>
        have H := HA.out
        clear HA
        simp only [spec_dlNext.l1] at H
        by_cases c8 : x24_2 < ((rd_L1 l0 x17_1).length : Int)
        ·
         rw [if_pos c8] at H
         have c8b0 := decide_eq_true c8
         clear c8
         by_cases c9 : 0 ≤ x24_2
         ·
          rw [if_pos c9] at H
          have c9b0 := decide_eq_true c9
          clear c9
          by_cases c10 : x24_2 < ((rd_L1 l0 x17_1).length : Int)
          ·
           rw [if_pos c10] at H
           have c10b0 := decide_eq_true c10
           clear c10
           by_cases c11 : (rd (rd_L1 l0 x17_1) x24_2) = 1000000000
           ·
            rw [if_pos c11] at H
            have c11b0 : ((rd (rd_L1 l0 x17_1) x24_2) == 1000000000) = true := beq_iff_eq.mpr c11
            have c11b1 : ((rd (rd_L1 l0 x17_1) x24_2) != 1000000000) = false := bne_eq_false_iff_eq.mpr c11
            clear c11
            have H' := A_ H; clear H
            have p373 : 0 ≤ (x24_2 : Int) := od_
            have q373 : x24_2 < ((rd_L1 l0 x17_1).length : Int) := od_
            obtain ⟨ad373, e373, hx373_0⟩ := Kd.at_int HR369_0.out x24_2 p373 q373
            cases e373
            try replace hx373_0 := (HB.out.cell (World.block_lt_of_cell? w _ hx373_0)).trans hx373_0
            replace p373 := eq_true p373
            replace q373 := eq_true q373
            go_wp2
            repeat (go_quiet (fail); try go_wp2)
            go_roundg k2
            case measure => have := HK1.out; have := HK2.out; omega
            case rel => exact ⟨(x12_2), (wrap64 (x24_2 + 1)), es_, es_, H', ⟨by have := HK1.out; have := HK2.out; omega⟩, ⟨kR_ HO_9.out⟩, ⟨bl_⟩⟩
           ·
            rw [if_neg c11] at H
            have c11b0 : ((rd (rd_L1 l0 x17_1) x24_2) == 1000000000) = false := beq_eq_false_iff_ne.mpr c11
            have c11b1 : ((rd (rd_L1 l0 x17_1) x24_2) != 1000000000) = true := bne_iff_ne.mpr c11
            by_cases c12 : x24_2 < (l3.length : Int)
            ·
             rw [if_pos c12] at H
             have c12b0 := decide_eq_true c12
             clear c12
             obtain ⟨t375, A130, H⟩ := Option.bind_eq_some_iff.mp H
             try dsimp only at H
             have A13 := A_ A130; clear A130
             obtain ⟨t376, A140, H⟩ := Option.bind_eq_some_iff.mp H
             try dsimp only at H
             have A14 := A_ A140; clear A140
             have H' := A_ H; clear H
             have p373 : 0 ≤ (x24_2 : Int) := od_
             have q373 : x24_2 < ((rd_L1 l0 x17_1).length : Int) := od_
             obtain ⟨ad373, e373, hx373_0⟩ := Kd.at_int HR369_0.out x24_2 p373 q373
             cases e373
             try replace hx373_0 := (HB.out.cell (World.block_lt_of_cell? w _ hx373_0)).trans hx373_0
             replace p373 := eq_true p373
             replace q373 := eq_true q373
             have p374 : 0 ≤ (x24_2 : Int) := od_
             have q374 : x24_2 < (l3.length : Int) := od_
             obtain ⟨ad374, e374, hx374_0⟩ := Kd.at_int HR3.out x24_2 p374 q374
             cases e374
             try replace hx374_0 := (HB.out.cell (World.block_lt_of_cell? w _ hx374_0)).trans hx374_0
             replace p374 := eq_true p374
             replace q374 := eq_true q374
             go_wp2_with (first | (go_at_call 53; (with_reducible refine (spec_dlBuffer.calls _ _ l0 _ _ l1 a2 x17_1 x24_2 t375 _ ?side1 ?side2 ?side3 ?side4 A13.out).mono ?_); (case side1 => exact kC_ (Kd.C_below HR0.out HB.out)); (case side2 => exact HC0.out); (case side3 => exact kC_ (Kd.C_below HR1.out HB.out)); (case side4 => exact HC1.out); rintro e w' ⟨rfl, ⟨nd, rfl⟩⟩; (try first | exact ⟨rfl, _, World.drewN_drewN _ _ _⟩ | exact ⟨rfl, _, Eq.trans (World.drewN_drewN _ _ _) (congrArg (World.drewN _) (Nat.add_assoc _ _ _))⟩)) | (go_at_call 85; (with_reducible refine (spec_l1Most.calls x12_2 (wrap64 ((rd l3 x24_2) - t375)) t376 _ A14.out).mono ?_); rintro e w' ⟨rfl, ⟨nd, rfl⟩⟩; (try first | exact ⟨rfl, _, World.drewN_drewN _ _ _⟩ | exact ⟨rfl, _, Eq.trans (World.drewN_drewN _ _ _) (congrArg (World.drewN _) (Nat.add_assoc _ _ _))⟩)))
             repeat (go_quiet (first | (go_at_call 53; (with_reducible refine (spec_dlBuffer.calls _ _ l0 _ _ l1 a2 x17_1 x24_2 t375 _ ?side1 ?side2 ?side3 ?side4 A13.out).mono ?_); (case side1 => exact kC_ (Kd.C_below HR0.out HB.out)); (case side2 => exact HC0.out); (case side3 => exact kC_ (Kd.C_below HR1.out HB.out)); (case side4 => exact HC1.out); rintro e w' ⟨rfl, ⟨nd, rfl⟩⟩; (try first | exact ⟨rfl, _, World.drewN_drewN _ _ _⟩ | exact ⟨rfl, _, Eq.trans (World.drewN_drewN _ _ _) (congrArg (World.drewN _) (Nat.add_assoc _ _ _))⟩)) | (go_at_call 85; (with_reducible refine (spec_l1Most.calls x12_2 (wrap64 ((rd l3 x24_2) - t375)) t376 _ A14.out).mono ?_); rintro e w' ⟨rfl, ⟨nd, rfl⟩⟩; (try first | exact ⟨rfl, _, World.drewN_drewN _ _ _⟩ | exact ⟨rfl, _, Eq.trans (World.drewN_drewN _ _ _) (congrArg (World.drewN _) (Nat.add_assoc _ _ _))⟩))); try go_wp2_with (first | (go_at_call 53; (with_reducible refine (spec_dlBuffer.calls _ _ l0 _ _ l1 a2 x17_1 x24_2 t375 _ ?side1 ?side2 ?side3 ?side4 A13.out).mono ?_); (case side1 => exact kC_ (Kd.C_below HR0.out HB.out)); (case side2 => exact HC0.out); (case side3 => exact kC_ (Kd.C_below HR1.out HB.out)); (case side4 => exact HC1.out); rintro e w' ⟨rfl, ⟨nd, rfl⟩⟩; (try first | exact ⟨rfl, _, World.drewN_drewN _ _ _⟩ | exact ⟨rfl, _, Eq.trans (World.drewN_drewN _ _ _) (congrArg (World.drewN _) (Nat.add_assoc _ _ _))⟩)) | (go_at_call 85; (with_reducible refine (spec_l1Most.calls x12_2 (wrap64 ((rd l3 x24_2) - t375)) t376 _ A14.out).mono ?_); rintro e w' ⟨rfl, ⟨nd, rfl⟩⟩; (try first | exact ⟨rfl, _, World.drewN_drewN _ _ _⟩ | exact ⟨rfl, _, Eq.trans (World.drewN_drewN _ _ _) (congrArg (World.drewN _) (Nat.add_assoc _ _ _))⟩))))
             go_roundg k2
             case measure => have := HK1.out; have := HK2.out; omega
             case rel => exact ⟨(t376), (wrap64 (x24_2 + 1)), es_, es_, H', ⟨by have := HK1.out; have := HK2.out; omega⟩, ⟨kR_ HO_9.out⟩, ⟨bl_⟩⟩
            ·
             rw [if_neg c12] at H; cases H
          ·
           rw [if_neg c10] at H; cases H
         ·
          rw [if_neg c9] at H; cases H
        ·
         rw [if_neg c8] at H
         have c8b0 := decide_eq_false c8
         clear c8
         by_cases c15 : x9_1.length < 17592186044416
         ·
          rw [if_pos c15] at H
          have LMc15 := A_ c15
          clear c15
          obtain ⟨y370, hy370⟩ : ∃ y_ : List Int, y_ = (x9_1 ++ [x12_2]) := ⟨_, rfl⟩
          replace H : (spec_dlNext.l0 k2 l0 l1 a2 l3 y370 l0 (l0.length : Int) (wrap64 (x17_1 + 1))) = some r := by first | (rw [hy370]; with_reducible exact H) | (have H2_ := (Option.bind_some _ _).symm.trans H; rw [hy370]; with_reducible exact H2_) | (have H2_ := (Option.bind_some _ _).symm.trans H; with_reducible exact H2_) | with_reducible exact H | (rw [hy370]; exact H) | exact H
          have Ny370 := A_ hy370
          clear hy370
          have H' := A_ H; clear H
          go_wp2_with (first | ((with_reducible refine gate_builtin (b := .append) (xs := #[.tmp 45, .tmp 47]) rfl ?_); at_builtin; refine Kd.R_append (Kd.int .i64) (w0 := w) w.heap.size rfl (.tmp 45) (.tmp 47) 23 3 (.int .i64 0) 8 rfl Try.underlying23 info3 rfl (by decide) (by omega) u9 x9_1 x12_2 [.int .i64 x12_2] (fun _ => True) (fun _ => False) rfl rfl ?aP (fun _ hk => hk.elim) ?aF ?aO ?aB ?aS ?aL ?_; (case aP => exact rfl); (case aB => exact bl_); (case aF => exact (fun _ _ => trivial)); (case aO => exact (kR_ HO_9.out)); (case aS => exact (below_size bl_)); (case aL => have := LMc15.out; omega); intro v371 w16 ho hb hg hat; rw [← Ny370.out] at ho; have n0_ := A_ (hb); have n1_ := A_ (ho); clear HB; clear HO_9; have HB := n0_; have HO372 := n1_; clear n0_ n1_; clear ho hb hg hat))
          repeat (go_quiet (first | ((with_reducible refine gate_builtin (b := .append) (xs := #[.tmp 45, .tmp 47]) rfl ?_); at_builtin; refine Kd.R_append (Kd.int .i64) (w0 := w) w.heap.size rfl (.tmp 45) (.tmp 47) 23 3 (.int .i64 0) 8 rfl Try.underlying23 info3 rfl (by decide) (by omega) u9 x9_1 x12_2 [.int .i64 x12_2] (fun _ => True) (fun _ => False) rfl rfl ?aP (fun _ hk => hk.elim) ?aF ?aO ?aB ?aS ?aL ?_; (case aP => exact rfl); (case aB => exact bl_); (case aF => exact (fun _ _ => trivial)); (case aO => exact (kR_ HO_9.out)); (case aS => exact (below_size bl_)); (case aL => have := LMc15.out; omega); intro v371 w16 ho hb hg hat; rw [← Ny370.out] at ho; have n0_ := A_ (hb); have n1_ := A_ (ho); clear HB; clear HO_9; have HB := n0_; have HO372 := n1_; clear n0_ n1_; clear ho hb hg hat)); try go_wp2_with (first | ((with_reducible refine gate_builtin (b := .append) (xs := #[.tmp 45, .tmp 47]) rfl ?_); at_builtin; refine Kd.R_append (Kd.int .i64) (w0 := w) w.heap.size rfl (.tmp 45) (.tmp 47) 23 3 (.int .i64 0) 8 rfl Try.underlying23 info3 rfl (by decide) (by omega) u9 x9_1 x12_2 [.int .i64 x12_2] (fun _ => True) (fun _ => False) rfl rfl ?aP (fun _ hk => hk.elim) ?aF ?aO ?aB ?aS ?aL ?_; (case aP => exact rfl); (case aB => exact bl_); (case aF => exact (fun _ _ => trivial)); (case aO => exact (kR_ HO_9.out)); (case aS => exact (below_size bl_)); (case aL => have := LMc15.out; omega); intro v371 w16 ho hb hg hat; rw [← Ny370.out] at ho; have n0_ := A_ (hb); have n1_ := A_ (ho); clear HB; clear HO_9; have HB := n0_; have HO372 := n1_; clear n0_ n1_; clear ho hb hg hat)))
          go_roundg k2
          case measure => have := HK1.out; have := HK2.out; omega
          case rel => exact ⟨(y370), (wrap64 (x17_1 + 1)), es_, H', ⟨by have := HK1.out; have := HK2.out; omega⟩, ⟨kR_ HO372.out⟩, ⟨bl_⟩⟩
         ·
          rw [if_neg c15] at H; cases H
     ·
      rw [if_neg c7] at H; cases H
    ·
     rw [if_neg c6] at H; cases H
   ·
    rw [if_neg c5] at H
    have c5b0 := decide_eq_false c5
    clear c5
    obtain rfl := Option.some.inj H
    go_wp2
    repeat (go_quiet (fail); try go_wp2)
    go_ret
    exact ⟨_, ew_, kR_ HO_9.out, bl_⟩


end Go.Proofs.Ytebjiooojkhkpaa.X
