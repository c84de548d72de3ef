-- Shaken by wip/gen/shake.py out of this claim's own printed texts. Lean checks it.
import Derived.Test.YtebjiooojkhkpaaX0
import Derived.Test.YtebjiooojkhkpaaZFnExactCriticalWaitsX4
import Derived.Test.YtebjiooojkhkpaaZFnExactCriticalWaitsX5
namespace Go.Proofs.Ytebjiooojkhkpaa.X
open Go.RowKit Go.Proofs.YtebjiooojkhkpaaW.PrintWords Go.Proofs.YtebjiooojkhkpaaW.PrintLast Go.Proofs.YtebjiooojkhkpaaW.PrintMore
attribute [local go_sem] max2_int min2_int max_two min_two max_three min_three max_four min_four   -- for this text's walks alone
set_option linter.unusedVariables false
set_option linter.unusedSimpArgs false

/-! ### impl_CriticalWaits: function 26 -/
/-- One visit: a pair without a buffer is told. (A plan's rounds: 65.) -/
def impl_CriticalWaits.step (l0 : List (List Int)) (l1 : List Int) (a2 : Int) (s : List (List Int)) (i j : Int) : Option (List (List Int)) := (impl_plan_buffer.f l0 l1 a2 i j).bind fun x => if x = 0 then (if s.length < 5864062014805 then some (s ++ [[i, j]]) else none) else some s
set_option maxHeartbeats 8000000 in
set_option maxRecDepth 100000 in
theorem impl_CriticalWaits.visit (A0 : Option Addr) (c0 : Nat) (l0 : List (List Int)) (A1 : Option Addr) (c1 : Nat) (l1 : List Int) (a2 : Int) (v : Value) (s s' : List (List Int)) (Bo Bp : Nat) (i j : Int) (u w : World) (hu : Below u.heap.size u w)
    (hr0 : Kd.C (Kd.slice 3 (Kd.int .i64)) w A0 l0.length l0) (hc0 : l0.length ≤ c0) (hr1 : Kd.C (Kd.int .i64) w A1 l1.length l1) (hc1 : l1.length ≤ c1)
    (hbo : w.heap[Bo]? = some (.cells #[v] 22 (0, 0))) (hbp : w.heap[Bp]? = some (.cells #[.slice A0 l0.length c0, .slice A1 l1.length c1, .int .i64 a2] 63 (0, 0)))
    (hBo : u.heap.size ≤ Bo) (hS : Kd.S (Kd.slice 3 (Kd.int .i64)) 23 w u.heap.size (fun _ => True) v s)
    (h : impl_CriticalWaits.step l0 l1 a2 s i j = some s') :
    Calls Try.prog 61 #[.int .i64 i, .int .i64 j, .pointer (some ⟨Bp, 0, none⟩), .pointer (some ⟨Bo, 0, none⟩)] w fun e w' => e = .returned (.tuple #[]) ∧ (∃ v', w'.heap[Bo]? = some (.cells #[v'] 22 (0, 0)) ∧ Kd.S (Kd.slice 3 (Kd.int .i64)) 23 w' u.heap.size (fun _ => True) v' s' ∧ (v'.ownBlock = v.ownBlock ∨ ∃ b, v'.ownBlock = some b ∧ w.heap.size ≤ b)) ∧ Kept w w' (fun k => k = Bo ∨ some k = v.ownBlock) ∧ Below u.heap.size u w' := by
  obtain ⟨x, hx, h⟩ := Option.bind_eq_some_iff.mp h
  have HX := Aside0.mk hx
  have HR0 := Aside0.mk hr0
  have HR1 := Aside0.mk hr1
  have HBO := Aside0.mk hbo
  have HU := Aside0.mk hu
  have HSV := Aside0.mk hS
  obtain ⟨Av, cv, ev⟩ := Kd.S_slice hS
  subst ev
  have hczo : w.cell? ⟨Bo, 0, none⟩ = some (.slice Av s.length cv) := (blk_cell hbo 0).trans rfl
  have hcz0 : w.cell? ⟨Bp, 0, none⟩ = some (.slice A0 l0.length c0) := (blk_cell hbp 0).trans rfl
  have hcz1 : w.cell? ⟨Bp, 1, none⟩ = some (.slice A1 l1.length c1) := (blk_cell hbp 1).trans rfl
  have hcz2 : w.cell? ⟨Bp, 2, none⟩ = some (.int .i64 a2) := (blk_cell hbp 2).trans rfl
  have HNE := Aside0.mk (fun k (hk : (Value.slice Av s.length cv).ownBlock = some k) => ((Kd.S_R (Kd.S_types hS hbo (by decide))).1 k hk).2)
  clear hx hr0 hr1 hbo hu hS hbp
  by_cases hx0 : x = 0
  · subst hx0
    rw [if_pos rfl] at h
    by_cases hl : s.length < 5864062014805
    · rw [if_pos hl] at h
      have hs' := Option.some.inj h
      clear h
      have LM := Aside0.mk hl
      clear hl
      go_enter Try.func61, Try.ntmps61
      go_wp2_with fail
      refine (impl_plan_buffer.calls A0 c0 l0 A1 c1 l1 a2 i j 0 _ HR0.out hc0 HR1.out hc1 HX.out).mono ?_
      rintro e w1 ⟨rfl, hb1⟩
      have HB1 := Aside0.mk hb1
      have hczo1 := pw_cell_below hb1 hczo
      have HO := Aside0.mk (Kd.S_below HSV.out hb1)
      have HB := Aside0.mk (below_then HU.out HU.out.size hb1)
      clear hb1 hczo hcz0 hcz1 hcz2
      obtain ⟨y, hy⟩ : ∃ y_ : List Int, y_ = [i, j] := ⟨_, rfl⟩
      obtain ⟨s2, hs2⟩ : ∃ s_ : List (List Int), s_ = s ++ [y] := ⟨_, rfl⟩
      have Ny := Aside0.mk hy
      have Ns := Aside0.mk hs2
      clear hy hs2
      go_wp2_with (first | ((with_reducible refine gate_dst (N := 14) rfl ?_); refine Kd.R_lit (Kd.int .i64) _ 3 ?hg (N := 14) ?hd (xs := ([i, j] : List Int)) (inner := [.int .i64 i, .int .i64 j]) (ok := fun _ => True) (okp := fun _ => True) ?hr ?hp (fun _ hk => hk) trivial (Below.refl _ _) (Nat.le_refl _) (by simp) ?_; (case hd => rfl); (case hg => rfl); (case hr => first | (go_simp; done) | (go_simp; rfl)); (case hp => exact (Reps.one (show Kd.M (Kd.int .i64) _ _ _ i [.int .i64 i] from rfl) (Reps.one (show Kd.M (Kd.int .i64) _ _ _ j [.int .i64 j] from rfl) (Reps.none _ _)))); intro v3 w2 ho2 hb2 hg_ hnew_; clear hg_ hnew_; (first | rw [← Ny.out] at ho2 | (simp only [Int.reduceToNat] at ho2; rw [← Ny.out] at ho2)); have n0_ := Aside0.mk (Kd.S_elder' HO.out (Kd.R_base ho2) hb2); have n1_ := Aside0.mk (Kd.R_lower ho2 (below_size HB.out)); have n2_ := Aside0.mk (below_step HB.out hb2); have HB2 := Aside0.mk (below_step HB1.out hb2); clear HO; clear HB; have HO := n0_; have HR3 := n1_; have HB := n2_; clear n0_ n1_ n2_; clear hb2 ho2; obtain ⟨Ao, co, eo⟩ := Kd.R_slice HR3.out; subst eo) | ((with_reducible refine gate_builtin (b := .append) (xs := #[.tmp 11, .tmp 15]) rfl ?_); at_builtin; refine Kd.S_append (Kd.slice 3 (Kd.int .i64)) (w0 := u) u.heap.size rfl (.tmp 11) (.tmp 15) 22 23 (.slice none 0 0) 24 rfl Try.underlying22 info23 rfl (by decide) (by omega) (.slice Av s.length cv) s y [.slice Ao y.length co] (fun _ => True) (fun k_ => some k_ = (.slice Ao y.length co : Value).ownBlock) rfl rfl ?aP (fun k_ hk_ => ((Kd.R_mono (ok' := fun k_ => ((fun _ => True)) k_ ∧ some k_ ≠ (.slice Av s.length cv : Value).ownBlock) (Kd.R_apart' (HR3.out) (Kd.S_typed HO.out) (by decide)) (fun k_ hk => ⟨trivial, hk.2⟩))).1 k_ hk_.symm) ?aF ?aO ?aB ?aS ?aL ?_; (case aP => exact Kd.M_row (Kd.R_mono (Kd.R_tight rfl (Kd.R_mono (ok' := fun k_ => ((fun _ => True)) k_ ∧ some k_ ≠ (.slice Av s.length cv : Value).ownBlock) (Kd.R_apart' (HR3.out) (Kd.S_typed HO.out) (by decide)) (fun k_ hk => ⟨trivial, hk.2⟩))) (fun _ h_ => h_))); (case aB => exact (by repeat (first | (with_reducible first | exact HB.out | apply below_alloc | apply pw_below_drewN | apply below_drew1) | exact HB.out))); (case aF => exact (fun _ _ => trivial)); (case aO => exact (by (with_reducible repeat (first | apply Kd.S_alloc | apply Kd.S_drewN | apply Kd.S_drew)); exact Kd.S_mono HO.out (fun k_ hk => ⟨trivial, fun e_ => hk.2 e_⟩))); (case aS => exact (below_size (by repeat (first | (with_reducible first | exact HB.out | apply below_alloc | apply pw_below_drewN | apply below_drew1) | exact HB.out)))); (case aL => have := LM.out; omega); intro v5 w4 ho hb hg hat; rw [← Ns.out] at ho; have HB4 := Aside0.mk (hb); have HO4 := Aside0.mk (ho); have HG4 := Aside0.mk hg; have HA4 := Aside0.mk hat; have BK4 := blk_grown (blk_below HBO.out HB2.out) hg (fun e_ => HNE.out _ e_.symm rfl); have hzo4 : w4.cell? ⟨Bo, 0, none⟩ = some (.slice Av s.length cv) := (blk_cell BK4 0).trans rfl; have hfo4 := blk_frozen BK4 0; clear ho hb hg hat; obtain ⟨A5, c5, e5⟩ := Kd.S_slice HO4.out; subst e5))
      have es : s2 = s' := by rw [Ns.out, Ny.out]; exact hs'
      subst es
      go_end0
      refine ⟨rfl, ⟨_, blk_set BK4 0 _, Kd.S_mono (Kd.S_far (Kd.S_types HO4.out BK4 (by decide)) (fun k hk => hk.2) _) (fun _ _ => trivial), ?_⟩, ?_, below_set HB4.out hBo⟩
      · rcases HA4.out with h1 | ⟨b, h1, h2⟩
        · exact .inl h1
        · refine .inr ⟨b, h1, ?_⟩
          have h3 := HB2.out.size
          omega
      · exact (Kept.of_grown HG4.out (Kept.of_below HB2.out _) (fun k hk => .inl (.inr hk.symm))).setCell (.inl (.inl rfl)) _
    · rw [if_neg hl] at h
      cases h
  · rw [if_neg hx0] at h
    obtain rfl := Option.some.inj h
    have hne := beq_eq_false_iff_ne.mpr hx0
    go_enter Try.func61, Try.ntmps61
    go_wp2_with fail
    refine (impl_plan_buffer.calls A0 c0 l0 A1 c1 l1 a2 i j x _ HR0.out hc0 HR1.out hc1 HX.out).mono ?_
    rintro e w1 ⟨rfl, hb1⟩
    go_wp2
    go_end0
    exact ⟨rfl, ⟨_, blk_below HBO.out hb1, Kd.S_below HSV.out hb1, .inl rfl⟩, Kept.of_below hb1 _, below_then HU.out HU.out.size hb1⟩
/-- What the visits keep: the rows that came in, the variables, the list. -/
def impl_CriticalWaits.Keeps (w w1 u w5 : World) (Bo : Nat) (A0 : Option Addr) (c0 : Nat) (l0 : List (List Int)) (A1 : Option Addr) (c1 : Nat) (l1 : List Int) (a2 : Int) (s : List (List Int)) (W : World) : Prop :=
  Kd.F (Kd.slice 3 (Kd.int .i64)) W (fun k => k < w1.heap.size) A0 l0.length l0 ∧ Kd.F (Kd.int .i64) W (fun k => k < w1.heap.size) A1 l1.length l1 ∧
  W.heap[w1.heap.size]? = some (.cells #[.slice A0 l0.length c0, .slice A1 l1.length c1, .int .i64 a2] 63 (0, 0)) ∧ Below w.heap.size w W ∧ Below u.heap.size u W ∧
  ∃ v, W.heap[Bo]? = some (.cells #[v] 22 (0, 0)) ∧ Kd.S (Kd.slice 3 (Kd.int .i64)) 23 W u.heap.size (fun _ => True) v s ∧ ∀ k, v.ownBlock = some k → k ≠ w5.heap.size
def impl_CriticalWaits.f (k : Nat) (l0 : List (List Int)) (l1 : List Int) (a2 : Int) : Option (List (List Int) × Bool) := (impl_planOf.f k l0 l1 a2).bind fun bt => if bt.2.2.2 = true then (impl_plan_next.all (fun i j => impl_plan_waits.f bt.1 bt.2.1 bt.2.2.1 i j) (fun s i j => impl_CriticalWaits.step bt.1 bt.2.1 bt.2.2.1 s i j) bt.1.length bt.1.length 0 []).bind fun s => some (s, true) else some ([], false)
theorem impl_CriticalWaits.mono : ∀ a0 a1 a2 k, LeO (impl_CriticalWaits.f k a0 a1 a2) (impl_CriticalWaits.f (k + 1) a0 a1 a2) := fun a0 a1 a2 k => LeO.bind (impl_planOf.mono a0 a1 a2 k) fun _ => LeO.refl _
set_option maxHeartbeats 8000000 in
set_option maxRecDepth 100000 in
theorem impl_CriticalWaits.calls (k : Nat) (A0 : Option Addr) (c0 : Nat) (l0 : List (List Int)) (A1 : Option Addr) (c1 : Nat) (l1 : List Int) (a2 : Int) (r1 : List (List Int)) (r2 : Bool) (w : World) (hr0 : Kd.C (Kd.slice 3 (Kd.int .i64)) w A0 l0.length l0) (hc0 : l0.length ≤ c0) (hr1 : Kd.C (Kd.int .i64) w A1 l1.length l1) (hc1 : l1.length ≤ c1) (h : impl_CriticalWaits.f k l0 l1 a2 = some (r1, r2)) :
    Calls Try.prog 26 #[.slice A0 l0.length c0, .slice A1 l1.length c1, .int .i64 a2] w fun e w' => ∃ v0_ : Value, e = .returned (.tuple #[v0_, .bool r2]) ∧ Kd.S (Kd.slice 3 (Kd.int .i64)) 23 w' w.heap.size (fun _ => True) v0_ r1 ∧ Below w.heap.size w w' := by
  obtain ⟨⟨t1, t2, t3, t4⟩, hp, h⟩ := Option.bind_eq_some_iff.mp h
  dsimp only at h
  have HR0 := Aside0.mk hr0
  have HR1 := Aside0.mk hr1
  have HP := Aside0.mk hp
  have H := Aside0.mk h
  clear hr0 hr1 hp h
  go_enter Try.func26, Try.ntmps26
  go_wp2_with fail
  refine (impl_planOf.calls k (fun k_ => k_ < w.heap.size) A0 c0 l0 (fun k_ => k_ < w.heap.size) A1 c1 l1 a2 t1 t2 t3 t4 _ (Kd.V_mk hc0 (Kd.C_F (Kd.heap_slice 3 (Kd.heap_int .i64)) HR0.out)) (Kd.V_mk hc1 (Kd.C_F (Kd.heap_int .i64) HR1.out)) HP.out).mono ?_
  rintro e w1 ⟨v0, v1, rfl, ho0, ho1, hb⟩
  obtain ⟨Ap, cp, ev⟩ := Kd.V_slice ho0
  subst ev
  obtain ⟨Aq, cq, ev⟩ := Kd.V_slice ho1
  subst ev
  have HO0 := Aside0.mk (Kd.V_mono (Kd.V_bound ho0) (fun k hk => hk.2) : Kd.V _ _ w1 _ (fun k => k < w1.heap.size) _ _)
  have HO1 := Aside0.mk (Kd.V_mono (Kd.V_bound ho1) (fun k hk => hk.2) : Kd.V _ _ w1 _ (fun k => k < w1.heap.size) _ _)
  have HB := Aside0.mk hb
  clear ho0 ho1 hb
  cases t4 with
  | false =>
    have h := H.out
    rw [if_neg (by simp)] at h
    injection h with h
    injection h with h1 h2
    subst h1 h2
    go_wp2
    go_ret2
    exact ⟨_, by first | rfl | (simp; done), Kd.S_nil _ _ _ _ _, below_alloc HB.out _⟩
  | true =>
    have h := H.out
    rw [if_pos rfl] at h
    obtain ⟨s, hs, h⟩ := Option.bind_eq_some_iff.mp h
    injection h with h
    injection h with h1 h2
    subst h1 h2
    have HS := Aside0.mk hs
    clear hs H
    go_upto_region 4 with fail
    have BPu := blk_new w1 (Obj.cells #[.slice Ap t1.length cp, .slice Aq t2.length cq, .int .i64 t3] 63 (0, 0))
    have hBu := below_alloc HB.out (Obj.cells #[.slice Ap t1.length cp, .slice Aq t2.length cq, .int .i64 t3] 63 (0, 0))
    have hF0 := Kd.F_alloc (Kd.V_F HO0.out) (Obj.cells #[.slice Ap t1.length cp, .slice Aq t2.length cq, .int .i64 t3] 63 (0, 0))
    have hF1 := Kd.F_alloc (Kd.V_F HO1.out) (Obj.cells #[.slice Ap t1.length cp, .slice Aq t2.length cq, .int .i64 t3] 63 (0, 0))
    have hszu : (w1.alloc (Obj.cells #[.slice Ap t1.length cp, .slice Aq t2.length cq, .int .i64 t3] 63 (0, 0))).heap.size = w1.heap.size + 1 := by simp [World.alloc_eq]
    generalize w1.alloc (Obj.cells #[.slice Ap t1.length cp, .slice Aq t2.length cq, .int .i64 t3] 63 (0, 0)) = u at BPu hBu hF0 hF1 hszu ⊢
    go_upto_region 5 with (first | ((with_reducible refine gate_dst (N := 20) rfl ?_); refine Kd.S_lit (Kd.slice 3 (Kd.int .i64)) _ 23 ?hg (N := 20) ?hd (xs := ([] : List (List Int))) (inner := []) (ok := fun _ => True) (okp := fun _ => True) ?hr ?hp (fun _ hk => hk) trivial (Below.refl _ _) (Nat.le_refl _) (by simp) ?_; (case hd => rfl); (case hg => rfl); (case hr => first | (go_simp; done) | (go_simp; rfl)); (case hp => exact (Reps.none _ _)); intro v3 w3 ho3 hb3 hg_ hnew_; clear hg_ hnew_; have HO3 := Aside0.mk ho3; have HB3 := Aside0.mk hb3; clear ho3 hb3; obtain ⟨A3, c3, e3⟩ := Kd.S_slice HO3.out; subst e3))
    have BO := blk_new w3 (Obj.cells #[.slice A3 0 c3] 22 (0, 0))
    have BP5 := blk_alloc (blk_below BPu HB3.out) (Obj.cells #[.slice A3 0 c3] 22 (0, 0))
    have hG0 := Kd.F_alloc (Kd.F_below hF0 HB3.out) (Obj.cells #[.slice A3 0 c3] 22 (0, 0))
    have hG1 := Kd.F_alloc (Kd.F_below hF1 HB3.out) (Obj.cells #[.slice A3 0 c3] 22 (0, 0))
    have hBu5 := below_alloc HB3.out (Obj.cells #[.slice A3 0 c3] 22 (0, 0))
    have hB5 := below_step hBu hBu5
    have hS5 := Kd.S_alloc HO3.out (Obj.cells #[.slice A3 0 c3] 22 (0, 0))
    have hlt3 := Kd.R_lt (Kd.S_R HO3.out)
    have hsz3 := HB3.out.size
    generalize w3.alloc (Obj.cells #[.slice A3 0 c3] 22 (0, 0)) = w5 at BO BP5 hG0 hG1 hBu5 hB5 hS5 ⊢
    have hltB := blk_lt BO
    have hszw := hBu.size
    have hcp := (Kd.V_reads' HO0.out).2.1
    have hcq := (Kd.V_reads' HO1.out).2.1
    have hm : t1.length ≤ 9223372036854775807 := (Kd.V_reads' HO0.out).2.2.2.1
    have eg : ∀ args w, (callFunc 61 args).run Try.prog w = .ok (.enter 61 args) w := Ext.entersOf Try.func61 (by kernel_rfl) rfl
    have HE := Aside0.mk (impl_plan_next.each 61 #[.pointer (some ⟨w1.heap.size, 0, none⟩), .pointer (some ⟨w3.heap.size, 0, none⟩)] eg Ap cp t1 Aq cq t2 t3 hcp hcq hm (fun s i j => impl_CriticalWaits.step t1 t2 t3 s i j) (fun s W => impl_CriticalWaits.Keeps w w1 u w5 w3.heap.size Ap cp t1 Aq cq t2 t3 s W) (fun k => k = w3.heap.size ∨ (u.heap.size ≤ k ∧ k ≠ w5.heap.size)) w5
      (fun h => by rcases h with h | h <;> omega)
      (fun s W h => ⟨Kd.F_now h.1, Kd.F_now h.2.1⟩)
      (fun s W W' h hW => by
        obtain ⟨h1, h2, h3, h4, h5, v, h6, h7, h8⟩ := h
        exact ⟨Kd.F_below h1 hW, Kd.F_below h2 hW, blk_below h3 hW, below_step h4 hW, below_step h5 hW, v, blk_below h6 hW, Kd.S_below h7 hW, h8⟩)
      (fun s s' i j W hi hj hlt h hs => by
        obtain ⟨h1, h2, h3, h4, h5, v, h6, h7, h8⟩ := h
        have hbv := Kd.S_base h7
        refine (impl_CriticalWaits.visit Ap cp t1 Aq cq t2 t3 v s s' w3.heap.size w1.heap.size (i : Int) (j : Int) u W h5 (Kd.F_now h1) hcp (Kd.F_now h2) hcq h6 h3 hsz3 h7 hs).mono ?_
        rintro e W' ⟨rfl, ⟨v', g1, g2, g3⟩, hk, hbu⟩
        refine ⟨rfl, ⟨Kd.F_kept h1 hk (fun k q1 q2 => ?_), Kd.F_kept h2 hk (fun k q1 q2 => ?_), blk_kept h3 hk (fun q2 => ?_), below_step hBu hbu, hbu, v', g1, g2, fun k hk' => ?_⟩, hk.mono (fun k q => ?_)⟩
        · rcases q2 with q2 | q2
          · omega
          · have := hbv k q2.symm
            omega
        · rcases q2 with q2 | q2
          · omega
          · have := hbv k q2.symm
            omega
        · rcases q2 with q2 | q2
          · omega
          · have := hbv _ q2.symm
            omega
        · rcases g3 with g3 | ⟨b, g3, g4⟩
          · exact h8 k (g3 ▸ hk')
          · rw [g3] at hk'
            injection hk' with hk'
            omega
        · rcases q with q | q
          · exact .inl q
          · exact .inr ⟨hbv k q.symm, h8 k q.symm⟩)
      [] s ⟨hG0, hG1, BP5, hB5, hBu5, _, BO, hS5, fun k hk => by have := hlt3 k hk; omega⟩ HS.out)
    have hcz0 : w5.cell? ⟨w1.heap.size, 0, none⟩ = some (.slice Ap t1.length cp) := (blk_cell BP5 0).trans rfl
    have hcz1 : w5.cell? ⟨w1.heap.size, 1, none⟩ = some (.slice Aq t2.length cq) := (blk_cell BP5 1).trans rfl
    have hcz2 : w5.cell? ⟨w1.heap.size, 2, none⟩ = some (.int .i64 t3) := (blk_cell BP5 2).trans rfl
    have hmf : ∀ (fn : Fn) (first cap : Array Value) (w : World), (Instr.makeFunc fn first cap).run Try.prog w = .ok (.func fn first cap) w := fun _ _ _ _ => rfl
    have HSZ := Aside0.mk hszw
    clear BO BP5 hG0 hG1 hBu5 hB5 hS5 hlt3 hsz3 hltB hszw hcp hcq eg BPu hBu hF0 hF1 hszu
    go_wp2_with fail
    refine HE.out.mono ?_
    rintro e w6 ⟨rfl, hr6, _⟩
    obtain ⟨_, _, _, h4, _, v6, h6, h7, _⟩ := hr6
    have hczo6 : w6.cell? ⟨w3.heap.size, 0, none⟩ = some v6 := (blk_cell h6 0).trans rfl
    have H7 := Aside0.mk h7
    have H4 := Aside0.mk h4
    obtain ⟨A6, c6, e6⟩ := Kd.S_slice h7
    subst e6
    clear h4 h6 h7 hcz0 hcz1 hcz2 HE
    go_wp2
    go_ret2
    exact ⟨_, by first | rfl | (simp; done), Kd.S_lower H7.out HSZ.out, H4.out⟩

/-! ### laws_markIntS: function 28 -/
def laws_markIntS.l0 : Nat → List Int → Int → Int → Option (Int × List Int)
  | 0, _, _, _ => none
  | k + 1, x0, x1, x5 => if x5 < (x0.length : Int) then (if 0 ≤ x5 then (laws_markIntS.l0 k (x0.set (x5 : Int).toNat x1) (wrap64 (x1 + 1)) (wrap64 (x5 + 1))) else (none)) else (some (x1, x0))
def laws_markIntS.f (k : Nat) (l0 : List Int) (a1 : Int) : Option (Int × List Int) := laws_markIntS.l0 k l0 a1 0
theorem laws_markIntS.mono_l : ∀ k, (∀ y0 y1 y2, LeO (laws_markIntS.l0 k y0 y1 y2) (laws_markIntS.l0 (k + 1) y0 y1 y2))
  | 0 => fun _ _ _ r h => by simp [laws_markIntS.l0] at h
  | k + 1 => by
    have ih0 := laws_markIntS.mono_l k
    · intro y0 y1 y2
      unfold laws_markIntS.l0
      repeat' first
      | (with_reducible exact ih0 _ _ _)
      | (with_reducible exact LeO.refl _)
      | (with_reducible exact LeO.none _)
      | (with_reducible refine LeO.ite ?_ ?_)
      | (with_reducible refine LeO.bind ?_ (fun _ => ?_))
      | exact ih0 _ _ _
      | exact LeO.none _
      | refine LeO.ite ?_ ?_
      | refine LeO.bind ?_ (fun _ => ?_)
theorem laws_markIntS.mono : ∀ a0 a1 k, LeO (laws_markIntS.f k a0 a1) (laws_markIntS.f (k + 1) a0 a1) := by
  intro a0 a1 k
  have ih0 := laws_markIntS.mono_l k
  unfold laws_markIntS.f
  repeat' first
      | (with_reducible exact ih0 _ _ _)
      | (with_reducible exact LeO.refl _)
      | (with_reducible exact LeO.none _)
      | (with_reducible refine LeO.ite ?_ ?_)
      | (with_reducible refine LeO.bind ?_ (fun _ => ?_))
      | exact ih0 _ _ _
      | exact LeO.none _
      | refine LeO.ite ?_ ?_
      | refine LeO.bind ?_ (fun _ => ?_)
set_option maxHeartbeats 8000000 in
set_option maxRecDepth 100000 in
theorem laws_markIntS.calls (k : Nat) (P0_ : Nat → Prop) (u9000_ : Value) (l0 : List Int) (a1 : Int) (r1 : Int) (r2 : List Int) (w0 w : World) (hB : Below w0.heap.size w0 w) (ho0 : Kd.R (Kd.int .i64) 3 w w0.heap.size P0_ u9000_ l0) (h : laws_markIntS.f k l0 a1 = some (r1, r2)) :
    Calls Try.prog 28 #[u9000_, .int .i64 a1] w fun e w' => e = .returned (.int .i64 r1) ∧ Kd.R (Kd.int .i64) 3 w' w0.heap.size (fun k_ => (P0_ k_ ∨ w.heap.size ≤ k_)) u9000_ r2 ∧ Below w0.heap.size w0 w' ∧ Kept w w' (fun k_ => P0_ k_) := by
  have HO0 := Aside0.mk (show Kd.R (Kd.int .i64) 3 w w0.heap.size (fun k_ => (P0_ k_ ∨ w.heap.size ≤ k_)) u9000_ l0 from Kd.R_mono ho0 (fun k_ hk => (.inl hk)))
  have HK := Aside0.mk (Kept.refl w (fun k_ => P0_ k_))
  have HW0 := Aside0.mk hB.size
  have HB := Aside0.mk hB
  clear hB
  have H : (laws_markIntS.l0 k l0 a1 0) = some (r1, r2) := h
  clear h
  have H' := Aside0.mk H
  clear H
  go_enter Try.func28, Try.ntmps28
  go_wp2
  go_loopg [1, 5] k (fun kq v1 v5 w' => ∃ (x0_1 : List Int) (x1_1 : Int) (x5_1 : Int), v1 = .int .i64 x1_1 ∧ v5 = .int .i64 x5_1 ∧ Aside0 (laws_markIntS.l0 kq x0_1 x1_1 x5_1 = some (r1, r2)) ∧ Aside0 (kq ≤ k) ∧ Aside0 (Kd.R (Kd.int .i64) 3 w' w0.heap.size (fun k_ => (P0_ k_ ∨ w.heap.size ≤ k_)) u9000_ x0_1) ∧ Aside0 (Kept w w' (fun k_ => P0_ k_)) ∧ Aside0 (Below w0.heap.size w0 w'))
  case atStart => exact ⟨(l0), (a1), (0), (by first | rfl | (simp; done) | (simp [*]; done)), (by first | rfl | (simp; done) | (simp [*]; done)), H', ⟨Nat.le_refl _⟩, ⟨by (with_reducible repeat (first | apply Kd.R_alloc | apply Kd.R_drewN | apply Kd.R_drew)); exact HO0.out⟩, ⟨by repeat (first | (with_reducible first | exact HK.out | apply Kept.alloc | apply Kept.drewN | apply Kept.drew) | exact HK.out)⟩, ⟨by repeat (first | (with_reducible first | exact HB.out | apply below_alloc | apply pw_below_drewN | apply below_drew1) | exact HB.out)⟩⟩
  case round =>
    clear H'
    try clear c2
    try clear p2
    obtain ⟨x0_1, x1_1, x5_1, rfl, rfl, HA, HK1, HO_0, HK, HB⟩ := hrel
    cases gk with
    | zero => exact absurd HA.out (by simp [laws_markIntS.l0])
    | succ k1 =>
      have H := HA.out
      clear HA
      simp only [laws_markIntS.l0] at H
      by_cases c3 : x5_1 < (x0_1.length : Int)
      · rw [if_pos c3] at H
        have c3b0 : decide (x5_1 < (x0_1.length : Int)) = true := decide_eq_true c3
        clear c3
        by_cases c4 : 0 ≤ x5_1
        · rw [if_pos c4] at H
          have c4b0 : decide (0 ≤ x5_1) = true := decide_eq_true c4
          clear c4
          obtain ⟨y332, hy332⟩ : ∃ y_ : List Int, y_ = (x0_1.set (x5_1 : Int).toNat x1_1) := ⟨_, rfl⟩
          replace H : (laws_markIntS.l0 k1 y332 (wrap64 (x1_1 + 1)) (wrap64 (x5_1 + 1))) = some (r1, r2) := by first | (rw [hy332]; with_reducible exact H) | (have H2_ := (Option.bind_some _ _).symm.trans H; rw [hy332]; with_reducible exact H2_) | (have H2_ := (Option.bind_some _ _).symm.trans H; with_reducible exact H2_) | with_reducible exact H | (rw [hy332]; exact H) | exact H
          have Ny332 := Aside0.mk hy332
          clear hy332
          have H' := Aside0.mk H
          clear H
          obtain ⟨Ao6, co6, eo6⟩ := Kd.R_slice HO_0.out
          subst eo6
          have p5 : 0 ≤ (x5_1 : Int) := of_decide_eq_true (by first | (with_reducible assumption) | assumption)
          have q5 : (x5_1 : Int) < ((x0_1.length : Int) : Int) := of_decide_eq_true (by first | (with_reducible assumption) | assumption)
          obtain ⟨go5, co5, eo5, gb5, gl5, cl5, HG5⟩ := Kd.R_form HO_0.out (by omega)
          (first | cases eo5 | (injection eo5 with ea_ en_ ec_; (first | subst ea_ | (injection ea_ with ea_; subst ea_)); subst ec_; clear en_))
          have GB5 := Aside0.mk gb5
          have GG5 := Aside0.mk HG5
          clear gb5 gl5 HG5
          have HMgo5 := Aside0.mk (show (P0_ go5 ∨ w.heap.size ≤ go5) from (HO_0.out.1 _ rfl))
          obtain ⟨hx5_0, hf5_0⟩ := Kd.R_celln 0 HO_0.out (x5_1 : Int) p5 q5
          replace p5 := eq_true p5
          replace q5 := eq_true q5
          have HP7 := Kd.R_putg HO_0.out (x5_1 : Int) x1_1
          go_wp2_with (first | ((with_reducible refine gate_store (t := 3) (p := 15) rfl ?_); refine store_event (t := 3) (p := 15) (v := ?vo_w8) (w1 := (wr.setCell ⟨go5, (x5_1 : Int).toNat, none⟩ (.int .i64 x1_1))) ?hg ?ho ?hn ?hr ?_; (case ho => rfl); (case hg => rfl); (case hn => rfl); (case hr => first | (go_simp; done) | (go_simp; rfl)); intro w8 hw; have hg : wr.grownBy w8 (some go5) := (by rw [hw]; exact HP7.2); have hp_ : Kd.R (Kd.int .i64) 3 w8 w0.heap.size (fun k_ => (P0_ k_ ∨ w.heap.size ≤ k_)) (.slice (some ⟨go5, 0, none⟩) x0_1.length co6) y332 := (by rw [hw, Ny332.out]; exact HP7.1); clear HP7; have n0_ := Aside0.mk (hp_); have n1_ := Aside0.mk ((by rw [hw]; exact below_set (HB.out) GB5.out : Below w0.heap.size w0 w8)); have n2_ := Aside0.mk (Kept.of_grown (S := (fun k_ => P0_ k_)) hg (by repeat (first | (with_reducible first | exact HK.out | apply Kept.alloc | apply Kept.drewN | apply Kept.drew) | exact HK.out)) (fun k_ e_ => (HO_0.out.1 k_ e_))); clear HO_0; clear HB; clear HK; have HO_0 := n0_; have HB := n1_; have HK := n2_; clear n0_ n1_ n2_; clear hg hw hp_))
          go_roundg k1
          case measure => have := HK1.out; omega
          case rel => exact ⟨(y332), (wrap64 (x1_1 + 1)), (wrap64 (x5_1 + 1)), (by first | rfl | (simp; done) | (simp [*]; done)), (by first | rfl | (simp; done) | (simp [*]; done)), H', ⟨by have := HK1.out; omega⟩, ⟨by (with_reducible repeat (first | apply Kd.R_alloc | apply Kd.R_drewN | apply Kd.R_drew)); exact HO_0.out⟩, ⟨by repeat (first | (with_reducible first | exact HK.out | apply Kept.alloc | apply Kept.drewN | apply Kept.drew) | exact HK.out)⟩, ⟨by repeat (first | (with_reducible first | exact HB.out | apply below_alloc | apply pw_below_drewN | apply below_drew1) | exact HB.out)⟩⟩
        · rw [if_neg c4] at H
          exact absurd H (by simp)
      · rw [if_neg c3] at H
        have c3b0 : decide (x5_1 < (x0_1.length : Int)) = false := decide_eq_false c3
        clear c3
        simp only [Option.some.injEq, Prod.mk.injEq] at H
        obtain ⟨rfl, rfl⟩ := H
        obtain ⟨Ao9, co9, eo9⟩ := Kd.R_slice HO_0.out
        subst eo9
        go_wp2
        go_ret
        exact ⟨by first | rfl | (simp [errW_none, errW_some] <;> rfl) | (simp [*, errW_none, errW_some] <;> rfl), by (with_reducible repeat (first | apply Kd.R_alloc | apply Kd.R_drewN | apply Kd.R_drew)); exact HO_0.out, by repeat (first | (with_reducible first | exact HB.out | apply below_alloc | apply pw_below_drewN | apply below_drew1) | exact HB.out), by repeat (first | (with_reducible first | exact HK.out | apply Kept.alloc | apply Kept.drewN | apply Kept.drew) | exact HK.out)⟩

-- NOT PRINTED: function 27 (laws_markIntSS)

/-! ### laws_heldIntS: function 32 -/
def laws_heldIntS.l0 : Nat → List Int → Int → Int → Option (Int)
  | 0, _, _, _ => none
  | k + 1, x0, x1, x5 => if x5 < (x0.length : Int) then (if 0 ≤ x5 then (if (rd x0 x5) = x1 then (laws_heldIntS.l0 k x0 (wrap64 (x1 + 1)) (wrap64 (x5 + 1))) else (some (-1))) else (none)) else (some x1)
def laws_heldIntS.f (k : Nat) (l0 : List Int) (a1 : Int) : Option (Int) := laws_heldIntS.l0 k l0 a1 0
theorem laws_heldIntS.mono_l : ∀ k, (∀ y0 y1 y2, LeO (laws_heldIntS.l0 k y0 y1 y2) (laws_heldIntS.l0 (k + 1) y0 y1 y2))
  | 0 => fun _ _ _ r h => by simp [laws_heldIntS.l0] at h
  | k + 1 => by
    have ih0 := laws_heldIntS.mono_l k
    · intro y0 y1 y2
      unfold laws_heldIntS.l0
      repeat' first
      | (with_reducible exact ih0 _ _ _)
      | (with_reducible exact LeO.refl _)
      | (with_reducible exact LeO.none _)
      | (with_reducible refine LeO.ite ?_ ?_)
      | (with_reducible refine LeO.bind ?_ (fun _ => ?_))
      | exact ih0 _ _ _
      | exact LeO.none _
      | refine LeO.ite ?_ ?_
      | refine LeO.bind ?_ (fun _ => ?_)
theorem laws_heldIntS.mono : ∀ a0 a1 k, LeO (laws_heldIntS.f k a0 a1) (laws_heldIntS.f (k + 1) a0 a1) := by
  intro a0 a1 k
  have ih0 := laws_heldIntS.mono_l k
  unfold laws_heldIntS.f
  repeat' first
      | (with_reducible exact ih0 _ _ _)
      | (with_reducible exact LeO.refl _)
      | (with_reducible exact LeO.none _)
      | (with_reducible refine LeO.ite ?_ ?_)
      | (with_reducible refine LeO.bind ?_ (fun _ => ?_))
      | exact ih0 _ _ _
      | exact LeO.none _
      | refine LeO.ite ?_ ?_
      | refine LeO.bind ?_ (fun _ => ?_)
set_option maxHeartbeats 8000000 in
set_option maxRecDepth 100000 in
theorem laws_heldIntS.calls (k : Nat) (A0 : Option Addr) (c0 : Nat) (l0 : List Int) (a1 : Int) (r : Int) (w : World) (hr0 : Kd.C (Kd.int .i64) w A0 l0.length l0) (hc0 : l0.length ≤ c0) (h : laws_heldIntS.f k l0 a1 = some r) :
    Calls Try.prog 32 #[.slice A0 l0.length c0, .int .i64 a1] w fun e w' => e = .returned (.int .i64 r) ∧ Drawn0 w w' := by
  have HR0 := Aside0.mk hr0
  have HC0 := Aside0.mk hc0
  clear hr0 hc0
  have H : (laws_heldIntS.l0 k l0 a1 0) = some r := h
  clear h
  have H' := Aside0.mk H
  clear H
  go_enter Try.func32, Try.ntmps32
  go_wp2
  go_loopg [1, 5] k (fun kq v1 v5 w' => ∃ (x1_1 : Int) (x5_1 : Int), v1 = .int .i64 x1_1 ∧ v5 = .int .i64 x5_1 ∧ Aside0 (laws_heldIntS.l0 kq l0 x1_1 x5_1 = some r) ∧ Aside0 (kq ≤ k) ∧ Drawn0 w w')
  case atStart => exact ⟨(a1), (0), (by first | rfl | (simp; done) | (simp [*]; done)), (by first | rfl | (simp; done) | (simp [*]; done)), H', ⟨Nat.le_refl _⟩, by repeat (first | exact Drawn0.refl _ | apply Drawn0.step)⟩
  case round =>
    clear H'
    try clear p2
    obtain ⟨x1_1, x5_1, rfl, rfl, HA, HK1, ⟨m1, rfl⟩⟩ := hrel
    cases gk with
    | zero => exact absurd HA.out (by simp [laws_heldIntS.l0])
    | succ k1 =>
      have H := HA.out
      clear HA
      simp only [laws_heldIntS.l0] at H
      by_cases c3 : x5_1 < (l0.length : Int)
      · rw [if_pos c3] at H
        have c3b0 : decide (x5_1 < (l0.length : Int)) = true := decide_eq_true c3
        clear c3
        by_cases c4 : 0 ≤ x5_1
        · rw [if_pos c4] at H
          have c4b0 : decide (0 ≤ x5_1) = true := decide_eq_true c4
          clear c4
          by_cases c5 : (rd l0 x5_1) = x1_1
          · rw [if_pos c5] at H
            have c5b0 : ((rd l0 x5_1) == x1_1) = true := beq_iff_eq.mpr c5
            have c5b1 : ((rd l0 x5_1) != x1_1) = false := bne_eq_false_iff_eq.mpr c5
            clear c5
            have H' := Aside0.mk H
            clear H
            have p334 : 0 ≤ (x5_1 : Int) := of_decide_eq_true (by first | (with_reducible assumption) | assumption)
            have q334 : x5_1 < (l0.length : Int) := of_decide_eq_true (by first | (with_reducible assumption) | assumption)
            obtain ⟨ad334, e334, hx334_0⟩ := Kd.at_int HR0.out x5_1 p334 q334
            cases e334
            replace p334 := eq_true p334
            replace q334 := eq_true q334
            go_wp2
            go_roundg k1
            case measure => have := HK1.out; omega
            case rel => exact ⟨(wrap64 (x1_1 + 1)), (wrap64 (x5_1 + 1)), (by first | rfl | (simp; done) | (simp [*]; done)), (by first | rfl | (simp; done) | (simp [*]; done)), H', ⟨by have := HK1.out; omega⟩, by repeat (first | exact Drawn0.refl _ | apply Drawn0.step)⟩
          · rw [if_neg c5] at H
            have c5b0 : ((rd l0 x5_1) == x1_1) = false := beq_eq_false_iff_ne.mpr c5
            have c5b1 : ((rd l0 x5_1) != x1_1) = true := bne_iff_ne.mpr c5
            obtain rfl := Option.some.inj H
            have p334 : 0 ≤ (x5_1 : Int) := of_decide_eq_true (by first | (with_reducible assumption) | assumption)
            have q334 : x5_1 < (l0.length : Int) := of_decide_eq_true (by first | (with_reducible assumption) | assumption)
            obtain ⟨ad334, e334, hx334_0⟩ := Kd.at_int HR0.out x5_1 p334 q334
            cases e334
            replace p334 := eq_true p334
            replace q334 := eq_true q334
            go_wp2
            go_ret
            exact ⟨by first | rfl | (simp; done) | (simp [*]; done), by repeat (first | exact Drawn0.refl _ | apply Drawn0.step)⟩
        · rw [if_neg c4] at H
          exact absurd H (by simp)
      · rw [if_neg c3] at H
        have c3b0 : decide (x5_1 < (l0.length : Int)) = false := decide_eq_false c3
        clear c3
        obtain rfl := Option.some.inj H
        go_wp2
        go_ret
        exact ⟨by first | rfl | (simp; done) | (simp [*]; done), by repeat (first | exact Drawn0.refl _ | apply Drawn0.step)⟩

/-! ### laws_heldIntSS: function 29 -/
def laws_heldIntSS.l0 : Nat → List (List Int) → Int → Int → Option (Int)
  | 0, _, _, _ => none
  | k + 1, x0, x1, x5 => if x5 < (x0.length : Int) then (if 0 ≤ x5 then ((laws_heldIntS.f k (rd_L1 x0 x5) x1).bind fun t336 => (if t336 < 0 then (some (-1)) else (laws_heldIntSS.l0 k x0 t336 (wrap64 (x5 + 1))))) else (none)) else (some x1)
def laws_heldIntSS.f (k : Nat) (l0 : List (List Int)) (a1 : Int) : Option (Int) := laws_heldIntSS.l0 k l0 a1 0
theorem laws_heldIntSS.mono_l : ∀ k, (∀ y0 y1 y2, LeO (laws_heldIntSS.l0 k y0 y1 y2) (laws_heldIntSS.l0 (k + 1) y0 y1 y2))
  | 0 => fun _ _ _ r h => by simp [laws_heldIntSS.l0] at h
  | k + 1 => by
    have ih0 := laws_heldIntSS.mono_l k
    · intro y0 y1 y2
      unfold laws_heldIntSS.l0
      repeat' first
      | (with_reducible exact ih0 _ _ _)
      | (with_reducible exact laws_heldIntS.mono _ _ _)
      | (with_reducible exact LeO.refl _)
      | (with_reducible exact LeO.none _)
      | (with_reducible refine LeO.ite ?_ ?_)
      | (with_reducible refine LeO.bind ?_ (fun _ => ?_))
      | exact ih0 _ _ _
      | exact laws_heldIntS.mono _ _ _
      | exact LeO.none _
      | refine LeO.ite ?_ ?_
      | refine LeO.bind ?_ (fun _ => ?_)
theorem laws_heldIntSS.mono : ∀ a0 a1 k, LeO (laws_heldIntSS.f k a0 a1) (laws_heldIntSS.f (k + 1) a0 a1) := by
  intro a0 a1 k
  have ih0 := laws_heldIntSS.mono_l k
  unfold laws_heldIntSS.f
  repeat' first
      | (with_reducible exact ih0 _ _ _)
      | (with_reducible exact laws_heldIntS.mono _ _ _)
      | (with_reducible exact LeO.refl _)
      | (with_reducible exact LeO.none _)
      | (with_reducible refine LeO.ite ?_ ?_)
      | (with_reducible refine LeO.bind ?_ (fun _ => ?_))
      | exact ih0 _ _ _
      | exact laws_heldIntS.mono _ _ _
      | exact LeO.none _
      | refine LeO.ite ?_ ?_
      | refine LeO.bind ?_ (fun _ => ?_)
set_option maxHeartbeats 8000000 in
set_option maxRecDepth 100000 in
theorem laws_heldIntSS.calls (k : Nat) (A0 : Option Addr) (c0 : Nat) (l0 : List (List Int)) (a1 : Int) (r : Int) (w : World) (hr0 : Kd.C (Kd.slice 3 (Kd.int .i64)) w A0 l0.length l0) (hc0 : l0.length ≤ c0) (h : laws_heldIntSS.f k l0 a1 = some r) :
    Calls Try.prog 29 #[.slice A0 l0.length c0, .int .i64 a1] w fun e w' => e = .returned (.int .i64 r) ∧ Drawn0 w w' := by
  have HR0 := Aside0.mk hr0
  have HC0 := Aside0.mk hc0
  clear hr0 hc0
  have H : (laws_heldIntSS.l0 k l0 a1 0) = some r := h
  clear h
  have H' := Aside0.mk H
  clear H
  go_enter Try.func29, Try.ntmps29
  go_wp2
  go_loopg [1, 5] k (fun kq v1 v5 w' => ∃ (x1_1 : Int) (x5_1 : Int), v1 = .int .i64 x1_1 ∧ v5 = .int .i64 x5_1 ∧ Aside0 (laws_heldIntSS.l0 kq l0 x1_1 x5_1 = some r) ∧ Aside0 (kq ≤ k) ∧ Drawn0 w w')
  case atStart => exact ⟨(a1), (0), (by first | rfl | (simp; done) | (simp [*]; done)), (by first | rfl | (simp; done) | (simp [*]; done)), H', ⟨Nat.le_refl _⟩, by repeat (first | exact Drawn0.refl _ | apply Drawn0.step)⟩
  case round =>
    clear H'
    try clear c2
    try clear p2
    obtain ⟨x1_1, x5_1, rfl, rfl, HA, HK1, ⟨m1, rfl⟩⟩ := hrel
    cases gk with
    | zero => exact absurd HA.out (by simp [laws_heldIntSS.l0])
    | succ k1 =>
      have H := HA.out
      clear HA
      simp only [laws_heldIntSS.l0] at H
      by_cases c3 : x5_1 < (l0.length : Int)
      · rw [if_pos c3] at H
        have c3b0 : decide (x5_1 < (l0.length : Int)) = true := decide_eq_true c3
        clear c3
        by_cases c4 : 0 ≤ x5_1
        · rw [if_pos c4] at H
          have c4b0 : decide (0 ≤ x5_1) = true := decide_eq_true c4
          clear c4
          replace H := Option.bind_eq_some_iff.mp H
          obtain ⟨t336, A50, H⟩ := H
          replace H : (if t336 < 0 then (some (-1)) else (laws_heldIntSS.l0 k1 l0 t336 (wrap64 (x5_1 + 1)))) = some r := H
          have A5 := Aside0.mk A50
          clear A50
          by_cases c6 : t336 < 0
          · rw [if_pos c6] at H
            have c6b0 : decide (t336 < 0) = true := decide_eq_true c6
            clear c6
            obtain rfl := Option.some.inj H
            have p335 : 0 ≤ (x5_1 : Int) := of_decide_eq_true (by first | (with_reducible assumption) | assumption)
            have q335 : x5_1 < (l0.length : Int) := of_decide_eq_true (by first | (with_reducible assumption) | assumption)
            obtain ⟨ad335, A335_0, c335_0, e335, hx335_0, hl335_0, hi335_0⟩ := at_L1 HR0.out x5_1 p335 q335
            cases e335
            have HR335_0 := Aside0.mk hi335_0
            have HC335_0 := Aside0.mk hl335_0
            clear hi335_0 hl335_0
            replace p335 := eq_true p335
            replace q335 := eq_true q335
            go_wp2_with (first | ((with_reducible refine gate_callee (f := 32) rfl ?_); refine goesL_ (some 17) rfl rfl Try.func32 (by kernel_rfl) rfl #[.slice A335_0 (rd_L1 l0 x5_1).length c335_0, .int .i64 x1_1] rfl (by (try simp only [List.map_toArray, List.map_cons, List.map_nil]); first | done | rfl | (simp only [List.length_drop, List.length_take]; rfl)) ?_; (with_reducible refine (laws_heldIntS.calls k1 _ _ (rd_L1 l0 x5_1) x1_1 t336 _ ?side1 ?side2 A5.out).mono ?_); (case side1 => repeat (first | exact HR335_0.out | (with_reducible refine Kd.C_alloc ?_ _) | (with_reducible refine Kd.C_drewN ?_ _) | (with_reducible refine Kd.C_drew ?_))); (case side2 => exact HC335_0.out); rintro e w' ⟨rfl, ⟨nd, rfl⟩⟩; refine ⟨_, rfl, ?_⟩))
            go_ret
            exact ⟨by first | rfl | (simp; done) | (simp [*]; done), by repeat (first | exact Drawn0.refl _ | apply Drawn0.step)⟩
          · rw [if_neg c6] at H
            have c6b0 : decide (t336 < 0) = false := decide_eq_false c6
            clear c6
            have H' := Aside0.mk H
            clear H
            have p335 : 0 ≤ (x5_1 : Int) := of_decide_eq_true (by first | (with_reducible assumption) | assumption)
            have q335 : x5_1 < (l0.length : Int) := of_decide_eq_true (by first | (with_reducible assumption) | assumption)
            obtain ⟨ad335, A335_0, c335_0, e335, hx335_0, hl335_0, hi335_0⟩ := at_L1 HR0.out x5_1 p335 q335
            cases e335
            have HR335_0 := Aside0.mk hi335_0
            have HC335_0 := Aside0.mk hl335_0
            clear hi335_0 hl335_0
            replace p335 := eq_true p335
            replace q335 := eq_true q335
            go_wp2_with (first | ((with_reducible refine gate_callee (f := 32) rfl ?_); refine goesL_ (some 17) rfl rfl Try.func32 (by kernel_rfl) rfl #[.slice A335_0 (rd_L1 l0 x5_1).length c335_0, .int .i64 x1_1] rfl (by (try simp only [List.map_toArray, List.map_cons, List.map_nil]); first | done | rfl | (simp only [List.length_drop, List.length_take]; rfl)) ?_; (with_reducible refine (laws_heldIntS.calls k1 _ _ (rd_L1 l0 x5_1) x1_1 t336 _ ?side1 ?side2 A5.out).mono ?_); (case side1 => repeat (first | exact HR335_0.out | (with_reducible refine Kd.C_alloc ?_ _) | (with_reducible refine Kd.C_drewN ?_ _) | (with_reducible refine Kd.C_drew ?_))); (case side2 => exact HC335_0.out); rintro e w' ⟨rfl, ⟨nd, rfl⟩⟩; refine ⟨_, rfl, ?_⟩))
            go_roundg k1
            case measure => have := HK1.out; omega
            case rel => exact ⟨(t336), (wrap64 (x5_1 + 1)), (by first | rfl | (simp; done) | (simp [*]; done)), (by first | rfl | (simp; done) | (simp [*]; done)), H', ⟨by have := HK1.out; omega⟩, by repeat (first | exact Drawn0.refl _ | apply Drawn0.step)⟩
        · rw [if_neg c4] at H
          exact absurd H (by simp)
      · rw [if_neg c3] at H
        have c3b0 : decide (x5_1 < (l0.length : Int)) = false := decide_eq_false c3
        clear c3
        obtain rfl := Option.some.inj H
        go_wp2
        go_ret
        exact ⟨by first | rfl | (simp; done) | (simp [*]; done), by repeat (first | exact Drawn0.refl _ | apply Drawn0.step)⟩

-- NOT PRINTED: function 6 (laws_FnExactCriticalWaits)


end Go.Proofs.Ytebjiooojkhkpaa.X
