/- The laws' helpers as contracts over stretches of blocks: a row of numbers, or of rows of numbers, that lies in the blocks lo to hi alone. Condition: sizes as the laws' guards let them in. -/
import Derived.Test.YtjpcjoepcibklaaPuLaw
import Derived.Test.YtjpcjoepcibklaaExtG
import Derived.Test.YtjpcjoepcibklaaX13
import Derived.Test.YtjpcjoepcibklaaX2
import Derived.Test.YtjpcjoepcibklaaX3
import Derived.Test.YtjpcjoepcibklaaX5
import Derived.Test.YtjpcjoepcibklaaX6
import Derived.Test.YtjpcjoepcibklaaX7
import Derived.Test.YtjpcjoepcibklaaX8
namespace Go.Proofs.Ytjpcjoepcibklaa.Law
open Go.RowKit Go.Proofs.Ytjpcjoepcibklaa.X Go.Proofs.Ytjpcjoepcibklaa.Pure Go.Proofs.YtjpcjoepcibklaaW.PrintWords Go.Proofs.YtjpcjoepcibklaaW.PrintMore
set_option linter.unusedVariables false

/-- Numbers that lie in the blocks from lo to hi. -/
def IntsAt (W : World) (lo hi : Nat) (v : Value) (xs : List Int) : Prop := Kd.R (Kd.int .i64) 3 W lo (fun k => lo ≤ k ∧ k < hi) v xs
theorem IntsAt.mk_ {w w' : World} {v : Value} {xs : List Int} (h : Kd.R (Kd.int .i64) 3 w' w.heap.size (fun _ => True) v xs) : IntsAt w' w.heap.size w'.heap.size v xs :=
  Kd.R_mono (Kd.R_bound h) (fun k hk => ⟨hk.2.1, hk.2.2.1⟩)
theorem IntsAt.kept {W W' : World} {lo hi : Nat} {v : Value} {xs : List Int} {S : Nat → Prop} (h : IntsAt W lo hi v xs) (hk : Kept W W' S) (hd : ∀ k, S k → k < lo ∨ hi ≤ k) : IntsAt W' lo hi v xs :=
  Kd.R_step h (fun k ho hlt => hk.2 k hlt (fun hs => by have := hd k hs; omega))
theorem IntsAt.below {W W' : World} {lo hi : Nat} {v : Value} {xs : List Int} (h : IntsAt W lo hi v xs) (hb : Below W.heap.size W W') : IntsAt W' lo hi v xs := Kd.R_below h hb
theorem IntsAt.shape {W : World} {lo hi : Nat} {v : Value} {xs : List Int} (h : IntsAt W lo hi v xs) : ∃ A c, v = .slice A xs.length c ∧ xs.length ≤ c ∧ Kd.C (Kd.int .i64) W A xs.length xs := Kd.R_reads h
theorem IntsAt.reads {W : World} {lo hi : Nat} {A : Option Addr} {n c : Nat} {xs : List Int} (h : IntsAt W lo hi (.slice A n c) xs) : n = xs.length ∧ n ≤ c ∧ Kd.C (Kd.int .i64) W A xs.length xs := Kd.R_reads' h

/-- Rows of numbers, the whole and each row in a block of its own, all of them from lo to hi. -/
def RowsAt (W : World) (lo hi : Nat) (v : Value) (xs : List (List Int)) : Prop :=
  ∃ (A : Option Addr) (c : Nat) (cell : Nat → Value) (f : Nat → Nat), v = .slice A xs.length c ∧ xs.length ≤ c ∧ xs.length ≤ 9223372036854775807 ∧
    ∀ j, j < xs.length → ∃ g, A = some ⟨g, 0, none⟩ ∧ lo ≤ g ∧ g < hi ∧ W.cell? ⟨g, j, none⟩ = some (cell j) ∧ Kd.R (Kd.int .i64) 3 W lo (fun k => lo ≤ k ∧ k < hi ∧ k ≠ g ∧ f k = j) (cell j) (xs.getD j [])
theorem RowsAt.mk_ {w w' : World} {v : Value} {xs : List (List Int)} (h : Kd.S (Kd.slice 3 (Kd.int .i64)) 22 w' w.heap.size (fun _ => True) v xs) : RowsAt w' w.heap.size w'.heap.size v xs := by
  obtain ⟨A, c, rfl, hlc, hr⟩ := Kd.S_reads h
  have hb := Kd.S_bound h
  obtain ⟨f, hR⟩ := hb
  have each : ∀ j, j < xs.length → ∃ cell : Value, ∃ g, A = some ⟨g, 0, none⟩ ∧ w.heap.size ≤ g ∧ g < w'.heap.size ∧ w'.cell? ⟨g, j, none⟩ = some cell ∧ Kd.R (Kd.int .i64) 3 w' w.heap.size (fun k => w.heap.size ≤ k ∧ k < w'.heap.size ∧ k ≠ g ∧ f k = j) cell (xs.getD j []) := by
    intro j hj
    obtain ⟨ad, e, _⟩ := hr.2.2 (by omega)
    subst e
    obtain ⟨g, rfl⟩ := Kd.R_head hR
    have hg := hR.1 g (by simp [Value.ownBlock])
    obtain ⟨cs, hcl, hM, hcc⟩ := Kd.R_getA (n := xs.length) hR ([], 0) (j : Int) (by omega) (by omega)
    rw [Int.toNat_natCast] at hM hcc
    have hz : xs.zipIdx.getD j ([], 0) = (xs.getD j [], j) := by
      rw [List.getD_eq_getElem?_getD, List.getD_eq_getElem?_getD, List.getElem?_zipIdx, List.getElem?_eq_getElem hj]
      simp
    rw [hz] at hM
    obtain ⟨cell, rfl, hMR⟩ := (show ∃ v, cs = [v] ∧ (Kd.int .i64).R 3 w' w.heap.size _ v (xs.getD j []) from hM)
    refine ⟨cell, g, rfl, hg.2.1, hg.2.2.1, ?_, ?_⟩
    · have h0 := hcc 0 cell rfl
      have e1 : (⟨g, 0, none⟩ : Addr).add (j * (Kd.tag f (Kd.slice 3 (Kd.int .i64))).sz + 0) = ⟨g, j, none⟩ := by
        rw [add_plain, show (Kd.tag f (Kd.slice 3 (Kd.int .i64))).sz = 1 from rfl, Nat.mul_one, Nat.add_zero]
      rwa [e1] at h0
    · exact Kd.R_mono hMR (fun k hk => ⟨hk.1.1.2.1, hk.1.1.2.2.1, fun e => hk.1.2 (by rw [e]; simp [Value.ownBlock]), hk.2⟩)
  obtain ⟨cell, hcell⟩ := Ext.chosen each
  exact ⟨A, c, cell, f, rfl, hlc, hr.2.1, hcell⟩
theorem RowsAt.kept {W W' : World} {lo hi : Nat} {v : Value} {xs : List (List Int)} {S : Nat → Prop} (h : RowsAt W lo hi v xs) (hk : Kept W W' S) (hd : ∀ k, S k → k < lo ∨ hi ≤ k) : RowsAt W' lo hi v xs := by
  obtain ⟨A, c, cell, f, rfl, h1, h2, h3⟩ := h
  refine ⟨A, c, cell, f, rfl, h1, h2, fun j hj => ?_⟩
  obtain ⟨g, e, hlo, hhi, hc, hR⟩ := h3 j hj
  exact ⟨g, e, hlo, hhi, cell_kept hc hk (fun hs => by have := hd _ hs; simp at this; omega), Kd.R_step hR (fun k ho hlt => hk.2 k hlt (fun hs => by have := hd k hs; omega))⟩
theorem RowsAt.below {W W' : World} {lo hi : Nat} {v : Value} {xs : List (List Int)} (h : RowsAt W lo hi v xs) (hb : Below W.heap.size W W') : RowsAt W' lo hi v xs := h.kept (Kept.of_below hb (fun _ => False)) (fun _ hk => hk.elim)
theorem RowsAt.shape {W : World} {lo hi : Nat} {v : Value} {xs : List (List Int)} (h : RowsAt W lo hi v xs) : ∃ A c, v = .slice A xs.length c ∧ xs.length ≤ c ∧ Kd.C (Kd.slice 3 (Kd.int .i64)) W A xs.length xs := by
  obtain ⟨A, c, cell, f, rfl, h1, h2, h3⟩ := h
  refine ⟨A, c, rfl, h1, rfl, h2, fun hp => ?_⟩
  obtain ⟨g, rfl, _⟩ := h3 0 hp
  refine ⟨_, rfl, fun j p hj => ?_⟩
  obtain ⟨hjl, rfl⟩ := List.getElem?_eq_some_iff.1 hj
  obtain ⟨g', e, _, _, hc, hR⟩ := h3 j hjl
  injection e with e
  injection e with e
  subst e
  obtain ⟨A', c', e', hl', hr'⟩ := Kd.R_reads hR
  have hx : xs.getD j [] = xs[j] := by simp [hjl]
  rw [hx] at e' hl' hr'
  refine ⟨[cell j], rfl, ⟨A', c', by rw [e'], hl', hr'⟩, fun i u hu => ?_⟩
  cases i with
  | zero =>
    have : cell j = u := by simpa using hu
    subst this
    rw [add_plain, show (Kd.slice 3 (Kd.int .i64)).sz = 1 from rfl, Nat.mul_one, Nat.add_zero]
    exact hc
  | succ i => simp at hu
theorem RowsAt.reads {W : World} {lo hi : Nat} {A : Option Addr} {n c : Nat} {xs : List (List Int)} (h : RowsAt W lo hi (.slice A n c) xs) : n = xs.length ∧ n ≤ c ∧ Kd.C (Kd.slice 3 (Kd.int .i64)) W A xs.length xs := by
  obtain ⟨A', c', e, h1, h2⟩ := h.shape
  injection e with e1 e2 e3
  subst e1 e3
  exact ⟨e2, by omega, h2⟩
/-- Row j, and what is known once its block alone was written. -/
theorem RowsAt.row {W : World} {lo hi : Nat} {A : Option Addr} {n c : Nat} {xs : List (List Int)} (h : RowsAt W lo hi (.slice A n c) xs) (j : Nat) (hj : j < xs.length) :
    ∃ (ad : Addr) (u : Value), A = some ad ∧ W.cell? (ad.add j) = some u ∧ (∀ k, u.ownBlock = some k → lo ≤ k ∧ k < hi) ∧ Kd.R (Kd.int .i64) 3 W lo (fun k => some k = u.ownBlock) u (xs.getD j []) ∧
      ∀ (W' : World) (r : List Int), Kept W W' (fun k => some k = u.ownBlock) → Kd.R (Kd.int .i64) 3 W' lo (fun k => some k = u.ownBlock) u r → RowsAt W' lo hi (.slice A n c) (xs.set j r) := by
  obtain ⟨A', c', cell, f, e, h1, h2, h3⟩ := h
  injection e with e1 e2 e3
  subst e1 e2 e3
  obtain ⟨g, rfl, hlo, hhi, hc, hR⟩ := h3 j hj
  have hne : ∀ k, (cell j).ownBlock = some k → lo ≤ k ∧ k < hi ∧ k ≠ g ∧ f k = j := fun k hk => hR.1 k hk
  refine ⟨⟨g, 0, none⟩, cell j, rfl, by rw [add_plain]; exact hc, fun k hk => ⟨(hne k hk).1, (hne k hk).2.1⟩, Kd.R_tight rfl hR, fun W' r hk hr => ?_⟩
  refine ⟨some ⟨g, 0, none⟩, c, cell, f, by rw [List.length_set], by rw [List.length_set]; exact h1, by rw [List.length_set]; exact h2, fun i hi' => ?_⟩
  rw [List.length_set] at hi'
  obtain ⟨g', e, hlo', hhi', hc', hR'⟩ := h3 i hi'
  injection e with e
  injection e with e
  subst e
  refine ⟨g, rfl, hlo, hhi, cell_kept hc' hk (fun hs => (hne _ hs.symm).2.2.1 rfl), ?_⟩
  by_cases hij : i = j
  · subst hij
    have : (xs.set i r).getD i [] = r := by rw [List.getD_eq_getElem?_getD, List.getElem?_set_self hj]; rfl
    rw [this]
    exact Kd.R_mono hr (fun k hk => hne k hk.symm)
  · have : (xs.set j r).getD i [] = xs.getD i [] := by rw [List.getD_eq_getElem?_getD, List.getD_eq_getElem?_getD, List.getElem?_set_ne (fun e => hij e.symm)]
    rw [this]
    exact Kd.R_step hR' (fun k ho hlt => hk.2 k hlt (fun hs => hij (by rw [← ho.2.2.2, (hne k hs.symm).2.2.2])))

theorem toIntS_law (A : Option Addr) (c : Nat) (l : List Int) (w : World) (hr : Kd.C (Kd.int .i64) w A l.length l) (hc : l.length ≤ c) (hn : l.length ≤ 1048576) :
    Calls Try.prog 15 #[.slice A l.length c] w fun e w' => ∃ v, e = .returned v ∧ IntsAt w' w.heap.size w'.heap.size v l ∧ Below w.heap.size w w' := by
  obtain ⟨k, hk⟩ := Ev.rounds (ev_toIntS l (by omega))
  exact (laws_toIntS.calls k A c l l w hr hc hk).mono fun e w' ⟨v, he, ho, hb⟩ => ⟨v, he, IntsAt.mk_ ho, hb⟩
theorem toIntSS_law (A : Option Addr) (c : Nat) (l : List (List Int)) (w : World) (hr : Kd.C (Kd.slice 3 (Kd.int .i64)) w A l.length l) (hc : l.length ≤ c) (hn : l.length + tot l ≤ 1048576) :
    Calls Try.prog 22 #[.slice A l.length c] w fun e w' => ∃ v, e = .returned v ∧ RowsAt w' w.heap.size w'.heap.size v l ∧ Below w.heap.size w w' := by
  obtain ⟨k, hk⟩ := Ev.rounds (ev_toIntSS l (by omega) (fun r hr => by have := tot_mem hr; omega))
  exact (laws_toIntSS.calls k A c l l w hr hc hk).mono fun e w' ⟨v, he, ho, hb⟩ => ⟨v, he, RowsAt.mk_ ho, hb⟩
theorem eqIntS_law (A A' : Option Addr) (c c' : Nat) (l : List Int) (w : World) (hr : Kd.C (Kd.int .i64) w A l.length l) (hc : l.length ≤ c) (hr' : Kd.C (Kd.int .i64) w A' l.length l) (hc' : l.length ≤ c') (hn : (l.length : Int) ≤ 140737488355328) :
    Calls Try.prog 17 #[.slice A l.length c, .slice A' l.length c'] w fun e w' => e = .returned (.bool true) ∧ Below w.heap.size w w' := by
  have h0 := ev_eqIntS l l hn
  rw [decide_eq_true rfl] at h0
  obtain ⟨k, hk⟩ := Ev.rounds h0
  exact (laws_eqIntS.calls k A c l A' c' l true w hr hc hr' hc' hk).mono fun e w' ⟨he, hd⟩ => ⟨he, hd.below⟩
theorem eqIntSS_law (A A' : Option Addr) (c c' : Nat) (l : List (List Int)) (w : World) (hr : Kd.C (Kd.slice 3 (Kd.int .i64)) w A l.length l) (hc : l.length ≤ c) (hr' : Kd.C (Kd.slice 3 (Kd.int .i64)) w A' l.length l) (hc' : l.length ≤ c') (hn : l.length + tot l ≤ 140737488355328) :
    Calls Try.prog 24 #[.slice A l.length c, .slice A' l.length c'] w fun e w' => e = .returned (.bool true) ∧ Below w.heap.size w w' := by
  obtain ⟨k, hk⟩ := Ev.rounds (ev_eqIntSS l (by omega) (fun r hr => by have := tot_mem hr; omega))
  exact (laws_eqIntSS.calls k A c l A' c' l true w hr hc hr' hc' hk).mono fun e w' ⟨he, hd⟩ => ⟨he, hd.below⟩
/-- What szIntSS leaves. -/
def szOf (xs : List (List Int)) (left : Int) : Int := if (xs.length : Int) + (tot xs : Int) ≤ left then left - ((xs.length : Int) + (tot xs : Int)) else -1
theorem szIntSS_law (A : Option Addr) (c : Nat) (l : List (List Int)) (left : Int) (w : World) (hr : Kd.C (Kd.slice 3 (Kd.int .i64)) w A l.length l) (hc : l.length ≤ c) (h0 : 0 ≤ left) (h1 : left ≤ 1048576) (hn : (l.length : Int) ≤ 140737488355328) (hrow : ∀ r ∈ l, (r.length : Int) ≤ 9223372036854775807) :
    Calls Try.prog 20 #[.slice A l.length c, .int .i64 left] w fun e w' => e = .returned (.int .i64 (szOf l left)) ∧ Below w.heap.size w w' := by
  obtain ⟨k, hk⟩ := Ev.rounds (ev_szIntSS l left h0 h1 hn hrow)
  exact (laws_szIntSS.calls k A c l left _ w hr hc hk).mono fun e w' ⟨he, hd⟩ => ⟨he, hd.below⟩
theorem markIntS_law0 (P : Nat → Prop) (v : Value) (l : List Int) (a : Int) (w0 w : World) (hB : Below w0.heap.size w0 w) (ho : Kd.R (Kd.int .i64) 3 w w0.heap.size P v l) (h0 : 0 ≤ a) (h1 : a + (l.length : Int) ≤ 140737488355328) :
    Calls Try.prog 26 #[v, .int .i64 a] w fun e w' => e = .returned (.int .i64 (a + (l.length : Int))) ∧ Kd.R (Kd.int .i64) 3 w' w0.heap.size (fun k => some k = v.ownBlock) v (marks a l.length) ∧ Below w0.heap.size w0 w' ∧ Kept w w' P := by
  obtain ⟨k, hk⟩ := Ev.rounds (ev_markIntS l a h0 h1)
  exact (laws_markIntS.calls k P v l a _ _ w0 w hB ho hk).mono fun e w' ⟨he, hr, hb, hkp⟩ => ⟨he, Kd.R_tight rfl hr, hb, hkp⟩
theorem markIntS_law (lo hi : Nat) (v : Value) (l : List Int) (a : Int) (w0 w : World) (hB : Below w0.heap.size w0 w) (ho : IntsAt w lo hi v l) (hlo : w0.heap.size ≤ lo) (h0 : 0 ≤ a) (h1 : a + (l.length : Int) ≤ 140737488355328) :
    Calls Try.prog 26 #[v, .int .i64 a] w fun e w' => e = .returned (.int .i64 (a + (l.length : Int))) ∧ IntsAt w' lo hi v (marks a l.length) ∧ Below w0.heap.size w0 w' ∧ Kept w w' (fun k => lo ≤ k ∧ k < hi) := by
  refine (markIntS_law0 (fun k => lo ≤ k ∧ k < hi) v l a w0 w hB (Kd.R_lower ho hlo) h0 h1).mono ?_
  rintro e w' ⟨he, hr, hb, hk⟩
  refine ⟨he, ?_, hb, hk⟩
  have hb2 : ∀ k, v.ownBlock = some k → lo ≤ k ∧ k < hi := fun k hk => ho.1 k hk
  obtain ⟨_, inner, ho2, hreps⟩ := hr
  refine ⟨fun k hk => hb2 k hk, inner, ?_, hreps⟩
  rcases ho2.2 with h | ⟨g, cap, cur, e1, hg, rest⟩
  · exact ⟨ho2.1, .inl h⟩
  · exact ⟨ho2.1, .inr ⟨g, cap, cur, e1, (hb2 g (by rw [e1]; simp [Value.ownBlock])).1, rest⟩⟩
theorem heldIntS_law (A : Option Addr) (c : Nat) (a : Int) (n : Nat) (w : World) (hr : Kd.C (Kd.int .i64) w A (marks a n).length (marks a n)) (hc : (marks a n).length ≤ c) (h0 : 0 ≤ a) (h1 : a + (n : Int) ≤ 140737488355328) :
    Calls Try.prog 27 #[.slice A (marks a n).length c, .int .i64 a] w fun e w' => e = .returned (.int .i64 (a + (n : Int))) ∧ Below w.heap.size w w' := by
  obtain ⟨k, hk⟩ := Ev.rounds (ev_heldIntS a n h0 h1)
  exact (laws_heldIntS.calls k A c (marks a n) a _ w hr hc hk).mono fun e w' ⟨he, hd⟩ => ⟨he, hd.below⟩
theorem heldIntSS_law (A : Option Addr) (c : Nat) (a : Int) (xs : List (List Int)) (w : World) (hr : Kd.C (Kd.slice 3 (Kd.int .i64)) w A (marksS a xs).length (marksS a xs)) (hc : (marksS a xs).length ≤ c) (h0 : 0 ≤ a) (h1 : a + (tot xs : Int) ≤ 140737488355328) (h2 : (xs.length : Int) ≤ 140737488355328) :
    Calls Try.prog 40 #[.slice A (marksS a xs).length c, .int .i64 a] w fun e w' => e = .returned (.int .i64 (a + (tot xs : Int))) ∧ Below w.heap.size w w' := by
  obtain ⟨k, hk⟩ := Ev.rounds (ev_heldIntSS a xs h0 h1 h2)
  exact (laws_heldIntSS.calls k A c (marksS a xs) a _ w hr hc hk).mono fun e w' ⟨he, hd⟩ => ⟨he, hd.below⟩

theorem heldIntS_at {W : World} {lo hi : Nat} {A : Option Addr} {m c n : Nat} {a : Int} (h : IntsAt W lo hi (.slice A m c) (marks a n)) (hb : 0 ≤ a ∧ a + (n : Int) ≤ 140737488355328) :
    Calls Try.prog 27 #[.slice A m c, .int .i64 a] W fun e w' => e = .returned (.int .i64 (a + (n : Int))) ∧ Below W.heap.size W w' := by
  obtain ⟨rfl, h1, h2⟩ := h.reads
  exact heldIntS_law A c a n W h2 h1 hb.1 hb.2
theorem heldIntSS_at {W : World} {lo hi : Nat} {A : Option Addr} {m c : Nat} {a : Int} {xs : List (List Int)} (h : RowsAt W lo hi (.slice A m c) (marksS a xs)) (hb : 0 ≤ a ∧ a + (tot xs : Int) ≤ 140737488355328 ∧ (xs.length : Int) ≤ 140737488355328) :
    Calls Try.prog 40 #[.slice A m c, .int .i64 a] W fun e w' => e = .returned (.int .i64 (a + (tot xs : Int))) ∧ Below W.heap.size W w' := by
  obtain ⟨rfl, h1, h2⟩ := h.reads
  exact heldIntSS_law A c a xs W h2 h1 hb.1 hb.2.1 hb.2.2

theorem marksS_step (a : Int) (xs : List (List Int)) (j : Nat) (hj : j < xs.length) :
    (marksS a (xs.take j) ++ xs.drop j).set j (marks (a + (tot (xs.take j) : Int)) (xs.getD j []).length) = marksS a (xs.take (j + 1)) ++ xs.drop (j + 1) ∧ tot (xs.take (j + 1)) = tot (xs.take j) + (xs.getD j []).length ∧ (marksS a (xs.take j) ++ xs.drop j).getD j [] = xs.getD j [] := by
  have hg : xs.getD j [] = xs[j] := by simp [hj]
  have ht : xs.take (j + 1) = xs.take j ++ [xs[j]] := List.take_succ_eq_append_getElem hj
  have hm : ∀ (ys : List (List Int)) (a : Int) (r : List Int), marksS a (ys ++ [r]) = marksS a ys ++ [marks (a + (tot ys : Int)) r.length] := by
    intro ys
    induction ys with
    | nil => intro a r; simp [marksS, tot]
    | cons y ys ih =>
      intro a r
      simp only [List.cons_append, marksS]
      rw [ih, tot_cons]
      have : a + (y.length : Int) + (tot ys : Int) = a + ((y.length + tot ys : Nat) : Int) := by omega
      rw [this]
  have hl : (marksS a (xs.take j)).length = j := by rw [marksS_length]; simp; omega
  rw [hg]
  refine ⟨?_, ?_, ?_⟩
  · rw [ht, hm, List.drop_eq_getElem_cons hj, List.set_append_right _ _ (by omega), hl, Nat.sub_self, List.set_cons_zero]
    simp
  · rw [ht, tot_append]
    simp [tot]
  · rw [List.getD_eq_getElem?_getD, List.getElem?_append_right (by omega), hl, Nat.sub_self, List.drop_eq_getElem_cons hj]
    rfl
set_option maxHeartbeats 4000000 in
theorem markIntSS_law (lo hi : Nat) (A : Option Addr) (n c : Nat) (xs : List (List Int)) (a : Int) (w0 w : World) (hB : Below w0.heap.size w0 w) (ho : RowsAt w lo hi (.slice A n c) xs) (hlo : w0.heap.size ≤ lo) (h0 : 0 ≤ a) (h1 : a + (tot xs : Int) ≤ 140737488355328) (hn : n ≤ 1048576) :
    Calls Try.prog 25 #[.slice A n c, .int .i64 a] w fun e w' => e = .returned (.int .i64 (a + (tot xs : Int))) ∧ RowsAt w' lo hi (.slice A n c) (marksS a xs) ∧ Below w0.heap.size w0 w' ∧ Kept w w' (fun k => lo ≤ k ∧ k < hi) := by
  have hnx : n = xs.length := ho.reads.1
  have HO := Aside0.mk ho
  have HB0 := Aside0.mk hB
  have HL := Aside0.mk hlo
  have HX := Aside0.mk h1
  have HN := Aside0.mk hnx
  clear ho hB hlo hnx h1
  go_enter Try.func25, Try.ntmps25
  go_wp2
  go_loopg [1, 5] n (fun gg s1 s5 wr => ∃ j : Nat, j ≤ n ∧ n - j ≤ gg ∧ s5 = .int .i64 j ∧ s1 = .int .i64 (a + (tot (xs.take j) : Int)) ∧ Aside0 (RowsAt wr lo hi (.slice A n c) (marksS a (xs.take j) ++ xs.drop j)) ∧ Aside0 (Below w0.heap.size w0 wr) ∧ Aside0 (Kept w wr (fun k => lo ≤ k ∧ k < hi)))
  case atStart => exact ⟨0, Nat.zero_le _, by omega, rfl, by simp [tot], ⟨by simpa [marksS] using HO.out⟩, HB0, ⟨Kept.refl _ _⟩⟩
  case round =>
    clear HO HB0
    obtain ⟨j, hj, hg, rfl, rfl, HR, HB, HK⟩ := hrel
    by_cases hlt : j < n
    · have hltz : (j : Int) < (n : Int) := by omega
      have hjx : j < xs.length := by rw [← HN.out]; exact hlt
      obtain ⟨e1, e2, e3⟩ := marksS_step a xs j hjx
      obtain ⟨ad, u, rfl, hcell, hub, hru, hnext⟩ := HR.out.row j (by rw [List.length_append, marksS_length]; simp; omega)
      rw [e3] at hru
      have hb1 : a + (tot (xs.take j) : Int) + ((xs.getD j []).length : Int) ≤ 140737488355328 := by
        have h2 : tot (xs.take (j + 1)) ≤ tot xs := by
          have := tot_append (xs.take (j + 1)) (xs.drop (j + 1))
          rw [List.take_append_drop] at this
          omega
        have := HX.out
        omega
      have hcall := markIntS_law0 (fun k => some k = u.ownBlock) u (xs.getD j []) (a + (tot (xs.take j) : Int)) w0 wr HB.out (Kd.R_lower hru HL.out) (by omega) hb1
      have E1 := Aside0.mk e1
      have E2 := Aside0.mk e2
      have HU := Aside0.mk hub
      have HNX := Aside0.mk hnext
      have HB1 := Aside0.mk hb1
      clear e1 e2 e3 hub hnext hru hb1 HR
      generalize hla : a + (tot (xs.take j) : Int) = aj at hcall
      have HLA := Aside0.mk hla
      clear hla
      go_wp2_with fail
      refine hcall.mono ?_
      rintro e w1 ⟨rfl, hr1, hb2, hk2⟩
      have HR1 := Aside0.mk (HNX.out w1 _ hk2 (by
        obtain ⟨_, inner, ho2, hreps⟩ := hr1
        refine ⟨fun k hk => hk.symm, inner, ?_, hreps⟩
        rcases ho2.2 with h | ⟨g, cap, cur, e1, hg, rest⟩
        · exact ⟨ho2.1, .inl h⟩
        · exact ⟨ho2.1, .inr ⟨g, cap, cur, e1, (HU.out g (by rw [e1]; simp [Value.ownBlock])).1, rest⟩⟩))
      have HB2 := Aside0.mk hb2
      have HK2 := Aside0.mk (Kept.then_ HK.out hk2 (fun k hk => .inl (HU.out k hk.symm)))
      clear hr1 hb2 hk2 HK HB HNX
      go_wp2
      go_roundg (n - (j + 1))
      case measure => omega
      case rel =>
        refine ⟨j + 1, by omega, by omega, by go_num, ?_, ⟨?_⟩, HB2, HK2⟩
        · have := E2.out
          have h4 := HLA.out
          have h5 : aj + ((xs.getD j []).length : Int) = a + (tot (xs.take (j + 1)) : Int) := by rw [E2.out]; omega
          rw [← h5]
          first | rfl | simp [List.getD_eq_getElem?_getD, hjx]
        · have h3 := HR1.out
          rw [← HLA.out, E1.out] at h3
          exact h3
    · have hltz : ¬ (j : Int) < (n : Int) := by omega
      have : j = n := by omega
      subst this
      have ht : xs.take j = xs := by rw [List.take_of_length_le]; have := HN.out; omega
      have hd : xs.drop j = [] := by rw [List.drop_of_length_le]; have := HN.out; omega
      rw [ht, hd, List.append_nil] at HR
      rw [ht]
      clear ht hd
      go_wp2
      go_ret
      exact ⟨rfl, HR.out, HB.out, HK.out⟩
end Go.Proofs.Ytjpcjoepcibklaa.Law
