-- Shaken out of the words that the printer laid.
/- slices.IndexFunc and slices.ContainsFunc at a predicate that answers, element by element, up to the first that is met; it may make memory, and turns none that stood. Condition: what the predicate answers is given as premises. -/
import Derived.Test.YtebjiooojkhkpaaProg
import Derived.Test.YtebjiooojkhkpaaZFnBuffersWMore
import Derived.Test.YtebjiooojkhkpaaZFnBuffersWBExtG
import Derived.WalkKit
import Derived.Deep.LoopGhost
import Derived.Deep.Draws
import Derived.Deep.QuietTactic
import Derived.BigQuiet
namespace Go.Proofs.Ytebjiooojkhkpaa.Ext
open Go.RowKit Go.Proofs.YtebjiooojkhkpaaW.PrintWords Go.Proofs.YtebjiooojkhkpaaW.PrintMore
set_option linter.unusedVariables false

set_option maxHeartbeats 4000000 in
theorem indexFunc_callsI (g : Nat) (lb : Array Value) (eg : ∀ args w, (callFunc g args).run Try.prog w = .ok (.enter g args) w) (A : Option Addr) (n c : Nat) (cell : Nat → Value) (w : World) (hbig : n ≤ 9223372036854775807)
    (hc : ∀ j, j < n → ∃ ad, A = some ad ∧ w.cell? (ad.add j) = some (cell j)) (i0 : Nat) (hi0 : i0 ≤ n)
    (hno : ∀ j, j < i0 → Gives g lb w (cell j) false) (hyes : i0 < n → Gives g lb w (cell i0) true) :
    Calls Try.prog 98 #[.slice A n c, .func (.func g) #[] lb] w fun e w' => e = .returned (.int .i64 (if i0 < n then (i0 : Int) else -1)) ∧ Below w.heap.size w w' := by
  go_enter Try.func98, Try.ntmps98
  go_wp2
  go_loopg [5, 8] n (fun gg _ s8 wr => ∃ kk : Nat, kk ≤ i0 ∧ n - kk ≤ gg ∧ s8 = .int .i64 kk ∧ Aside0 (Below w.heap.size w wr))
  case atStart => exact ⟨0, Nat.zero_le _, by omega, rfl, ⟨Below.refl _ _⟩⟩
  case round =>
    obtain ⟨kk, hkk, hg, rfl, HB⟩ := hrel
    by_cases hlt : kk < n
    · have hltz : (kk : Int) < (n : Int) := by omega
      obtain ⟨ad, rfl, hcell0⟩ := hc kk hlt
      have hcell : wr.cell? (ad.add kk) = some (cell kk) := pw_cell_below HB.out hcell0
      clear hcell0
      by_cases hh : kk < i0
      · have hcall := (hno kk hh) wr HB.out
        have HH := Aside0.mk hh
        clear hc hno hyes hh
        generalize hy : cell kk = y at hcell hcall
        clear hy
        go_wp2_with fail
        refine hcall.mono ?_
        rintro e w1 ⟨rfl, hb1⟩
        go_wp2
        go_roundg (n - (kk + 1))
        case measure => omega
        case rel => exact ⟨kk + 1, HH.out, by omega, by go_num, ⟨below_step HB.out hb1⟩⟩
      · have : kk = i0 := by omega
        subst this
        have hcall := (hyes hlt) wr HB.out
        clear hc hno hyes hh
        generalize hy : cell kk = y at hcell hcall
        clear hy
        go_wp2_with fail
        refine hcall.mono ?_
        rintro e w1 ⟨rfl, hb1⟩
        go_wp2
        go_ret
        exact ⟨by first | rfl | (rw [if_pos hlt]; rfl), below_step HB.out hb1⟩
    · have hltz : ¬ (kk : Int) < (n : Int) := by omega
      have : i0 = n := by omega
      subst this
      clear hc hno hyes
      go_wp2
      go_ret
      exact ⟨by first | rfl | (rw [if_neg (Nat.lt_irrefl _)]; rfl), HB.out⟩

set_option maxHeartbeats 4000000 in
theorem containsFunc_callsI (g : Nat) (lb : Array Value) (eg : ∀ args w, (callFunc g args).run Try.prog w = .ok (.enter g args) w) (A : Option Addr) (n c : Nat) (cell : Nat → Value) (w : World) (hbig : n ≤ 9223372036854775807)
    (hc : ∀ j, j < n → ∃ ad, A = some ad ∧ w.cell? (ad.add j) = some (cell j)) (i0 : Nat) (hi0 : i0 ≤ n)
    (hno : ∀ j, j < i0 → Gives g lb w (cell j) false) (hyes : i0 < n → Gives g lb w (cell i0) true) :
    Calls Try.prog 82 #[.slice A n c, .func (.func g) #[] lb] w fun e w' => e = .returned (.bool (decide (i0 < n))) ∧ Below w.heap.size w w' := by
  have hx := indexFunc_callsI g lb eg A n c cell w hbig hc i0 hi0 hno hyes
  clear hc hno hyes
  by_cases h : i0 < n
  · rw [if_pos h] at hx
    have h0 : decide ((0 : Int) ≤ (i0 : Int)) = true := by simp
    go_enter Try.func82, Try.ntmps82
    go_wp2_with fail
    refine hx.mono ?_
    rintro e w1 ⟨rfl, hb1⟩
    go_wp2
    go_ret
    exact ⟨by first | rfl | (simp [h]; done), hb1⟩
  · rw [if_neg h] at hx
    go_enter Try.func82, Try.ntmps82
    go_wp2_with fail
    refine hx.mono ?_
    rintro e w1 ⟨rfl, hb1⟩
    go_wp2
    go_ret
    exact ⟨by first | rfl | (simp [h]; done), hb1⟩
end Go.Proofs.Ytebjiooojkhkpaa.Ext

