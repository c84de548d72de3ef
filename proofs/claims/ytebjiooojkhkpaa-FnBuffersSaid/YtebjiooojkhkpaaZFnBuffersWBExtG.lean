-- Shaken out of the words that the printer laid.
/- Small general facts for the contracts written by hand: the first element that a partial test meets; rows of rows read; a cell chosen for each place. No condition. -/
import Derived.Test.YtebjiooojkhkpaaProg
import Derived.Test.YtebjiooojkhkpaaZFnBuffersWMore
import Derived.WalkKit
namespace Go.Proofs.Ytebjiooojkhkpaa.Ext
open Go.RowKit Go.Proofs.YtebjiooojkhkpaaW.PrintWords Go.Proofs.YtebjiooojkhkpaaW.PrintMore
set_option linter.unusedVariables false

theorem entersOf {P : Program} {f : FuncId} {fn : Func} {c : Code} (hf : P.funcs[f]? = some fn) (hname : (fn.name == "runtime.NumGoroutine") = false) (hb : fn.body = some c) : ∀ (args : Array Value) (w : World), (callFunc f args).run P w = .ok (.enter f args) w := by
 intro args w
 have h1 : fn.name ≠ "runtime.NumGoroutine" := by simpa using hname
 simp [callFunc, hf, h1, hb, mark]

def anyO {α : Type} (p : α → Option Bool) : List α → Option Bool
  | [] => some false
  | x :: xs => (p x).bind fun t => if t = true then some true else anyO p xs
theorem anyO_mono {α : Type} {p q : α → Option Bool} (h : ∀ x, LeO (p x) (q x)) : ∀ xs, LeO (anyO p xs) (anyO q xs)
  | [] => LeO.refl _
  | x :: xs => LeO.bind (h x) fun t => LeO.ite (LeO.refl _) (anyO_mono h xs)
theorem anyO_some {α : Type} {p : α → Option Bool} (d : α) : ∀ {xs : List α} {b : Bool}, anyO p xs = some b →
    ∃ i0, i0 ≤ xs.length ∧ (∀ j, j < i0 → p (xs.getD j d) = some false) ∧ (i0 < xs.length → p (xs.getD i0 d) = some true) ∧ b = decide (i0 < xs.length)
  | [], b, h => by
    simp only [anyO, Option.some.injEq] at h
    exact ⟨0, Nat.le_refl _, fun j hj => absurd hj (Nat.not_lt_zero j), fun hj => absurd hj (Nat.not_lt_zero 0), by rw [← h]; rfl⟩
  | x :: xs, b, h => by
    simp only [anyO] at h
    obtain ⟨t, ht, h⟩ := Option.bind_eq_some_iff.mp h
    cases t with
    | true =>
      rw [if_pos rfl] at h
      injection h with h
      exact ⟨0, Nat.zero_le _, fun j hj => absurd hj (Nat.not_lt_zero j), fun _ => ht, by rw [← h]; simp⟩
    | false =>
      rw [if_neg (by simp)] at h
      obtain ⟨i0, h1, h2, h3, h4⟩ := anyO_some d h
      refine ⟨i0 + 1, by simp; omega, fun j hj => ?_, fun hj => ?_, ?_⟩
      · cases j with
        | zero => exact ht
        | succ j => exact h2 j (by omega)
      · exact h3 (by simp at hj; omega)
      · rw [h4]; simp
theorem ev_anyO {α : Type} {p : Nat → α → Option Bool} {q : α → Bool} : ∀ (xs : List α), (∀ x, x ∈ xs → Ev (fun k => p k x) (q x)) → Ev (fun k => anyO (p k) xs) (xs.any q)
  | [], _ => Ev.now false
  | x :: xs, h => by
    obtain ⟨K, h1⟩ := h x List.mem_cons_self
    obtain ⟨K', h2⟩ := ev_anyO xs (fun y hy => h y (List.mem_cons_of_mem _ hy))
    refine ⟨max K K', fun k hk => ?_⟩
    have e1 : p k x = some (q x) := h1 k (by omega)
    have e2 : anyO (p k) xs = some (xs.any q) := h2 k (by omega)
    simp only [anyO]
    rw [e1, Option.bind_some, e2, List.any_cons]
    cases q x <;> simp

theorem rows_at {e : Nat} {w : World} {A : Option Addr} {n : Nat} {xs : List (List Int)} (h : (Kd.slice e (Kd.int .i64)).C w A n xs) (j : Nat) (hj : j < n) :
 ∃ ad A' c', A = some ad ∧ w.cell? (ad.add j) = some (.slice A' (xs.getD j []).length c') ∧ (xs.getD j []).length ≤ c' ∧ (Kd.int .i64).C w A' (xs.getD j []).length (xs.getD j []) := by
 obtain ⟨ad, c, e, _, hK, hc0⟩ := Kd.C_get h ([] : List Int) (j : Int) (by omega) (by omega)
 have hc : ∀ i u, c[i]? = some u → w.cell? (ad.add (j * 1 + i)) = some u := fun i u hu => by have := hc0 i u hu; rwa [Int.toNat_natCast] at this
 rw [Int.toNat_natCast] at hK
 obtain ⟨A0, c0, rfl, l0, g0⟩ := hK
 exact ⟨ad, A0, c0, e, by have hq := hc 0 _ rfl; rwa [Nat.mul_one, Nat.add_zero] at hq, l0, g0⟩
theorem ints_at {w : World} {A : Option Addr} {n : Nat} {xs : List Int} (h : (Kd.int .i64).C w A n xs) (j : Nat) (hj : j < n) :
 ∃ ad, A = some ad ∧ w.cell? (ad.add j) = some (.int .i64 (xs.getD j 0)) := by
 obtain ⟨ad, e, h⟩ := Kd.at_int h (j : Int) (by omega) (by omega)
 exact ⟨ad, e, by rwa [Int.toNat_natCast] at h⟩
theorem chosen {β : Type} [Inhabited β] {n : Nat} {P : Nat → β → Prop} (h : ∀ j, j < n → ∃ v, P j v) : ∃ f : Nat → β, ∀ j, j < n → P j (f j) := by
 have h2 : ∀ j, ∃ v, j < n → P j v := fun j => by
  by_cases hj : j < n
  ·
   obtain ⟨v, hv⟩ := h j hj
   exact ⟨v, fun _ => hv⟩
  ·
   exact ⟨default, fun hk => absurd hk hj⟩
 exact Classical.skolem.mp h2
def Gives (g : Nat) (lb : Array Value) (w : World) (v : Value) (b : Bool) : Prop :=
  ∀ W : World, Below w.heap.size w W → Calls Try.prog g (#[v] ++ lb) W fun e w' => e = .returned (.bool b) ∧ Below W.heap.size W w'
end Go.Proofs.Ytebjiooojkhkpaa.Ext

