/- Rows of whole numbers that come in as data, read as lists. No condition but the kinds of the types. -/
import Derived.Test.YtjpcjoepcibklaaProg
import Derived.Test.YtjpcjoepcibklaaWMore
import Derived.Test.YtjpcjoepcibklaaWSized
import Derived.Deep.Matrix
namespace Go.Proofs.Ytjpcjoepcibklaa.Law
open Go.RowKit Go.ChangeShapes Go.WideShapes Go.Deep Go.Proofs.YtjpcjoepcibklaaW.PrintWords Go.Proofs.YtjpcjoepcibklaaW.PrintMore
set_option linter.unusedVariables false
theorem add_add0 (a : Addr) (m : Nat) : a.add (m * 1 + 0) = a.add m := by rw [Nat.mul_one, Nat.add_zero]
theorem open_rows {H : Type} {enc : TypeId × Value → H} {P : Program} {W : World} {base : Nat} {held : Bool} {t e q : TypeId} {a : Option Addr} {len cap : Nat} {d : DataW H} {ps : List MemPlace}
    (ht : P.underlying t = some (.slice e)) (he : P.underlying e = some (.slice q)) (hq : P.underlying q = some (.int .i64)) (ce : P.cellsOf e = 1) (cq : P.cellsOf q = 1)
    (h : DataW.Trod enc P W base (fun _ => true) held t (.slice a len cap) d ps) (m : Nat) :
    ∃ l : List (List Int), len = l.length ∧ l.length ≤ cap ∧ Kd.C (Kd.slice m (Kd.int .i64)) W a l.length l ∧ (∀ r ∈ l, (r.length : Int) ≤ 9223372036854775807) ∧ (∀ r ∈ l, ∀ x ∈ r, -9223372036854775808 ≤ x ∧ x ≤ 9223372036854775807) := by
  have hmax : maxLen = 9223372036854775807 := rfl
  obtain ⟨fuel, hf⟩ := h
  rcases open_int_rows ht he hq ce cq hf with ⟨hcs, _⟩ | ⟨a', len', cap', A, L, C, Z, hcs, _, hl, hm, _, hrow⟩
  · simp [Value.cells] at hcs
    obtain ⟨rfl, rfl, rfl⟩ := hcs
    exact ⟨[], rfl, Nat.le_refl _, Kd.C_nil _ _, fun r hr => (by cases hr), fun r hr => (by cases hr)⟩
  · simp [Value.cells] at hcs
    obtain ⟨rfl, rfl, rfl⟩ := hcs
    have hlen : ((List.range len).map fun r => (Z r).take (L r)).length = len := by simp
    have hget : ∀ (j : Nat) (p : List Int), ((List.range len).map fun r => (Z r).take (L r))[j]? = some p → j < len ∧ p = (Z j).take (L j) := by
      intro j p hj
      rw [List.getElem?_map] at hj
      obtain ⟨x, hx, rfl⟩ := Option.map_eq_some_iff.1 hj
      obtain ⟨h1, h2⟩ := List.getElem?_eq_some_iff.1 hx
      simp at h1 h2
      exact ⟨h1, by rw [← h2]⟩
    have hmem : ∀ r ∈ ((List.range len).map fun r => (Z r).take (L r)), ∃ j, j < len ∧ r = (Z j).take (L j) := by
      intro r hr
      obtain ⟨j, hj, rfl⟩ := List.mem_map.1 hr
      exact ⟨j, List.mem_range.1 hj, rfl⟩
    refine ⟨(List.range len).map fun r => (Z r).take (L r), hlen.symm, by rw [hlen]; exact hl, ?_, ?_, ?_⟩
    · rw [hlen]
      refine ⟨hlen, by rw [hmax] at hm; omega, fun hp => ⟨a', rfl, fun j p hj => ?_⟩⟩
      obtain ⟨hjl, rfl⟩ := hget j p hj
      obtain ⟨hc, hLC, hCm, hZ, hwf, hn, hcells⟩ := hrow j (by omega)
      have hpl : ((Z j).take (L j)).length = L j := by rw [List.length_take, hZ]; omega
      refine ⟨[.slice (A j) (L j) (C j)], rfl, ⟨A j, C j, by rw [hpl], by rw [hpl]; exact hLC, ?_⟩, fun i u hu => ?_⟩
      · refine Kd.C_of_reads (d := (0 : Int)) (h1 := fun _ => rfl) ⟨rfl, by rw [hpl]; rw [hmax] at hCm; omega, fun hp2 => ?_⟩
        rw [hpl] at hp2
        cases hA : A j with
        | none => have := hn hA; omega
        | some a2 =>
          refine ⟨a2, rfl, fun i hi => ?_⟩
          rw [hpl] at hi
          rw [(hcells a2 hA).2 i (by omega)]
          congr 2
          rw [List.getD_eq_getElem?_getD, List.getD_eq_getElem?_getD, List.getElem?_take, if_pos hi]
      · cases i with
        | zero =>
          have : Value.slice (A j) (L j) (C j) = u := by simpa using hu
          subst this
          rw [show (Kd.slice m (Kd.int .i64)).sz = 1 from rfl, add_add0]
          exact hc
        | succ i => simp at hu
    · intro r hr
      obtain ⟨j, hj, rfl⟩ := hmem r hr
      obtain ⟨hc, hLC, hCm, hZ, _⟩ := hrow j (by omega)
      rw [List.length_take, hZ]
      rw [hmax] at hCm
      omega
    · intro r hr x hx
      obtain ⟨j, hj, rfl⟩ := hmem r hr
      obtain ⟨hc, hLC, hCm, hZ, hwf, _⟩ := hrow j (by omega)
      have := hwf x (List.mem_of_mem_take hx)
      have e1 : IntKind.i64.min = -9223372036854775808 := by decide
      have e2 : IntKind.i64.max = 9223372036854775807 := by decide
      simp only [Lit.wf, Bool.and_eq_true, decide_eq_true_eq] at this
      rw [e1, e2] at this
      exact this
/-- A row's slice of rows is no longer than its weight allows. -/
theorem sized_rows {H : Type} {enc : TypeId × Value → H} {P : Program} {W : World} {base : Nat} {held : Bool} {t e q : TypeId} {a : Option Addr} {len cap : Nat} {d : DataW H} {ps : List MemPlace} {ts : List TypeId} {ds : List (DataW H)} {j : Nat}
    (hsz : (DataW.weightsEach P ts ds).all (· ≤ reachBytes) = true) (ht : ts[j]? = some t) (hd : ds[j]? = some d) (hu : P.underlying t = some (.slice e)) (he : P.underlying e = some (.slice q)) (hq : P.underlying q = some (.int .i64)) (ce : P.cellsOf e = 1) (cq : P.cellsOf q = 1) {B : Nat} (hB : P.bytesOf e = B)
    (h : DataW.Trod enc P W base (fun _ => true) held t (.slice a len cap) d ps) : len * B ≤ 140737488351232 := by
  obtain ⟨fuel, hf⟩ := h
  rcases open_int_rows hu he hq ce cq hf with ⟨hcs, _⟩ | ⟨a', len', cap', A, L, C, Z, hcs, _, hl, hm, hx, hrow⟩
  · simp [Value.cells] at hcs
    obtain ⟨rfl, rfl, rfl⟩ := hcs
    simp
  · simp [Value.cells] at hcs
    obtain ⟨rfl, rfl, rfl⟩ := hcs
    obtain ⟨hx, _⟩ := Prod.mk.inj hx
    subst hx
    have z := sized_slice hsz ht hd hu
    rw [hB] at z
    simp only [List.length_map, List.length_range] at z
    exact Nat.le_trans (Nat.mul_le_mul_right _ (by omega)) z
end Go.Proofs.Ytjpcjoepcibklaa.Law
