-- Shaken out of the printed texts.
import Derived.Test.YtebjiooojkhkpaaZFnBuffersWBX0
set_option linter.unusedVariables false
namespace Go.Proofs.YtebjiooojkhkpaaW.PrintWords
open Go.RowKit Go.Proofs.YtebjiooojkhkpaaW.PrintMore
theorem bl_ {a : Nat} {w w' : World} (h : Below a w w' := by repeat (first | (with_reducible first | exact HB.out | apply below_alloc | apply pw_below_drewN | apply below_drew1) | exact HB.out)) : Below a w w' := h
theorem kR_ {p q : Prop} (h : p) (s : p → q := by intro h_; (with_reducible repeat (first | apply Kd.R_alloc | apply Kd.R_drewN | apply Kd.R_drew)); exact h_) : q := s h
theorem kS_ {p q : Prop} (h : p) (s : p → q := by intro h_; (with_reducible repeat (first | apply Kd.S_alloc | apply Kd.S_drewN | apply Kd.S_drew)); exact h_) : q := s h
theorem kQ_ {p q : Prop} (h : p) (s : p → q := by intro h_; (with_reducible repeat (first | apply Kd.Q_alloc | apply Kd.Q_drewN | apply Kd.Q_drew)); exact h_) : q := s h
theorem kC_ {α : Type} {d : Kd α} {w w' : World} {a : Option Addr} {n : Nat} {xs : List α} (h : Kd.C d w a n xs) (s : Kd.C d w a n xs → Kd.C d w' a n xs := by intro h_; repeat (first | exact h_ | (with_reducible refine Kd.C_alloc ?_ _) | (with_reducible refine Kd.C_drewN ?_ _) | (with_reducible refine Kd.C_drew ?_))) : Kd.C d w' a n xs := s h
theorem am_ {α : Type} {a b : α} (h : a = b := by (try simp only [List.map_toArray, List.map_cons, List.map_nil]); first | done | rfl | (simp only [List.length_drop, List.length_take]; rfl)) : a = b := h
theorem od_ {p : Prop} [Decidable p] (h : decide p = true := by first | (with_reducible assumption) | assumption) : p := of_decide_eq_true h
theorem hk_ {p : Prop} (h : p := by repeat (first | (with_reducible first | exact HK.out | apply KeepBut.set_ | apply keep_drewN | apply keep_drew | apply keep_alloc) | exact HK.out)) : p := h
theorem bs_ {q : Prop} (g : q) {a : Nat} {w w' : World} (s : q → Below a w w' := by intro g_; repeat (first | (with_reducible first | exact HB.out | apply below_alloc | apply pw_below_drewN | apply below_drew1 | refine below_set ?_ g_) | exact HB.out)) : Below a w w' := s g
theorem A_ {p : Prop} (h : p) : Aside0 p := ⟨h⟩
theorem kr_ {p : Prop} (h : p := by kernel_rfl) : p := h
theorem es_ {α : Type} {a b : α} (h : a = b := by first | rfl | (simp; done) | (simp [*]; done)) : a = b := h
theorem ew_ {α : Type} {a b : α} (h : a = b := by first | rfl | (simp [errW_none, errW_some] <;> rfl) | (simp [*, errW_none, errW_some] <;> rfl)) : a = b := h
end Go.Proofs.YtebjiooojkhkpaaW.PrintWords
