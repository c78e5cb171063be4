/- Lean functions and walks for Go functions of this seat, written by this claim's own program (wip/tools/xprint.py) over the kit's print. -/
import Derived.Test.YtgeplglggcoaiabMatrixx0
namespace Go.Proofs.Ytgeplglggcoaiab.Matrix
open Go.RowKit Go.Sort Go.Proofs.YtgeplglggcoaiabMakec Go.Proofs.YtgeplglggcoaiabW.PrintWords Go.Proofs.YtgeplglggcoaiabW.PrintLast Go.Proofs.YtgeplglggcoaiabW.PrintMore
attribute [local go_sem] max2_int min2_int max_two min_two max_three min_three max_four min_four   -- for this text's walks alone
set_option linter.unusedVariables false
set_option linter.unusedSimpArgs false


/-! ### matrix_sorted_int_int_53: function 53 -/
def matrix_sorted_int_int_53.f (l0 : List Int) : Option (List Int) := if l0.length < 4611686018427387904 then some (l0.mergeSort fun x y => decide (x ≤ y)) else none
theorem matrix_sorted_int_int_53.calls (P0_ : Nat → Prop) (u9000_ : Value) (l0 : List Int) (r : List Int) (w0 w : World) (hB : Below w0.heap.size w0 w) (ho0 : Kd.R (Kd.int .i64) 3 w w0.heap.size P0_ u9000_ l0) (h : matrix_sorted_int_int_53.f l0 = some r) :
  Calls Try.prog 53 #[u9000_] w fun e w' => e = .returned (.tuple #[]) ∧ Kd.R (Kd.int .i64) 3 w' w0.heap.size (fun k_ => (P0_ k_ ∨ w.heap.size ≤ k_)) u9000_ r ∧ Below w0.heap.size w0 w' ∧ Kept w w' (fun k_ => P0_ k_) := by
 unfold matrix_sorted_int_int_53.f at h
 split at h
 case isFalse => cases h
 rename_i hl
 obtain rfl := Option.some.inj h
 rcases Go.Proofs.YtgeplglggcoaiabGiven.ints_open ho0 with ⟨rfl, rfl⟩ | ⟨g, cap, cur, rfl, hb, hh, h1, h2, h3, h4, hP, hlt⟩
 ·refine (Try.sortM_int_none none 0 w).mono ?_
  rintro e w' ⟨rfl, rfl⟩
  exact ⟨rfl, by rw [List.mergeSort_nil]; exact Kd.R_nil _ _ _ _ _, hB, Kept.refl _ _⟩
 ·refine (Try.sortM_int g 0 cap l0 w (holds_of_blockI hh h4) hlt hl).mono ?_
  rintro e w' ⟨rfl, n, os, hw⟩
  refine ⟨rfl, ?_, Go.Proofs.YtgeplglggcoaiabGiven.ints_below hw hB hb, Go.Proofs.YtgeplglggcoaiabGiven.ints_kept hw hP⟩
  have hlen : (l0.mergeSort fun x y => decide (x ≤ y)).length = l0.length := List.length_mergeSort _
  have hR := Go.Proofs.YtgeplglggcoaiabGiven.ints_put (P := fun k_ => (P0_ k_ ∨ w.heap.size ≤ k_)) (m := l0.length) (e := 3) (base := w0.heap.size) hw hb hh (by rw [hlen]; exact h1) h2 h3 (.inl hP) (by rw [hlen]; exact Nat.le_refl _)
  rw [← hlen, List.take_length] at hR
  rw [hlen] at hR
  exact hR

end Go.Proofs.Ytgeplglggcoaiab.Matrix
