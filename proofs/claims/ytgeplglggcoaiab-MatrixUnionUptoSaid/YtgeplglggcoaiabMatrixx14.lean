/- Lean functions and walks for Go functions of this seat, written by this claim's own program (wip/tools/xprint.py) over the kit's print. -/
import Derived.Test.YtgeplglggcoaiabMatrixx0
namespace Go.Proofs.Ytgeplglggcoaiab.Matrix
open Go.RowKit Go.Sort Go.Proofs.YtgeplglggcoaiabMakec Go.Proofs.YtgeplglggcoaiabW.PrintWords Go.Proofs.YtgeplglggcoaiabW.PrintLast Go.Proofs.YtgeplglggcoaiabW.PrintMore
attribute [local go_sem] max2_int min2_int max_two min_two max_three min_three max_four min_four   -- for this text's walks alone
set_option linter.unusedVariables false
set_option linter.unusedSimpArgs false


/-! ### matrix_sorted_int_int_54: function 54 -/
def matrix_sorted_int_int_54.f (l0 : List Int) : Option (List Int) := some (Lib.compact l0)
theorem matrix_sorted_int_int_54.calls (P0_ : Nat → Prop) (u9000_ : Value) (l0 : List Int) (r : List Int) (w0 w : World) (hB : Below w0.heap.size w0 w) (ho0 : Kd.R (Kd.int .i64) 3 w w0.heap.size P0_ u9000_ l0) (h : matrix_sorted_int_int_54.f l0 = some r) :
  Calls Try.prog 54 #[u9000_] w fun e w' => ∃ v0_ : Value, e = .returned (v0_) ∧ Kd.R (Kd.int .i64) 3 w' w0.heap.size (fun k_ => (P0_ k_ ∨ w.heap.size ≤ k_)) v0_ r ∧ Below w0.heap.size w0 w' ∧ Kept w w' (fun k_ => P0_ k_) := by
 obtain rfl := Option.some.inj h
 rcases Go.Proofs.YtgeplglggcoaiabGiven.ints_open ho0 with ⟨rfl, rfl⟩ | ⟨g, cap, cur, rfl, hb, hh, h1, h2, h3, h4, hP, hlt⟩
 ·refine (Try.compactM_int_empty none 0 w).mono ?_
  rintro e w' ⟨rfl, rfl⟩
  exact ⟨_, rfl, Kd.R_nil _ _ _ _ _, hB, Kept.refl _ _⟩
 ·have hm : l0.length ≤ 9223372036854775807 := by unfold maxLen at h2; omega
  refine (Try.compactM_int g 0 cap l0 w (holds_of_blockI hh h4) hm h1).mono ?_
  rintro e w' ⟨rfl, q, hw0⟩
  have hc := Lib.compact_length_le l0
  have hw : w' = grow (putRow (Value.int .i64) (Sort.ahead w q) g 0 (Lib.compact l0 ++ List.replicate (l0.length - (Lib.compact l0).length) 0).toArray) #[] := by rw [grow_empty]; exact hw0
  refine ⟨_, rfl, ?_, Go.Proofs.YtgeplglggcoaiabGiven.ints_below hw hB hb, Go.Proofs.YtgeplglggcoaiabGiven.ints_kept hw hP⟩
  have hlen : (Lib.compact l0 ++ List.replicate (l0.length - (Lib.compact l0).length) 0).length = l0.length := by rw [List.length_append, List.length_replicate]; omega
  have hR := Go.Proofs.YtgeplglggcoaiabGiven.ints_put (P := fun k_ => (P0_ k_ ∨ w.heap.size ≤ k_)) (m := (Lib.compact l0).length) (e := 3) (base := w0.heap.size) hw hb hh (by rw [hlen]; exact h1) h2 h3 (.inl hP) (by rw [hlen]; exact hc)
  rw [List.take_left] at hR
  exact hR

end Go.Proofs.Ytgeplglggcoaiab.Matrix
