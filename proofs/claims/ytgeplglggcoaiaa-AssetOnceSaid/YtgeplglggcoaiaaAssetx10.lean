/- Lean functions and walks for Go functions of this seat, written by this claim's own program (wip/tools/xprint.py) over the kit's print. -/
import Derived.Test.YtgeplglggcoaiaaAssetx0
import Derived.Test.YtgeplglggcoaiaaAssetx9
namespace Go.Proofs.Ytgeplglggcoaiaa.Asset
open Go.RowKit Go.Sort Go.Proofs.YtgeplglggcoaiaaW.PrintWords Go.Proofs.YtgeplglggcoaiaaW.PrintLast Go.Proofs.YtgeplglggcoaiaaW.PrintMore
attribute [local go_sem] max2_int min2_int max_two min_two max_three min_three max_four min_four   -- for this text's walks alone
set_option linter.unusedVariables false
set_option linter.unusedSimpArgs false

/-! ### asset_distinct: function 66 -/
def asset_distinct.f (l0 : List Int) : Option (List Int) := if l0.length < 17592186044416 then some (Lib.compact (l0.mergeSort (fun x y => decide (x ≤ y)))) else none
theorem asset_distinct.calls (A0 : Option Addr) (c0 : Nat) (l0 : List Int) (r : List Int) (w : World) (hr0 : Kd.C (Kd.int .i64) w A0 l0.length l0) (hc0 : l0.length ≤ c0) (h : asset_distinct.f l0 = some r) :
    Calls Try.prog 66 #[.slice A0 l0.length c0] w fun e w' => ∃ v0_ : Value, e = .returned (v0_) ∧ Kd.R (Kd.int .i64) 3 w' w.heap.size (fun _ => True) v0_ r ∧ Below w.heap.size w w' := by
  unfold asset_distinct.f at h
  split at h
  case isFalse => cases h
  rename_i hl
  obtain rfl := Option.some.inj h
  clear h
  obtain ⟨W0, hW0⟩ : ∃ W0, w.alloc (.cells #[.slice A0 l0.length c0] 34) = W0 := ⟨_, rfl⟩
  have hs0 : W0.heap.size = w.heap.size + 1 := by rw [← hW0]; simp
  have hm : W0.cell? ⟨w.heap.size, 0, none⟩ = some (.slice A0 l0.length c0) := by rw [← hW0]; exact (cell_of_box_a (World.alloc_heap_new w _)).1
  have hB0 : Below w.heap.size w W0 := by rw [← hW0]; exact (Below.refl _ w).alloc (Nat.le_refl _) _
  have hr1 : Kd.C (Kd.int .i64) W0 A0 l0.length l0 := by rw [← hW0]; exact Kd.C_alloc hr0 _
  clear hr0
  go_enter Try.func66, Try.ntmps66
  go_wp2_with (first
    | ((with_reducible refine gate_callee (f := 83) rfl ?_); refine goesL_ (some 4) rfl rfl Try.func83 (by kernel_rfl) rfl #[.slice A0 l0.length c0] rfl (by (try simp only [List.map_toArray, List.map_cons, List.map_nil]); first | done | rfl | (simp only [List.length_drop, List.length_take]; rfl)) ?_; refine (Go.Proofs.YtgeplglggcoaiaaSeq.values_calls A0 l0.length c0 w).mono ?_; rintro e w5 ⟨rfl, rfl⟩; refine ⟨_, rfl, ?_⟩; rw [hW0])
    | ((with_reducible refine gate_callee (f := 82) rfl ?_); refine goesL_ (some 5) rfl rfl Try.func82 (by kernel_rfl) rfl #[.func (.func 101) #[] #[.pointer (some ⟨w.heap.size, 0, none⟩)]] rfl (by (try simp only [List.map_toArray, List.map_cons, List.map_nil]); first | done | rfl | (simp only [List.length_drop, List.length_take]; rfl)) ?_; refine (Go.Proofs.YtgeplglggcoaiaaSeq.sorted_calls w.heap.size A0 c0 l0 W0 (by omega) (by omega) hm hr1).mono ?_; rintro e w6 ⟨v, rfl, hrow, hB1⟩; refine ⟨_, rfl, ?_⟩)
    | ((with_reducible refine gate_callee (f := 63) rfl ?_); refine goesL_ (some 6) rfl rfl Try.func63 (by kernel_rfl) rfl #[v] rfl (by (try simp only [List.map_toArray, List.map_cons, List.map_nil]); first | done | rfl | (simp only [List.length_drop, List.length_take]; rfl)) ?_;
       refine (slices_Compact_int_int.calls (fun k_ => some k_ = v.ownBlock) v (l0.mergeSort (fun x y => decide (x ≤ y))) _ w w6 ?sideB ?sideO rfl).mono ?_;
       (case sideB => exact below_step hB0 hB1);
       (case sideO => exact Kd.R_lower (Kd.R_of_own (by rw [List.length_mergeSort]; exact hrow) (fun k hk => hk.symm)) (by omega));
       rintro e w7 ⟨v1, rfl, hR, hB2, _⟩; refine ⟨_, rfl, ?_⟩))
  go_ret
  exact ⟨v1, rfl, Kd.R_mono (ok' := fun k_ => True) hR (fun k_ hk_ => trivial), hB2⟩

end Go.Proofs.Ytgeplglggcoaiaa.Asset
