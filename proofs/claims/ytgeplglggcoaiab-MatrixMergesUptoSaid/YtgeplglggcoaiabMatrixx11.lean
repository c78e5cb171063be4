/- Lean functions and walks for Go functions of this seat, written by this claim's own program (wip/tools/xprint.py) over the kit's print. -/
import Derived.Test.YtgeplglggcoaiabMatrixx0
namespace Go.Proofs.Ytgeplglggcoaiab.Matrix
open Go.RowKit Go.Sort Go.Proofs.YtgeplglggcoaiabMakec Go.Proofs.YtgeplglggcoaiabW.PrintWords Go.Proofs.YtgeplglggcoaiabW.PrintLast Go.Proofs.YtgeplglggcoaiabW.PrintMore
attribute [local go_sem] max2_int min2_int max_two min_two max_three min_three max_four min_four   -- for this text's walks alone
set_option linter.unusedVariables false
set_option linter.unusedSimpArgs false

/-! ### matrix_sorted_int_int_59: function 59 -/
def matrix_sorted_int_int_59.f (l0 : List Int) (a1 : Int) : Option (List Int) := if l0 = [] then (if 0 ≤ a1 then (if a1.toNat < 17592186044416 then some [] else none) else none) else none
theorem matrix_sorted_int_int_59.info : (Try.prog.info? 3).map (fun i => (i.zero, i.size, i.bytes)) = some (some (.int .i64 0), 1, 8) := by kernel_rfl
theorem matrix_sorted_int_int_59.row {w0 w : World} {P0_ : Nat → Prop} {z : Value} (hz : z.cells.size = 1) (cs : List Value) (n c : Nat) (hc : cs.length = c) (hn : n ≤ 17592186044416) (hcn : c < n) (hB : Below w0.heap.size w0 w) :
  Kd.R (Kd.int .i64) 3 (w.drew.alloc (.cells (cs.toArray ++ Builtin.zeroCells z.cells (n - c) ++ Builtin.zeroCells z.cells (grownCap w n c 3 - n)) 3)) w0.heap.size (fun k_ => (P0_ k_ ∨ w.heap.size ≤ k_)) (.slice (some ⟨w.heap.size, 0, none⟩) 0 (grownCap w n c 3)) ([] : List Int) := by
 have hG := grownCap_ge w n c 3
 have hM := grownCap_le_maxLen w n c 3 (by unfold maxLen; omega)
 refine Kd.R_of_own (xs := ([] : List Int)) ⟨rfl, .inr ⟨w.heap.size, _, cs.toArray ++ Builtin.zeroCells z.cells (n - c) ++ Builtin.zeroCells z.cells (grownCap w n c 3 - n), rfl, hB.size, ?_, Nat.zero_le _, hM, ?_, rfl⟩⟩ (fun k hk => ?_)
 ·exact blk_new w.drew _
 ·simp only [Array.size_append, List.size_toArray, size_zeroCells, hz, hc]
  omega
 ·have : w.heap.size = k := by simpa [Value.ownBlock] using hk
  exact .inr (Nat.le_of_eq this)
theorem matrix_sorted_int_int_59.calls (P0_ : Nat → Prop) (u9000_ : Value) (l0 : List Int) (a1 : Int) (r : List Int) (w0 w : World) (hB : Below w0.heap.size w0 w) (ho0 : Kd.R (Kd.int .i64) 3 w w0.heap.size P0_ u9000_ l0) (h : matrix_sorted_int_int_59.f l0 a1 = some r) :
  Calls Try.prog 59 #[u9000_, .int .i64 a1] w fun e w' => ∃ v0_ : Value, e = .returned (v0_) ∧ Kd.R (Kd.int .i64) 3 w' w0.heap.size (fun k_ => (P0_ k_ ∨ w.heap.size ≤ k_)) v0_ r ∧ Below w0.heap.size w0 w' ∧ Kept w w' (fun k_ => P0_ k_) := by
 unfold matrix_sorted_int_int_59.f at h
 split at h
 case isFalse => cases h
 rename_i h0
 subst h0
 split at h
 case isFalse => cases h
 rename_i h1
 split at h
 case isFalse => cases h
 rename_i h2
 obtain rfl := Option.some.inj h
 obtain ⟨n, rfl⟩ := Int.eq_ofNat_of_zero_le h1
 simp only [Int.toNat_natCast] at h2
 obtain ⟨i0, hi, hzz⟩ := Option.map_eq_some_iff.1 matrix_sorted_int_int_59.info
 simp only [Prod.mk.injEq] at hzz
 obtain ⟨hz0, hz1, hz2⟩ := hzz
 have hzc : (Value.int .i64 0).cells.size = 1 := rfl
 have grew : ∀ (cs : List Value) (c : Nat) (base : Option Addr), cs.length = c → c < n → (base = none → c = 0) → (∀ a, base = some a → ∀ j v, cs[j]? = some v → w.cell? (a.add j) = some v) →
   Calls Try.prog 59 #[.slice base 0 c, .int .i64 n] w fun e w' => ∃ v0_ : Value, e = .returned (v0_) ∧ Kd.R (Kd.int .i64) 3 w' w0.heap.size (fun k_ => (P0_ k_ ∨ w.heap.size ≤ k_)) v0_ ([] : List Int) ∧ Below w0.heap.size w0 w' ∧ Kept w w' (fun k_ => P0_ k_) := by
  intro cs c base hcl hcn hnil hcs
  have cG := Any8.slices_Grow_grow Try.growM i0 _ hi hz0 (by omega) base 0 c n cs w (Nat.zero_le _) (by omega) (by rw [hz2]; omega) (by omega) (by rw [hz1]; omega) hnil hcs
  refine cG.mono ?_
  rintro e w' ⟨rfl, rfl⟩
  refine ⟨_, rfl, ?_, ?_, ?_⟩
  ·simp only [Nat.zero_add]
   exact matrix_sorted_int_int_59.row (P0_ := P0_) hzc cs n c hcl (by omega) hcn hB
  ·exact (below_drew1 hB).alloc (by simpa using hB.size) _
  ·exact Kept.alloc (Kept.drew (Kept.refl w P0_)) _
 rcases Go.Proofs.YtgeplglggcoaiabGiven.ints_open ho0 with ⟨rfl, _⟩ | ⟨g, cap, cur, rfl, hb, hh, h3, h4, h5, h6, hP, hlt⟩
 ·rcases Nat.eq_zero_or_pos n with rfl | hpos
  ·refine (Any8.slices_Grow_room Try.growM none 0 0 0 w (Nat.le_refl _) (by omega) (by omega) (by omega)).mono ?_
   rintro e w' ⟨rfl, rfl⟩
   exact ⟨_, rfl, Kd.R_nil _ _ _ _ _, hB, Kept.refl _ _⟩
  ·exact grew [] 0 none rfl hpos (fun _ => rfl) (fun a h => by cases h)
 ·rcases Nat.lt_or_ge cap n with hlt2 | hge
  ·refine grew cur.toList cap (some ⟨g, 0, none⟩) (by simpa using h5) hlt2 (fun h => by cases h) (fun a ha j v hj => ?_)
   obtain rfl := Option.some.inj ha
   have := blk_cell hh j
   rw [show (⟨g, 0, none⟩ : Addr).add j = ⟨g, j, none⟩ by rw [Addr.add_lit, Nat.zero_add]]
   rw [this]
   simpa using hj
  ·refine (Any8.slices_Grow_room Try.growM (some ⟨g, 0, none⟩) 0 cap n w (Nat.zero_le _) (by unfold maxLen at h4; omega) (by omega) (by omega)).mono ?_
   rintro e w' ⟨rfl, rfl⟩
   exact ⟨_, rfl, Kd.R_mono (ok' := fun k_ => (P0_ k_ ∨ w'.heap.size ≤ k_)) ho0 (fun k_ hk_ => .inl hk_), hB, Kept.refl _ _⟩

end Go.Proofs.Ytgeplglggcoaiab.Matrix
