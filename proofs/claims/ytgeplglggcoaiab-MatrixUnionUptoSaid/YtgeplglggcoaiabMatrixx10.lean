/- Lean functions and walks for Go functions of this seat, written by this claim's own program (wip/tools/xprint.py) over the kit's print. -/
import Derived.Test.YtgeplglggcoaiabMatrixx0
import Derived.Test.YtgeplglggcoaiabMatrixx2
import Derived.Test.YtgeplglggcoaiabMatrixx8
import Derived.Test.YtgeplglggcoaiabMatrixx9
namespace Go.Proofs.Ytgeplglggcoaiab.Matrix
open Go.RowKit Go.Sort Go.Proofs.YtgeplglggcoaiabMakec Go.Proofs.YtgeplglggcoaiabW.PrintWords Go.Proofs.YtgeplglggcoaiabW.PrintLast Go.Proofs.YtgeplglggcoaiabW.PrintMore
attribute [local go_sem] max2_int min2_int max_two min_two max_three min_three max_four min_four   -- for this text's walks alone
set_option linter.unusedVariables false
set_option linter.unusedSimpArgs false

/-! ### matrix_Select: function 16 -/
mutual
def matrix_Select.l0 : Nat → List Int → List Int → List Int → List Int → Int → Int → List Int → List Int → List (List Int) → List (List Int) → Option (List Int × List Int × (List (List Int)) × Int)
 | 0, _, _, _, _, _, _, _, _, _, _ => none
 | k + 1, x8, x10, x44, x46, x49, x50, x133000, x133001, x133002, x150002 => if x50 < x49 then (if 0 ≤ x50 then (if x50 < (x8.length : Int) then (if 0 ≤ (x10.length : Int) then (if ((x10.length : Int) : Int).toNat ≤ 35184372088832 then (matrix_Select.l1 k x8 x10 (rd x8 x50) (([] : List Int)) x44 x46 x49 x50 (x10.length : Int) 0 x133000 x133001 x133002 x150002) else (none)) else (none)) else (none)) else (none)) else (some (x44, x46, x150002, 0))
def matrix_Select.l1 : Nat → List Int → List Int → Int → List Int → List Int → List Int → Int → Int → Int → Int → List Int → List Int → List (List Int) → List (List Int) → Option (List Int × List Int × (List (List Int)) × Int)
 | 0, _, _, _, _, _, _, _, _, _, _, _, _, _, _ => none
 | k + 1, x8, x10, x13, x14, x44, x46, x49, x50, x58, x59, x133000, x133001, x133002, x150002 => if x59 < x58 then (if 0 ≤ x59 then (if x59 < (x10.length : Int) then (if 0 ≤ x13 then (if x13 < (x133002.length : Int) then (if 0 ≤ (rd x10 x59) then (if (rd x10 x59) < ((rd_L1 x133002 x13).length : Int) then (if x14.length < 17592186044416 then (matrix_Select.l1 k x8 x10 x13 (x14 ++ [rd (rd_L1 x133002 x13) (rd x10 x59)]) x44 x46 x49 x50 x58 (wrap64 (x59 + 1)) x133000 x133001 x133002 x150002) else (none)) else (none)) else (none)) else (none)) else (none)) else (none)) else (none)) else (if x150002.length < 5864062014805 then (matrix_Select.l0 k x8 x10 x44 x46 x49 (wrap64 (x50 + 1)) x133000 x133001 x133002 (x150002 ++ [x14])) else (none))
end
def matrix_Select.f (k : Nat) (l0_0 : List Int) (l0_1 : List Int) (l0_2 : List (List Int)) (l1 : List Int) (l2 : List Int) : Option (List Int × List Int × (List (List Int)) × Int) := (matrix_shape.f k l0_0 l0_1 l0_2).bind fun t134 => (if t134 = true then ((matrix_indexes.f k l0_0 l1).bind fun bt135 => (if bt135.2 = 0 then ((matrix_indexes.f k l0_1 l2).bind fun bt139 => (if bt139.2 = 0 then ((slices_Clone_int_int.f l1).bind fun t143 => ((slices_Clone_int_int.f l2).bind fun t146 => (matrix_Select.l0 k bt135.1 bt139.1 t143 t146 (bt135.1.length : Int) 0 l0_0 l0_1 l0_2 ([] : List (List Int))))) else (some (([] : List Int), ([] : List Int), ([] : List (List Int)), bt139.2)))) else (some (([] : List Int), ([] : List Int), ([] : List (List Int)), bt135.2)))) else (some (([] : List Int), ([] : List Int), ([] : List (List Int)), 1)))
theorem matrix_Select.mono_l : ∀ k, (∀ y0 y1 y2 y3 y4 y5 y6 y7 y8 y9, LeO (matrix_Select.l0 k y0 y1 y2 y3 y4 y5 y6 y7 y8 y9) (matrix_Select.l0 (k + 1) y0 y1 y2 y3 y4 y5 y6 y7 y8 y9)) ∧ (∀ y0 y1 y2 y3 y4 y5 y6 y7 y8 y9 y10 y11 y12 y13, LeO (matrix_Select.l1 k y0 y1 y2 y3 y4 y5 y6 y7 y8 y9 y10 y11 y12 y13) (matrix_Select.l1 (k + 1) y0 y1 y2 y3 y4 y5 y6 y7 y8 y9 y10 y11 y12 y13))
 | 0 => ⟨fun _ _ _ _ _ _ _ _ _ _ r h => by simp [matrix_Select.l0] at h, fun _ _ _ _ _ _ _ _ _ _ _ _ _ _ r h => by simp [matrix_Select.l1] at h⟩
 | k + 1 => by
  obtain ⟨ih0, ih1⟩ := matrix_Select.mono_l k
  refine ⟨?_, ?_⟩
  ·intro y0 y1 y2 y3 y4 y5 y6 y7 y8 y9
   unfold matrix_Select.l0
   repeat' first
   | (with_reducible exact ih0 _ _ _ _ _ _ _ _ _ _)
   | (with_reducible exact ih1 _ _ _ _ _ _ _ _ _ _ _ _ _ _)
   | (with_reducible exact matrix_indexes.mono _ _ _)
   | (with_reducible exact matrix_shape.mono _ _ _ _)
   | (with_reducible exact LeO.refl _)
   | (with_reducible exact LeO.none _)
   | (with_reducible refine LeO.ite ?_ ?_)
   | (with_reducible refine LeO.bind ?_ (fun _ => ?_))
   | exact ih0 _ _ _ _ _ _ _ _ _ _
   | exact ih1 _ _ _ _ _ _ _ _ _ _ _ _ _ _
   | exact matrix_indexes.mono _ _ _
   | exact matrix_shape.mono _ _ _ _
   | exact LeO.none _
   | refine LeO.ite ?_ ?_
   | refine LeO.bind ?_ (fun _ => ?_)
  ·intro y0 y1 y2 y3 y4 y5 y6 y7 y8 y9 y10 y11 y12 y13
   unfold matrix_Select.l1
   repeat' first
   | (with_reducible exact ih0 _ _ _ _ _ _ _ _ _ _)
   | (with_reducible exact ih1 _ _ _ _ _ _ _ _ _ _ _ _ _ _)
   | (with_reducible exact matrix_indexes.mono _ _ _)
   | (with_reducible exact matrix_shape.mono _ _ _ _)
   | (with_reducible exact LeO.refl _)
   | (with_reducible exact LeO.none _)
   | (with_reducible refine LeO.ite ?_ ?_)
   | (with_reducible refine LeO.bind ?_ (fun _ => ?_))
   | exact ih0 _ _ _ _ _ _ _ _ _ _
   | exact ih1 _ _ _ _ _ _ _ _ _ _ _ _ _ _
   | exact matrix_indexes.mono _ _ _
   | exact matrix_shape.mono _ _ _ _
   | exact LeO.none _
   | refine LeO.ite ?_ ?_
   | refine LeO.bind ?_ (fun _ => ?_)
theorem matrix_Select.mono : ∀ a0 a1 a2 a3 a4 k, LeO (matrix_Select.f k a0 a1 a2 a3 a4) (matrix_Select.f (k + 1) a0 a1 a2 a3 a4) := by
 intro a0 a1 a2 a3 a4 k
 obtain ⟨ih0, ih1⟩ := matrix_Select.mono_l k
 unfold matrix_Select.f
 repeat' first
   | (with_reducible exact ih0 _ _ _ _ _ _ _ _ _ _)
   | (with_reducible exact ih1 _ _ _ _ _ _ _ _ _ _ _ _ _ _)
   | (with_reducible exact matrix_indexes.mono _ _ _)
   | (with_reducible exact matrix_shape.mono _ _ _ _)
   | (with_reducible exact LeO.refl _)
   | (with_reducible exact LeO.none _)
   | (with_reducible refine LeO.ite ?_ ?_)
   | (with_reducible refine LeO.bind ?_ (fun _ => ?_))
   | exact ih0 _ _ _ _ _ _ _ _ _ _
   | exact ih1 _ _ _ _ _ _ _ _ _ _ _ _ _ _
   | exact matrix_indexes.mono _ _ _
   | exact matrix_shape.mono _ _ _ _
   | exact LeO.none _
   | refine LeO.ite ?_ ?_
   | refine LeO.bind ?_ (fun _ => ?_)
set_option maxHeartbeats 8000000 in
set_option maxRecDepth 100000 in
theorem matrix_Select.calls (k : Nat) (A0_0 : Option Addr) (c0_0 : Nat) (l0_0 : List Int) (A0_1 : Option Addr) (c0_1 : Nat) (l0_1 : List Int) (A0_2 : Option Addr) (c0_2 : Nat) (l0_2 : List (List Int)) (A1 : Option Addr) (c1 : Nat) (l1 : List Int) (A2 : Option Addr) (c2 : Nat) (l2 : List Int) (r1 : List Int) (r2 : List Int) (r3 : List (List Int)) (r4 : Int) (w : World) (hr0_0 : Kd.C (Kd.int .i64) w A0_0 l0_0.length l0_0) (hc0_0 : l0_0.length ≤ c0_0) (hr0_1 : Kd.C (Kd.int .i64) w A0_1 l0_1.length l0_1) (hc0_1 : l0_1.length ≤ c0_1) (hr0_2 : Kd.C (Kd.slice 3 (Kd.int .i64)) w A0_2 l0_2.length l0_2) (hc0_2 : l0_2.length ≤ c0_2) (hr1 : Kd.C (Kd.int .i64) w A1 l1.length l1) (hc1 : l1.length ≤ c1) (hr2 : Kd.C (Kd.int .i64) w A2 l2.length l2) (hc2 : l2.length ≤ c2) (h : matrix_Select.f k l0_0 l0_1 l0_2 l1 l2 = some (r1, r2, r3, r4)) :
  Calls Try.prog 16 #[.agg #[.slice A0_0 l0_0.length c0_0, .slice A0_1 l0_1.length c0_1, .slice A0_2 l0_2.length c0_2], .slice A1 l1.length c1, .slice A2 l2.length c2] w fun e w' => ∃ v0_ v1_ v2_ : Value, e = .returned (.tuple #[.agg #[v0_, v1_, v2_], .int .i64 r4]) ∧ Kd.R (Kd.int .i64) 3 w' w.heap.size (fun k_ => some k_ ≠ (v1_ : Value).ownBlock) v0_ r1 ∧ Kd.R (Kd.int .i64) 3 w' w.heap.size (fun k_ => some k_ ≠ (v0_ : Value).ownBlock) v1_ r2 ∧ Kd.S (Kd.slice 3 (Kd.int .i64)) 36 w' w.heap.size (fun k_ => some k_ ≠ (v0_ : Value).ownBlock ∧ some k_ ≠ (v1_ : Value).ownBlock) v2_ r3 ∧ Below w.heap.size w w' := by
 have hu39 := Try.underlying39
 have HR0_0 := Am hr0_0
 have HC0_0 := Am hc0_0
 clear hr0_0 hc0_0
 have HR0_1 := Am hr0_1
 have HC0_1 := Am hc0_1
 clear hr0_1 hc0_1
 have HR0_2 := Am hr0_2
 have HC0_2 := Am hc0_2
 clear hr0_2 hc0_2
 have HR1 := Am hr1
 have HC1 := Am hc1
 clear hr1 hc1
 have HR2 := Am hr2
 have HC2 := Am hc2
 clear hr2 hc2
 have HB := Am (Below.refl w.heap.size w)
 have H : ((matrix_shape.f k l0_0 l0_1 l0_2).bind fun t134 => (if t134 = true then ((matrix_indexes.f k l0_0 l1).bind fun bt135 => (if bt135.2 = 0 then ((matrix_indexes.f k l0_1 l2).bind fun bt139 => (if bt139.2 = 0 then ((slices_Clone_int_int.f l1).bind fun t143 => ((slices_Clone_int_int.f l2).bind fun t146 => (matrix_Select.l0 k bt135.1 bt139.1 t143 t146 (bt135.1.length : Int) 0 l0_0 l0_1 l0_2 ([] : List (List Int))))) else (some (([] : List Int), ([] : List Int), ([] : List (List Int)), bt139.2)))) else (some (([] : List Int), ([] : List Int), ([] : List (List Int)), bt135.2)))) else (some (([] : List Int), ([] : List Int), ([] : List (List Int)), 1)))) = some (r1, r2, r3, r4) := h
 clear h
 replace H := Option.bind_eq_some_iff.mp H
 obtain ⟨t134, A40, H⟩ := H
 replace H : (if t134 = true then ((matrix_indexes.f k l0_0 l1).bind fun bt135 => (if bt135.2 = 0 then ((matrix_indexes.f k l0_1 l2).bind fun bt139 => (if bt139.2 = 0 then ((slices_Clone_int_int.f l1).bind fun t143 => ((slices_Clone_int_int.f l2).bind fun t146 => (matrix_Select.l0 k bt135.1 bt139.1 t143 t146 (bt135.1.length : Int) 0 l0_0 l0_1 l0_2 ([] : List (List Int))))) else (some (([] : List Int), ([] : List Int), ([] : List (List Int)), bt139.2)))) else (some (([] : List Int), ([] : List Int), ([] : List (List Int)), bt135.2)))) else (some (([] : List Int), ([] : List Int), ([] : List (List Int)), 1))) = some (r1, r2, r3, r4) := H
 have A4 := Am A40
 clear A40
 by_cases c5 : t134 = true
 ·subst c5
  have H1 : ((matrix_indexes.f k l0_0 l1).bind fun bt135 => (if bt135.2 = 0 then ((matrix_indexes.f k l0_1 l2).bind fun bt139 => (if bt139.2 = 0 then ((slices_Clone_int_int.f l1).bind fun t143 => ((slices_Clone_int_int.f l2).bind fun t146 => (matrix_Select.l0 k bt135.1 bt139.1 t143 t146 (bt135.1.length : Int) 0 l0_0 l0_1 l0_2 ([] : List (List Int))))) else (some (([] : List Int), ([] : List Int), ([] : List (List Int)), bt139.2)))) else (some (([] : List Int), ([] : List Int), ([] : List (List Int)), bt135.2)))) = some (r1, r2, r3, r4) := by rw [if_pos rfl] at H; exact H
  clear H
  have H := H1
  clear H1
  replace H := Option.bind_eq_some_iff.mp H
  obtain ⟨⟨t135, t136⟩, A60, H⟩ := H
  replace H : (if t136 = 0 then ((matrix_indexes.f k l0_1 l2).bind fun bt139 => (if bt139.2 = 0 then ((slices_Clone_int_int.f l1).bind fun t143 => ((slices_Clone_int_int.f l2).bind fun t146 => (matrix_Select.l0 k t135 bt139.1 t143 t146 (t135.length : Int) 0 l0_0 l0_1 l0_2 ([] : List (List Int))))) else (some (([] : List Int), ([] : List Int), ([] : List (List Int)), bt139.2)))) else (some (([] : List Int), ([] : List Int), ([] : List (List Int)), t136))) = some (r1, r2, r3, r4) := H
  have A6 := Am A60
  clear A60
  by_cases c7 : t136 = 0
  ·rw [if_pos c7] at H
   have c7b0 : (t136 == 0) = true := beq_iff_eq.mpr c7
   have c7b1 : (t136 != 0) = false := bne_eq_false_iff_eq.mpr c7
   clear c7
   replace H := Option.bind_eq_some_iff.mp H
   obtain ⟨⟨t139, t140⟩, A80, H⟩ := H
   replace H : (if t140 = 0 then ((slices_Clone_int_int.f l1).bind fun t143 => ((slices_Clone_int_int.f l2).bind fun t146 => (matrix_Select.l0 k t135 t139 t143 t146 (t135.length : Int) 0 l0_0 l0_1 l0_2 ([] : List (List Int))))) else (some (([] : List Int), ([] : List Int), ([] : List (List Int)), t140))) = some (r1, r2, r3, r4) := H
   have A8 := Am A80
   clear A80
   by_cases c9 : t140 = 0
   ·rw [if_pos c9] at H
    have c9b0 : (t140 == 0) = true := beq_iff_eq.mpr c9
    have c9b1 : (t140 != 0) = false := bne_eq_false_iff_eq.mpr c9
    clear c9
    replace H := Option.bind_eq_some_iff.mp H
    obtain ⟨t143, A100, H⟩ := H
    replace H : ((slices_Clone_int_int.f l2).bind fun t146 => (matrix_Select.l0 k t135 t139 t143 t146 (t135.length : Int) 0 l0_0 l0_1 l0_2 ([] : List (List Int)))) = some (r1, r2, r3, r4) := H
    have A10 := Am A100
    clear A100
    replace H := Option.bind_eq_some_iff.mp H
    obtain ⟨t146, A110, H⟩ := H
    replace H : (matrix_Select.l0 k t135 t139 t143 t146 (t135.length : Int) 0 l0_0 l0_1 l0_2 ([] : List (List Int))) = some (r1, r2, r3, r4) := H
    have A11 := Am A110
    clear A110
    have H' := Am H
    clear H
    go_enter Try.func16, Try.ntmps16
    go_wp2_with (first | ((with_reducible refine gate_dst (N := 3) rfl ?_); refine box_event ?hg (N := 3) ?hd (cs := #[.slice A0_0 l0_0.length c0_0, .slice A0_1 l0_1.length c0_1, .slice A0_2 l0_2.length c0_2]) (t := 39) ?hr ?_; (case hd => rfl); (case hg => rfl); (case hr => first | (go_simp; done) | (go_simp; rfl)); intro gb132 hg w12 hbox hb; have n0_ := Am (below_step (Bl HB) hb); have n1_ := Am (hbox); have n2_ := Am ((by rw [hg]; exact (below_size (Bl HB)) : w.heap.size ≤ gb132)); have n3_ := Am ((by rw [hg]; exact (below_size (Bl HB)) : w.heap.size ≤ gb132)); clear HB; have HB := n0_; have BK132 := n1_; have GW132 := n2_; have GE132 := n3_; clear n0_ n1_ n2_ n3_; clear hb hbox hg) | ((with_reducible refine gate_dst (N := 6) rfl ?_); refine box_event ?hg (N := 6) ?hd (cs := #[.slice none 0 0, .slice none 0 0, .slice none 0 0]) (t := 39) ?hr ?_; (case hd => rfl); (case hg => rfl); (case hr => first | (go_simp; done) | (go_simp; rfl)); intro gb133 hg w13 hbox hb; have n0_ := Am (blk_below (Kl BK132) hb); have n1_ := Am (below_step (by repeat first | exact Bl HB | refine Bp (below_set ?_ GE132.out)) hb); have n2_ := Am (hbox); have n3_ := Am ((by rw [hg]; exact (below_size (by repeat first | exact Bl HB | refine Bp (below_set ?_ GE132.out))) : w.heap.size ≤ gb133)); have n4_ := Am ((by rw [hg]; exact (below_size (by repeat first | exact Bl HB | refine Bp (below_set ?_ GE132.out))) : w.heap.size ≤ gb133)); have n5_ := Am ((by rw [hg]; exact Nat.ne_of_lt (blk_lt (Kl BK132)) : gb132 ≠ gb133)); have n6_ := Am ((by rw [hg]; exact Nat.ne_of_gt (blk_lt (Kl BK132)) : gb133 ≠ gb132)); clear BK132 HB; have BK132 := n0_; have HB := n1_; have BK133 := n2_; have GW133 := n3_; have GE133 := n4_; have NB132_133 := n5_; have NB133_132 := n6_; clear n0_ n1_ n2_ n3_ n4_ n5_ n6_; clear hb hbox hg; have hnb14 := NB132_133.out; have hnc14 := NB133_132.out; have hcz15_0 : w13.cell? ⟨gb132, 0, none⟩ = some (.slice A0_0 l0_0.length c0_0) := (blk_cell BK132.out 0).trans rfl; have hcz15_1 : w13.cell? ⟨gb132, 1, none⟩ = some (.slice A0_1 l0_1.length c0_1) := (blk_cell BK132.out 1).trans rfl; have hcz15_2 : w13.cell? ⟨gb132, 2, none⟩ = some (.slice A0_2 l0_2.length c0_2) := (blk_cell BK132.out 2).trans rfl; have hfz15_0 := blk_frozen BK132.out 0; have hfz15_1 := blk_frozen BK132.out 1; have hfz15_2 := blk_frozen BK132.out 2) | ((with_reducible refine gate_callee (f := 33) rfl ?_); refine goesL_ (some 18) rfl rfl Try.func33 (by kernel_rfl) rfl #[.agg #[.slice A0_0 l0_0.length c0_0, .slice A0_1 l0_1.length c0_1, .slice A0_2 l0_2.length c0_2]] rfl (by (try simp only [List.map_toArray, List.map_cons, List.map_nil]); first | done | rfl | (simp only [List.length_drop, List.length_take]; rfl)) ?_; (with_reducible refine (matrix_shape.calls k _ _ l0_0 _ _ l0_1 _ _ l0_2 true _ ?side1 ?side2 ?side3 ?side4 ?side5 ?side6 A4.out).mono ?_); (case side1 => repeat (first | exact (Kd.C_below HR0_0.out HB.out) | (with_reducible refine Kd.C_alloc ?_ _) | (with_reducible refine Kd.C_drewN ?_ _) | (with_reducible refine Kd.C_drew ?_))); (case side2 => exact HC0_0.out); (case side3 => repeat (first | exact (Kd.C_below HR0_1.out HB.out) | (with_reducible refine Kd.C_alloc ?_ _) | (with_reducible refine Kd.C_drewN ?_ _) | (with_reducible refine Kd.C_drew ?_))); (case side4 => exact HC0_1.out); (case side5 => repeat (first | exact (Kd.C_below HR0_2.out HB.out) | (with_reducible refine Kd.C_alloc ?_ _) | (with_reducible refine Kd.C_drewN ?_ _) | (with_reducible refine Kd.C_drew ?_))); (case side6 => exact HC0_2.out); rintro e w16 ⟨rfl, hb⟩; refine ⟨_, rfl, ?_⟩; have n0_ := Am (blk_below (Kl BK132) hb); have n1_ := Am (blk_below (Kl BK133) hb); have n2_ := Am (below_step (by repeat first | exact Bl HB | refine Bp (below_set ?_ GE132.out) | refine Bp (below_set ?_ GE133.out)) hb); clear BK132 BK133 HB; have BK132 := n0_; have BK133 := n1_; have HB := n2_; clear n0_ n1_ n2_; (try clear hb); (try clear hb2); (try clear hk); (try clear hi); have hcz17_0 : w16.cell? ⟨gb132, 0, none⟩ = some (.slice A0_0 l0_0.length c0_0) := (blk_cell BK132.out 0).trans rfl; have hcz17_1 : w16.cell? ⟨gb132, 1, none⟩ = some (.slice A0_1 l0_1.length c0_1) := (blk_cell BK132.out 1).trans rfl; have hcz17_2 : w16.cell? ⟨gb132, 2, none⟩ = some (.slice A0_2 l0_2.length c0_2) := (blk_cell BK132.out 2).trans rfl; have hfz17_0 := blk_frozen BK132.out 0; have hfz17_1 := blk_frozen BK132.out 1; have hfz17_2 := blk_frozen BK132.out 2) | ((with_reducible refine gate_callee (f := 37) rfl ?_); refine goesL_ (some 25) rfl rfl Try.func37 (by kernel_rfl) rfl #[.slice A0_0 l0_0.length c0_0, .slice A1 l1.length c1] rfl (by (try simp only [List.map_toArray, List.map_cons, List.map_nil]); first | done | rfl | (simp only [List.length_drop, List.length_take]; rfl)) ?_; (with_reducible refine (matrix_indexes.calls k _ _ l0_0 _ _ l1 t135 t136 _ ?side1 ?side2 ?side3 ?side4 A6.out).mono ?_); (case side1 => repeat (first | exact (Kd.C_below HR0_0.out HB.out) | (with_reducible refine Kd.C_alloc ?_ _) | (with_reducible refine Kd.C_drewN ?_ _) | (with_reducible refine Kd.C_drew ?_))); (case side2 => exact HC0_0.out); (case side3 => repeat (first | exact (Kd.C_below HR1.out HB.out) | (with_reducible refine Kd.C_alloc ?_ _) | (with_reducible refine Kd.C_drewN ?_ _) | (with_reducible refine Kd.C_drew ?_))); (case side4 => exact HC1.out); rintro e w18 ⟨v137, rfl, ho0, hb⟩; refine ⟨_, rfl, ?_⟩; have n0_ := Am (Kd.R_lower ho0 (below_size (by repeat first | exact Bl HB | refine Bp (below_set ?_ GE132.out) | refine Bp (below_set ?_ GE133.out)))); have n1_ := Am (blk_below (Kl BK132) hb); have n2_ := Am (blk_below (Kl BK133) hb); have n3_ := Am (below_step (by repeat first | exact Bl HB | refine Bp (below_set ?_ GE132.out) | refine Bp (below_set ?_ GE133.out)) hb); clear BK132 BK133 HB; have HO138 := n0_; have BK132 := n1_; have BK133 := n2_; have HB := n3_; clear n0_ n1_ n2_ n3_; (try clear hb); (try clear hb2); (try clear hk); (try clear hi); (try clear ho0); have hcz19_0 : w18.cell? ⟨gb132, 0, none⟩ = some (.slice A0_0 l0_0.length c0_0) := (blk_cell BK132.out 0).trans rfl; have hcz19_1 : w18.cell? ⟨gb132, 1, none⟩ = some (.slice A0_1 l0_1.length c0_1) := (blk_cell BK132.out 1).trans rfl; have hcz19_2 : w18.cell? ⟨gb132, 2, none⟩ = some (.slice A0_2 l0_2.length c0_2) := (blk_cell BK132.out 2).trans rfl; have hfz19_0 := blk_frozen BK132.out 0; have hfz19_1 := blk_frozen BK132.out 1; have hfz19_2 := blk_frozen BK132.out 2) | ((with_reducible refine gate_callee (f := 37) rfl ?_); refine goesL_ (some 36) rfl rfl Try.func37 (by kernel_rfl) rfl #[.slice A0_1 l0_1.length c0_1, .slice A2 l2.length c2] rfl (by (try simp only [List.map_toArray, List.map_cons, List.map_nil]); first | done | rfl | (simp only [List.length_drop, List.length_take]; rfl)) ?_; (with_reducible refine (matrix_indexes.calls k _ _ l0_1 _ _ l2 t139 t140 _ ?side1 ?side2 ?side3 ?side4 A8.out).mono ?_); (case side1 => repeat (first | exact (Kd.C_below HR0_1.out HB.out) | (with_reducible refine Kd.C_alloc ?_ _) | (with_reducible refine Kd.C_drewN ?_ _) | (with_reducible refine Kd.C_drew ?_))); (case side2 => exact HC0_1.out); (case side3 => repeat (first | exact (Kd.C_below HR2.out HB.out) | (with_reducible refine Kd.C_alloc ?_ _) | (with_reducible refine Kd.C_drewN ?_ _) | (with_reducible refine Kd.C_drew ?_))); (case side4 => exact HC2.out); rintro e w20 ⟨v141, rfl, ho0, hb⟩; refine ⟨_, rfl, ?_⟩; have n0_ := Am (Kd.R_elder' (Rl HO138) (Kd.R_base ho0) hb); have n1_ := Am (Kd.R_lower (Kd.R_new' ho0 (Rb HO138)) (below_size (by repeat first | exact Bl HB | refine Bp (below_set ?_ GE132.out) | refine Bp (below_set ?_ GE133.out)))); have n2_ := Am (blk_below (Kl BK132) hb); have n3_ := Am (blk_below (Kl BK133) hb); have n4_ := Am (below_step (by repeat first | exact Bl HB | refine Bp (below_set ?_ GE132.out) | refine Bp (below_set ?_ GE133.out)) hb); clear HO138 BK132 BK133 HB; have HO138 := n0_; have HO142 := n1_; have BK132 := n2_; have BK133 := n3_; have HB := n4_; clear n0_ n1_ n2_ n3_ n4_; (try clear hb); (try clear hb2); (try clear hk); (try clear hi); (try clear ho0)) | ((with_reducible refine gate_callee (f := 38) rfl ?_); refine goesL_ (some 44) rfl rfl Try.func38 (by kernel_rfl) rfl #[.slice A1 l1.length c1] rfl (by (try simp only [List.map_toArray, List.map_cons, List.map_nil]); first | done | rfl | (simp only [List.length_drop, List.length_take]; rfl)) ?_; (with_reducible refine (slices_Clone_int_int.calls _ _ l1 t143 _ ?side1 ?side2 A10.out).mono ?_); (case side1 => repeat (first | exact (Kd.C_below HR1.out HB.out) | (with_reducible refine Kd.C_alloc ?_ _) | (with_reducible refine Kd.C_drewN ?_ _) | (with_reducible refine Kd.C_drew ?_))); (case side2 => exact HC1.out); rintro e w21 ⟨v144, rfl, ho0, hb⟩; refine ⟨_, rfl, ?_⟩; have n0_ := Am (Kd.R_elder' (Rl HO138) (Kd.R_base ho0) hb); have n1_ := Am (Kd.R_elder' (Rl HO142) (Kd.R_base ho0) hb); have n2_ := Am (Kd.R_lower (Kd.R_new' (Kd.R_new' ho0 (Rb HO138)) (Rb HO142)) (below_size (by repeat first | exact Bl HB | refine Bp (below_set ?_ GE132.out) | refine Bp (below_set ?_ GE133.out)))); have n3_ := Am (blk_below (Kl BK132) hb); have n4_ := Am (blk_below (Kl BK133) hb); have n5_ := Am (below_step (by repeat first | exact Bl HB | refine Bp (below_set ?_ GE132.out) | refine Bp (below_set ?_ GE133.out)) hb); clear HO138 HO142 BK132 BK133 HB; have HO138 := n0_; have HO142 := n1_; have HO145 := n2_; have BK132 := n3_; have BK133 := n4_; have HB := n5_; clear n0_ n1_ n2_ n3_ n4_ n5_; (try clear hb); (try clear hb2); (try clear hk); (try clear hi); (try clear ho0)) | ((with_reducible refine gate_callee (f := 38) rfl ?_); refine goesL_ (some 46) rfl rfl Try.func38 (by kernel_rfl) rfl #[.slice A2 l2.length c2] rfl (by (try simp only [List.map_toArray, List.map_cons, List.map_nil]); first | done | rfl | (simp only [List.length_drop, List.length_take]; rfl)) ?_; (with_reducible refine (slices_Clone_int_int.calls _ _ l2 t146 _ ?side1 ?side2 A11.out).mono ?_); (case side1 => repeat (first | exact (Kd.C_below HR2.out HB.out) | (with_reducible refine Kd.C_alloc ?_ _) | (with_reducible refine Kd.C_drewN ?_ _) | (with_reducible refine Kd.C_drew ?_))); (case side2 => exact HC2.out); rintro e w22 ⟨v147, rfl, ho0, hb⟩; refine ⟨_, rfl, ?_⟩; have n0_ := Am (Kd.R_elder' (Rl HO138) (Kd.R_base ho0) hb); have n1_ := Am (Kd.R_elder' (Rl HO142) (Kd.R_base ho0) hb); have n2_ := Am (Kd.R_elder' (Rl HO145) (Kd.R_base ho0) hb); have n3_ := Am (Kd.R_lower (Kd.R_new' (Kd.R_new' (Kd.R_new' ho0 (Rb HO138)) (Rb HO142)) (Rb HO145)) (below_size (by repeat first | exact Bl HB | refine Bp (below_set ?_ GE132.out) | refine Bp (below_set ?_ GE133.out)))); have n4_ := Am (blk_below (Kl BK132) hb); have n5_ := Am (blk_below (Kl BK133) hb); have n6_ := Am (below_step (by repeat first | exact Bl HB | refine Bp (below_set ?_ GE132.out) | refine Bp (below_set ?_ GE133.out)) hb); clear HO138 HO142 HO145 BK132 BK133 HB; have HO138 := n0_; have HO142 := n1_; have HO145 := n2_; have HO148 := n3_; have BK132 := n4_; have BK133 := n5_; have HB := n6_; clear n0_ n1_ n2_ n3_ n4_ n5_ n6_; (try clear hb); (try clear hb2); (try clear hk); (try clear hi); (try clear ho0); obtain ⟨Ao23, co23, eo23⟩ := Kd.R_slice HO148.out; subst eo23; obtain ⟨Ao24, co24, eo24⟩ := Kd.R_slice HO145.out; subst eo24) | ((with_reducible refine gate_dst (N := 11) rfl ?_); refine box_event ?hg (N := 11) ?hd (cs := #[.slice none 0 0, .slice none 0 0, .slice none 0 0]) (t := 39) ?hr ?_; (case hd => rfl); (case hg => rfl); (case hr => first | (go_simp; done) | (go_simp; rfl)); intro gb149 hg w25 hbox hb; have n0_ := Am (Kd.R_below (Rl HO138) hb); have n1_ := Am (Kd.R_below (Rl HO142) hb); have n2_ := Am (Kd.R_below (Rl HO145) hb); have n3_ := Am (Kd.R_below (Rl HO148) hb); have n4_ := Am (blk_below (Kl BK132) hb); have n5_ := Am (blk_below (Kl BK133) hb); have n6_ := Am (below_step (by repeat first | exact Bl HB | refine Bp (below_set ?_ GE132.out) | refine Bp (below_set ?_ GE133.out)) hb); have n7_ := Am (hbox); have n8_ := Am ((by rw [hg]; exact (below_size (by repeat first | exact Bl HB | refine Bp (below_set ?_ GE132.out) | refine Bp (below_set ?_ GE133.out))) : w.heap.size ≤ gb149)); have n9_ := Am ((by rw [hg]; exact (below_size (by repeat first | exact Bl HB | refine Bp (below_set ?_ GE132.out) | refine Bp (below_set ?_ GE133.out))) : w.heap.size ≤ gb149)); have n10_ := Am ((by rw [hg]; exact Nat.ne_of_lt (blk_lt (Kl BK132)) : gb132 ≠ gb149)); have n11_ := Am ((by rw [hg]; exact Nat.ne_of_gt (blk_lt (Kl BK132)) : gb149 ≠ gb132)); have n12_ := Am ((by rw [hg]; exact Nat.ne_of_lt (blk_lt (Kl BK133)) : gb133 ≠ gb149)); have n13_ := Am ((by rw [hg]; exact Nat.ne_of_gt (blk_lt (Kl BK133)) : gb149 ≠ gb133)); clear HO138 HO142 HO145 HO148 BK132 BK133 HB; have HO138 := n0_; have HO142 := n1_; have HO145 := n2_; have HO148 := n3_; have BK132 := n4_; have BK133 := n5_; have HB := n6_; have BK149 := n7_; have GW149 := n8_; have GE149 := n9_; have NB132_149 := n10_; have NB149_132 := n11_; have NB133_149 := n12_; have NB149_133 := n13_; clear n0_ n1_ n2_ n3_ n4_ n5_ n6_ n7_ n8_ n9_ n10_ n11_ n12_ n13_; clear hb hbox hg; have hnb26 := NB149_132.out; have hnc26 := NB132_149.out; have hnb27 := NB149_133.out; have hnc27 := NB133_149.out; have hcz28_0 : w25.cell? ⟨gb149, 0, none⟩ = some (.slice none 0 0) := (blk_cell BK149.out 0).trans rfl; have hcz28_1 : w25.cell? ⟨gb149, 1, none⟩ = some (.slice none 0 0) := (blk_cell BK149.out 1).trans rfl; have hcz28_2 : w25.cell? ⟨gb149, 2, none⟩ = some (.slice none 0 0) := (blk_cell BK149.out 2).trans rfl; have hfz28_0 := blk_frozen BK149.out 0; have hfz28_1 := blk_frozen BK149.out 1; have hfz28_2 := blk_frozen BK149.out 2; obtain ⟨Ao29, co29, eo29⟩ := Kd.R_slice HO138.out; subst eo29))
    go_loopg [50] k (fun kq v50 w' => ∃ (x50_1 : Int) (x150002_1 : List (List Int)) (u150002 : Value), v50 = .int .i64 x50_1 ∧ Aside0 (matrix_Select.l0 kq t135 t139 t143 t146 (t135.length : Int) x50_1 l0_0 l0_1 l0_2 x150002_1 = some (r1, r2, r3, r4)) ∧ Aside0 (kq ≤ k) ∧ Aside0 (Kd.R (Kd.int .i64) 3 w' w.heap.size (fun k_ => some k_ ≠ (v141 : Value).ownBlock ∧ some k_ ≠ ((.slice Ao24 t143.length co24) : Value).ownBlock ∧ some k_ ≠ ((.slice Ao23 t146.length co23) : Value).ownBlock) (.slice Ao29 t135.length co29) t135) ∧ Aside0 (Kd.R (Kd.int .i64) 3 w' w.heap.size (fun k_ => some k_ ≠ ((.slice Ao29 t135.length co29) : Value).ownBlock ∧ some k_ ≠ ((.slice Ao24 t143.length co24) : Value).ownBlock ∧ some k_ ≠ ((.slice Ao23 t146.length co23) : Value).ownBlock) v141 t139) ∧ Aside0 (Kd.R (Kd.int .i64) 3 w' w.heap.size (fun k_ => some k_ ≠ ((.slice Ao29 t135.length co29) : Value).ownBlock ∧ some k_ ≠ (v141 : Value).ownBlock ∧ some k_ ≠ ((.slice Ao23 t146.length co23) : Value).ownBlock) (.slice Ao24 t143.length co24) t143) ∧ Aside0 (Kd.R (Kd.int .i64) 3 w' w.heap.size (fun k_ => some k_ ≠ ((.slice Ao29 t135.length co29) : Value).ownBlock ∧ some k_ ≠ (v141 : Value).ownBlock ∧ some k_ ≠ ((.slice Ao24 t143.length co24) : Value).ownBlock) (.slice Ao23 t146.length co23) t146) ∧ Aside0 (Kd.S (Kd.slice 3 (Kd.int .i64)) 36 w' w.heap.size (fun k_ => some k_ ≠ ((.slice Ao29 t135.length co29) : Value).ownBlock ∧ some k_ ≠ (v141 : Value).ownBlock ∧ some k_ ≠ ((.slice Ao24 t143.length co24) : Value).ownBlock ∧ some k_ ≠ ((.slice Ao23 t146.length co23) : Value).ownBlock) u150002 x150002_1) ∧ Aside0 (w'.heap[gb132]? = some (.cells #[(.slice A0_0 l0_0.length c0_0), (.slice A0_1 l0_1.length c0_1), (.slice A0_2 l0_2.length c0_2)] 39 (0, 0))) ∧ Aside0 (w'.heap[gb133]? = some (.cells #[(.slice none 0 0), (.slice none 0 0), (.slice none 0 0)] 39 (0, 0))) ∧ Aside0 (w'.heap[gb149]? = some (.cells #[(.slice Ao24 t143.length co24), (.slice Ao23 t146.length co23), u150002] 39 (0, 0))) ∧ Aside0 (Below w.heap.size w w'))
    case atStart => exact ⟨(0), (([] : List (List Int))), (.slice none 0 0), (by first | rfl | (simp; done) | (simp [*]; done)), H', ⟨Nat.le_refl _⟩, ⟨Rm (Kd.R_mono (Kd.R_far (p := ⟨gb149, 2, none⟩) (Kd.R_far (p := ⟨gb149, 1, none⟩) (Kd.R_far (p := ⟨gb149, 0, none⟩) (Kd.R_types HO138.out BK149.out (by decide)) (fun _ hk => hk.2) (.slice Ao24 t143.length co24)) (fun _ hk => hk.2) (.slice Ao23 t146.length co23)) (fun _ hk => hk.2) (.slice none 0 0)) (fun _ hk => ⟨hk.1.1.1.2, ⟨hk.1.1.2, hk.1.2⟩⟩))⟩, ⟨Rm (Kd.R_mono (Kd.R_far (p := ⟨gb149, 2, none⟩) (Kd.R_far (p := ⟨gb149, 1, none⟩) (Kd.R_far (p := ⟨gb149, 0, none⟩) (Kd.R_types HO142.out BK149.out (by decide)) (fun _ hk => hk.2) (.slice Ao24 t143.length co24)) (fun _ hk => hk.2) (.slice Ao23 t146.length co23)) (fun _ hk => hk.2) (.slice none 0 0)) (fun _ hk => ⟨hk.1.1.1.2, ⟨hk.1.1.2, hk.1.2⟩⟩))⟩, ⟨Rm (Kd.R_mono (Kd.R_far (p := ⟨gb149, 2, none⟩) (Kd.R_far (p := ⟨gb149, 1, none⟩) (Kd.R_far (p := ⟨gb149, 0, none⟩) (Kd.R_types HO145.out BK149.out (by decide)) (fun _ hk => hk.2) (.slice Ao24 t143.length co24)) (fun _ hk => hk.2) (.slice Ao23 t146.length co23)) (fun _ hk => hk.2) (.slice none 0 0)) (fun _ hk => ⟨hk.1.1.1.2, ⟨hk.1.1.2, hk.1.2⟩⟩))⟩, ⟨Rm (Kd.R_mono (Kd.R_far (p := ⟨gb149, 2, none⟩) (Kd.R_far (p := ⟨gb149, 1, none⟩) (Kd.R_far (p := ⟨gb149, 0, none⟩) (Kd.R_types HO148.out BK149.out (by decide)) (fun _ hk => hk.2) (.slice Ao24 t143.length co24)) (fun _ hk => hk.2) (.slice Ao23 t146.length co23)) (fun _ hk => hk.2) (.slice none 0 0)) (fun _ hk => ⟨hk.1.1.1.2, ⟨hk.1.1.2, hk.1.2⟩⟩))⟩, ⟨by first | exact Kd.S_nil _ _ _ _ _ | exact Kd.N_nil _ _ _ _ _ | exact Kd.V_nil _ _ _ _ _ | exact Kd.Q_nil _ _ _ _ _ | exact Kd.R_nil _ _ _ _ _⟩, ⟨by refine Kp ?_; refine blk_far ?_ NB132_149.out _; refine Kp ?_; refine blk_far ?_ NB132_149.out _; refine Kp ?_; refine blk_far ?_ NB132_149.out _; refine Kp ?_; exact BK132.out⟩, ⟨by refine Kp ?_; refine blk_far ?_ NB133_149.out _; refine Kp ?_; refine blk_far ?_ NB133_149.out _; refine Kp ?_; refine blk_far ?_ NB133_149.out _; refine Kp ?_; exact BK133.out⟩, ⟨by refine Kp ?_; refine blk_put (cs := #[.slice Ao24 t143.length co24, .slice Ao23 t146.length co23, .slice none 0 0]) ?_ 2 _ rfl; refine Kp ?_; refine blk_put (cs := #[.slice Ao24 t143.length co24, .slice none 0 0, .slice none 0 0]) ?_ 1 _ rfl; refine Kp ?_; refine blk_put (cs := #[.slice none 0 0, .slice none 0 0, .slice none 0 0]) ?_ 0 _ rfl; refine Kp ?_; exact BK149.out⟩, ⟨by repeat first | exact Bl HB | refine Bp (below_set ?_ GE132.out) | refine Bp (below_set ?_ GE133.out) | refine Bp (below_set ?_ GE149.out)⟩⟩
    case round =>
     clear H'
     try clear c1
     try clear c2
     try clear p2
     try clear c3
     try clear c5
     try clear c7
     try clear c7b0
     try clear c7b1
     try clear c9
     try clear c9b0
     try clear c9b1
     try clear c14
     try clear c16
     try clear c26
     try clear c27
     try clear hcz15_0
     try clear hcz15_1
     try clear hcz15_2
     try clear hcz17_0
     try clear hcz17_1
     try clear hcz17_2
     try clear hcz19_0
     try clear hcz19_1
     try clear hcz19_2
     try clear hcz28_0
     try clear hcz28_1
     try clear hcz28_2
     try clear hfz15_0
     try clear hfz15_1
     try clear hfz15_2
     try clear hfz17_0
     try clear hfz17_1
     try clear hfz17_2
     try clear hfz19_0
     try clear hfz19_1
     try clear hfz19_2
     try clear hfz28_0
     try clear hfz28_1
     try clear hfz28_2
     obtain ⟨x50_1, x150002_1, u150002, rfl, HA, HK1, HO_8, HO_10, HO_44, HO_46, HO_150002, BK132, BK133, BK149, HB⟩ := hrel
     cases gk with
     | zero => exact absurd HA.out (by simp [matrix_Select.l0])
     | succ k1 =>
      have H := HA.out
      clear HA
      simp only [matrix_Select.l0] at H
      by_cases c30 : x50_1 < (t135.length : Int)
      ·rw [if_pos c30] at H
       have c30b0 : decide (x50_1 < (t135.length : Int)) = true := decide_eq_true c30
       clear c30
       by_cases c31 : 0 ≤ x50_1
       ·rw [if_pos c31] at H
        have c31b0 : decide (0 ≤ x50_1) = true := decide_eq_true c31
        clear c31
        by_cases c32 : x50_1 < (t135.length : Int)
        ·rw [if_pos c32] at H
         have c32b0 : decide (x50_1 < (t135.length : Int)) = true := decide_eq_true c32
         clear c32
         by_cases c33 : 0 ≤ (t139.length : Int)
         ·rw [if_pos c33] at H
          have c33b0 := eq_true c33
          have c33b1 : decide (0 ≤ (t139.length : Int)) = true := decide_eq_true c33
          clear c33
          by_cases c34 : ((t139.length : Int) : Int).toNat ≤ 35184372088832
          ·rw [if_pos c34] at H
           have c34b0 := eq_true c34
           have c34b1 : decide (((t139.length : Int) : Int).toNat ≤ 35184372088832) = true := decide_eq_true c34
           clear c34
           obtain ⟨y151, hy151⟩ : ∃ y_ : List Int, y_ = (([] : List Int)) := ⟨_, rfl⟩
           replace H : (matrix_Select.l1 k1 t135 t139 (rd t135 x50_1) y151 t143 t146 (t135.length : Int) x50_1 (t139.length : Int) 0 l0_0 l0_1 l0_2 x150002_1) = some (r1, r2, r3, r4) := by first | (rw [hy151]; with_reducible exact H) | (have H2_ := (Option.bind_some _ _).symm.trans H; rw [hy151]; with_reducible exact H2_) | (have H2_ := (Option.bind_some _ _).symm.trans H; with_reducible exact H2_) | with_reducible exact H | (rw [hy151]; exact H) | exact H
           have Ny151 := Am hy151
           clear hy151
           have H' := Am H
           clear H
           have p150 : 0 ≤ (x50_1 : Int) := of_decide_eq_true (by first | (with_reducible assumption) | assumption)
           have q150 : x50_1 < (t135.length : Int) := of_decide_eq_true (by first | (with_reducible assumption) | assumption)
           obtain ⟨ad150, e150, hx150_0⟩ := Kd.at_int (Kd.R_reads' HO_8.out).2.2 x50_1 p150 q150
           cases e150
           replace p150 := eq_true p150
           replace q150 := eq_true q150
           obtain ⟨Ao35, co35, eo35⟩ := Kd.R_slice HO_10.out
           subst eo35
           go_wp2_with (first | ((with_reducible refine gate_dst (N := 56) rfl ?_); refine Go.Proofs.YtgeplglggcoaiabMakec.R_makec (Kd.int .i64) _ 3 rfl (N := 56) rfl 36 _ _ rfl (t139.length : Int) rfl rfl Try.underlying36 (.int .i64 0) 8 info3 rfl (by decide) (by omega) 0 (ok := fun _ => True) (okp := fun _ => True) rfl (fun _ hk => hk) trivial (of_decide_eq_true (by first | (with_reducible assumption) | assumption)) (Nat.le_trans (Nat.mul_le_mul_right _ (of_decide_eq_true (by first | (with_reducible assumption) | assumption) : (t139.length : Int).toNat ≤ 35184372088832)) (by omega)) (Below.refl _ _) (Nat.le_refl _) ?_; intro v152 w36 ho37 hb hg_ hnew_; clear hg_ hnew_; (first | rw [← Ny151.out] at ho37 | (simp only [Int.reduceToNat] at ho37; rw [← Ny151.out] at ho37)); have n0_ := Am (Kd.R_elder' (Rl HO_8) (Kd.R_base ho37) hb); have n1_ := Am (Kd.R_elder' (Rl HO_10) (Kd.R_base ho37) hb); have n2_ := Am (Kd.R_elder' (Rl HO_44) (Kd.R_base ho37) hb); have n3_ := Am (Kd.R_elder' (Rl HO_46) (Kd.R_base ho37) hb); have n4_ := Am (Kd.S_elder' (Sl HO_150002) (Kd.R_base ho37) hb); have n5_ := Am (Kd.R_lower (Kd.R_new' (Kd.R_new' (Kd.R_new' (Kd.R_new' ho37 (Rb HO_8)) (Rb HO_10)) (Rb HO_44)) (Rb HO_46)) (below_size (by repeat first | exact Bl HB | refine Bp (below_set ?_ GE132.out) | refine Bp (below_set ?_ GE133.out) | refine Bp (below_set ?_ GE149.out)))); have n6_ := Am (blk_below (Kl BK132) hb); have n7_ := Am (blk_below (Kl BK133) hb); have n8_ := Am (blk_below (Kl BK149) hb); have n9_ := Am (below_step (by repeat first | exact Bl HB | refine Bp (below_set ?_ GE132.out) | refine Bp (below_set ?_ GE133.out) | refine Bp (below_set ?_ GE149.out)) hb); clear HO_8 HO_10 HO_44 HO_46 HO_150002 BK132 BK133 BK149 HB; have HO_8 := n0_; have HO_10 := n1_; have HO_44 := n2_; have HO_46 := n3_; have HO_150002 := n4_; have HO153 := n5_; have BK132 := n6_; have BK133 := n7_; have BK149 := n8_; have HB := n9_; clear n0_ n1_ n2_ n3_ n4_ n5_ n6_ n7_ n8_ n9_; clear hb ho37))
           go_loopg [14, 59] k1 (fun kq v14 v59 w' => ∃ (x14_2 : List Int) (x59_2 : Int), v59 = .int .i64 x59_2 ∧ Aside0 (matrix_Select.l1 kq t135 t139 (rd t135 x50_1) x14_2 t143 t146 (t135.length : Int) x50_1 (t139.length : Int) x59_2 l0_0 l0_1 l0_2 x150002_1 = some (r1, r2, r3, r4)) ∧ Aside0 (kq ≤ k1) ∧ Aside0 (Kd.R (Kd.int .i64) 3 w' w.heap.size (fun k_ => some k_ ≠ ((.slice Ao35 t139.length co35) : Value).ownBlock ∧ some k_ ≠ (v14 : Value).ownBlock ∧ some k_ ≠ ((.slice Ao24 t143.length co24) : Value).ownBlock ∧ some k_ ≠ ((.slice Ao23 t146.length co23) : Value).ownBlock) (.slice (some ad150) t135.length co29) t135) ∧ Aside0 (Kd.R (Kd.int .i64) 3 w' w.heap.size (fun k_ => some k_ ≠ ((.slice (some ad150) t135.length co29) : Value).ownBlock ∧ some k_ ≠ (v14 : Value).ownBlock ∧ some k_ ≠ ((.slice Ao24 t143.length co24) : Value).ownBlock ∧ some k_ ≠ ((.slice Ao23 t146.length co23) : Value).ownBlock) (.slice Ao35 t139.length co35) t139) ∧ Aside0 (Kd.R (Kd.int .i64) 3 w' w.heap.size (fun k_ => some k_ ≠ ((.slice (some ad150) t135.length co29) : Value).ownBlock ∧ some k_ ≠ ((.slice Ao35 t139.length co35) : Value).ownBlock ∧ some k_ ≠ ((.slice Ao24 t143.length co24) : Value).ownBlock ∧ some k_ ≠ ((.slice Ao23 t146.length co23) : Value).ownBlock) v14 x14_2) ∧ Aside0 (Kd.R (Kd.int .i64) 3 w' w.heap.size (fun k_ => some k_ ≠ ((.slice (some ad150) t135.length co29) : Value).ownBlock ∧ some k_ ≠ ((.slice Ao35 t139.length co35) : Value).ownBlock ∧ some k_ ≠ (v14 : Value).ownBlock ∧ some k_ ≠ ((.slice Ao23 t146.length co23) : Value).ownBlock) (.slice Ao24 t143.length co24) t143) ∧ Aside0 (Kd.R (Kd.int .i64) 3 w' w.heap.size (fun k_ => some k_ ≠ ((.slice (some ad150) t135.length co29) : Value).ownBlock ∧ some k_ ≠ ((.slice Ao35 t139.length co35) : Value).ownBlock ∧ some k_ ≠ (v14 : Value).ownBlock ∧ some k_ ≠ ((.slice Ao24 t143.length co24) : Value).ownBlock) (.slice Ao23 t146.length co23) t146) ∧ Aside0 (Kd.S (Kd.slice 3 (Kd.int .i64)) 36 w' w.heap.size (fun k_ => some k_ ≠ ((.slice (some ad150) t135.length co29) : Value).ownBlock ∧ some k_ ≠ ((.slice Ao35 t139.length co35) : Value).ownBlock ∧ some k_ ≠ (v14 : Value).ownBlock ∧ some k_ ≠ ((.slice Ao24 t143.length co24) : Value).ownBlock ∧ some k_ ≠ ((.slice Ao23 t146.length co23) : Value).ownBlock) u150002 x150002_1) ∧ Aside0 (w'.heap[gb132]? = some (.cells #[(.slice A0_0 l0_0.length c0_0), (.slice A0_1 l0_1.length c0_1), (.slice A0_2 l0_2.length c0_2)] 39 (0, 0))) ∧ Aside0 (w'.heap[gb133]? = some (.cells #[(.slice none 0 0), (.slice none 0 0), (.slice none 0 0)] 39 (0, 0))) ∧ Aside0 (w'.heap[gb149]? = some (.cells #[(.slice Ao24 t143.length co24), (.slice Ao23 t146.length co23), u150002] 39 (0, 0))) ∧ Aside0 (Below w.heap.size w w'))
           case atStart => exact ⟨(y151), (0), (by first | rfl | (simp; done) | (simp [*]; done)), H', ⟨Nat.le_refl _⟩, ⟨Rm (Kd.R_mono HO_8.out (fun _ hk => ⟨hk.1.1, ⟨hk.2, ⟨hk.1.2.1, hk.1.2.2⟩⟩⟩))⟩, ⟨Rm (Kd.R_mono HO_10.out (fun _ hk => ⟨hk.1.1, ⟨hk.2, ⟨hk.1.2.1, hk.1.2.2⟩⟩⟩))⟩, ⟨Rm (Kd.R_mono HO153.out (fun _ hk => ⟨hk.1.1.1.2, ⟨hk.1.1.2, ⟨hk.1.2, hk.2⟩⟩⟩))⟩, ⟨Rm (Kd.R_mono HO_44.out (fun _ hk => ⟨hk.1.1, ⟨hk.1.2.1, ⟨hk.2, hk.1.2.2⟩⟩⟩))⟩, ⟨Rm (Kd.R_mono HO_46.out (fun _ hk => ⟨hk.1.1, ⟨hk.1.2.1, ⟨hk.2, hk.1.2.2⟩⟩⟩))⟩, ⟨Sm (Kd.S_mono HO_150002.out (fun _ hk => ⟨hk.1.1, ⟨hk.1.2.1, ⟨hk.2, ⟨hk.1.2.2.1, hk.1.2.2.2⟩⟩⟩⟩))⟩, ⟨Kl BK132⟩, ⟨Kl BK133⟩, ⟨Kl BK149⟩, ⟨by repeat first | exact Bl HB | refine Bp (below_set ?_ GE132.out) | refine Bp (below_set ?_ GE133.out) | refine Bp (below_set ?_ GE149.out)⟩⟩
           case round =>
            clear H'
            try clear c1
            try clear p1
            try clear q1
            try clear hx1
            try clear c2
            try clear p2
            try clear c3
            try clear c5
            try clear c7
            try clear c7b0
            try clear c7b1
            try clear c9
            try clear c9b0
            try clear c9b1
            try clear c14
            try clear p15
            try clear q15
            try clear hx15
            try clear c16
            try clear c26
            try clear c27
            try clear c30
            try clear c30b0
            try clear c31
            try clear c31b0
            try clear c32
            try clear c32b0
            try clear c33
            try clear c33b0
            try clear c33b1
            try clear c34
            try clear c34b0
            try clear c34b1
            try clear c37
            try clear hcz15_0
            try clear hcz15_1
            try clear hcz15_2
            try clear hcz17_0
            try clear hcz17_1
            try clear hcz17_2
            try clear hcz19_0
            try clear hcz19_1
            try clear hcz19_2
            try clear hcz28_0
            try clear hcz28_1
            try clear hcz28_2
            try clear hfz15_0
            try clear hfz15_1
            try clear hfz15_2
            try clear hfz17_0
            try clear hfz17_1
            try clear hfz17_2
            try clear hfz19_0
            try clear hfz19_1
            try clear hfz19_2
            try clear hfz28_0
            try clear hfz28_1
            try clear hfz28_2
            try clear hx150_0
            try clear p150
            try clear p2
            try clear q150
            obtain ⟨x14_2, x59_2, rfl, HA, HK2, HO_8, HO_10, HO_14, HO_44, HO_46, HO_150002, BK132, BK133, BK149, HB⟩ := hrel
            cases gk with
            | zero => exact absurd HA.out (by simp [matrix_Select.l1])
            | succ k2 =>
             have H := HA.out
             clear HA
             simp only [matrix_Select.l1] at H
             by_cases c38 : x59_2 < (t139.length : Int)
             ·rw [if_pos c38] at H
              have c38b0 : decide (x59_2 < (t139.length : Int)) = true := decide_eq_true c38
              clear c38
              by_cases c39 : 0 ≤ x59_2
              ·rw [if_pos c39] at H
               have c39b0 : decide (0 ≤ x59_2) = true := decide_eq_true c39
               clear c39
               by_cases c40 : x59_2 < (t139.length : Int)
               ·rw [if_pos c40] at H
                have c40b0 : decide (x59_2 < (t139.length : Int)) = true := decide_eq_true c40
                clear c40
                by_cases c41 : 0 ≤ (rd t135 x50_1)
                ·rw [if_pos c41] at H
                 have c41b0 : decide (0 ≤ (rd t135 x50_1)) = true := decide_eq_true c41
                 clear c41
                 by_cases c42 : (rd t135 x50_1) < (l0_2.length : Int)
                 ·rw [if_pos c42] at H
                  have c42b0 : decide ((rd t135 x50_1) < (l0_2.length : Int)) = true := decide_eq_true c42
                  clear c42
                  by_cases c43 : 0 ≤ (rd t139 x59_2)
                  ·rw [if_pos c43] at H
                   have c43b0 : decide (0 ≤ (rd t139 x59_2)) = true := decide_eq_true c43
                   clear c43
                   by_cases c44 : (rd t139 x59_2) < ((rd_L1 l0_2 (rd t135 x50_1)).length : Int)
                   ·rw [if_pos c44] at H
                    have c44b0 : decide ((rd t139 x59_2) < ((rd_L1 l0_2 (rd t135 x50_1)).length : Int)) = true := decide_eq_true c44
                    clear c44
                    by_cases c45 : x14_2.length < 17592186044416
                    ·rw [if_pos c45] at H
                     have LMc45 := Am c45
                     clear c45
                     obtain ⟨y157, hy157⟩ : ∃ y_ : List Int, y_ = (x14_2 ++ [rd (rd_L1 l0_2 (rd t135 x50_1)) (rd t139 x59_2)]) := ⟨_, rfl⟩
                     replace H : (matrix_Select.l1 k2 t135 t139 (rd t135 x50_1) y157 t143 t146 (t135.length : Int) x50_1 (t139.length : Int) (wrap64 (x59_2 + 1)) l0_0 l0_1 l0_2 x150002_1) = some (r1, r2, r3, r4) := by first | (rw [hy157]; with_reducible exact H) | (have H2_ := (Option.bind_some _ _).symm.trans H; rw [hy157]; with_reducible exact H2_) | (have H2_ := (Option.bind_some _ _).symm.trans H; with_reducible exact H2_) | with_reducible exact H | (rw [hy157]; exact H) | exact H
                     have Ny157 := Am hy157
                     clear hy157
                     have H' := Am H
                     clear H
                     have p154 : 0 ≤ (x59_2 : Int) := of_decide_eq_true (by first | (with_reducible assumption) | assumption)
                     have q154 : x59_2 < (t139.length : Int) := of_decide_eq_true (by first | (with_reducible assumption) | assumption)
                     obtain ⟨ad154, e154, hx154_0⟩ := Kd.at_int (Kd.R_reads' HO_10.out).2.2 x59_2 p154 q154
                     cases e154
                     replace p154 := eq_true p154
                     replace q154 := eq_true q154
                     have hnb46 := NB132_133.out
                     have hnc46 := NB133_132.out
                     have hnb47 := NB132_149.out
                     have hnc47 := NB149_132.out
                     have hcz48_0 : wr.cell? ⟨gb132, 0, none⟩ = some (.slice A0_0 l0_0.length c0_0) := (blk_cell BK132.out 0).trans rfl
                     have hcz48_1 : wr.cell? ⟨gb132, 1, none⟩ = some (.slice A0_1 l0_1.length c0_1) := (blk_cell BK132.out 1).trans rfl
                     have hcz48_2 : wr.cell? ⟨gb132, 2, none⟩ = some (.slice A0_2 l0_2.length c0_2) := (blk_cell BK132.out 2).trans rfl
                     have hfz48_0 := blk_frozen BK132.out 0
                     have hfz48_1 := blk_frozen BK132.out 1
                     have hfz48_2 := blk_frozen BK132.out 2
                     have p155 : 0 ≤ ((rd t135 x50_1) : Int) := of_decide_eq_true (by first | (with_reducible assumption) | assumption)
                     have q155 : (rd t135 x50_1) < (l0_2.length : Int) := of_decide_eq_true (by first | (with_reducible assumption) | assumption)
                     obtain ⟨ad155, A155_0, c155_0, e155, hx155_0, hl155_0, hi155_0⟩ := at_L1 HR0_2.out (rd t135 x50_1) p155 q155
                     cases e155
                     replace hx155_0 := (HB.out.cell (World.block_lt_of_cell? w _ hx155_0)).trans hx155_0
                     have HR155_0 := Am hi155_0
                     have HC155_0 := Am hl155_0
                     clear hi155_0 hl155_0
                     replace p155 := eq_true p155
                     replace q155 := eq_true q155
                     have p156 : 0 ≤ ((rd t139 x59_2) : Int) := of_decide_eq_true (by first | (with_reducible assumption) | assumption)
                     have q156 : (rd t139 x59_2) < ((rd_L1 l0_2 (rd t135 x50_1)).length : Int) := of_decide_eq_true (by first | (with_reducible assumption) | assumption)
                     obtain ⟨ad156, e156, hx156_0⟩ := Kd.at_int HR155_0.out (rd t139 x59_2) p156 q156
                     cases e156
                     replace hx156_0 := (HB.out.cell (World.block_lt_of_cell? w _ hx156_0)).trans hx156_0
                     replace p156 := eq_true p156
                     replace q156 := eq_true q156
                     go_wp2_with (first | ((with_reducible refine gate_builtin (b := .append) (xs := #[.tmp 63, .tmp 72]) rfl ?_); at_builtin; refine Kd.R_append (Kd.int .i64) (w0 := w) w.heap.size rfl (.tmp 63) (.tmp 72) 36 3 (.int .i64 0) 8 rfl Try.underlying36 info3 rfl (by decide) (by omega) u14 x14_2 (rd (rd_L1 l0_2 (rd t135 x50_1)) (rd t139 x59_2)) [.int .i64 (rd (rd_L1 l0_2 (rd t135 x50_1)) (rd t139 x59_2))] (fun k_ => some k_ ≠ (.slice (some ad150) t135.length co29 : Value).ownBlock ∧ some k_ ≠ (.slice (some ad154) t139.length co35 : Value).ownBlock ∧ some k_ ≠ (.slice Ao24 t143.length co24 : Value).ownBlock ∧ some k_ ≠ (.slice Ao23 t146.length co23 : Value).ownBlock) (fun _ => False) rfl rfl ?aP (fun _ hk => hk.elim) ?aF ?aO ?aB ?aS ?aL ?_; (case aP => exact rfl); (case aB => exact (by repeat first | exact Bl HB | refine Bp (below_set ?_ GE132.out) | refine Bp (below_set ?_ GE133.out) | refine Bp (below_set ?_ GE149.out))); (case aF => exact (fun k_ hk => ⟨Kd.fresh' (Rb HO_8) k_ hk, Kd.fresh' (Rb HO_10) k_ hk, Kd.fresh' (Rb HO_44) k_ hk, Kd.fresh' (Rb HO_46) k_ hk⟩)); (case aO => exact (Rl HO_14)); (case aS => exact (below_size (by repeat first | exact Bl HB | refine Bp (below_set ?_ GE132.out) | refine Bp (below_set ?_ GE133.out) | refine Bp (below_set ?_ GE149.out)))); (case aL => have := LMc45.out; omega); intro v158 w49 ho hb hg hat; rw [← Ny157.out] at ho; have n0_ := Am (Kd.R_after (ok := (fun k_ => some k_ ≠ (.slice (some ad154) t139.length co35 : Value).ownBlock ∧ some k_ ≠ (.slice Ao24 t143.length co24 : Value).ownBlock ∧ some k_ ≠ (.slice Ao23 t146.length co23 : Value).ownBlock)) (Rm (Kd.R_mono HO_8.out (fun _ hk => ⟨⟨hk.1, ⟨hk.2.2.1, hk.2.2.2⟩⟩, hk.2.1⟩))) hg hat); have n1_ := Am (Kd.R_after (ok := (fun k_ => some k_ ≠ (.slice (some ad150) t135.length co29 : Value).ownBlock ∧ some k_ ≠ (.slice Ao24 t143.length co24 : Value).ownBlock ∧ some k_ ≠ (.slice Ao23 t146.length co23 : Value).ownBlock)) (Rm (Kd.R_mono HO_10.out (fun _ hk => ⟨⟨hk.1, ⟨hk.2.2.1, hk.2.2.2⟩⟩, hk.2.1⟩))) hg hat); have n2_ := Am (Kd.R_after (ok := (fun k_ => some k_ ≠ (.slice (some ad150) t135.length co29 : Value).ownBlock ∧ some k_ ≠ (.slice (some ad154) t139.length co35 : Value).ownBlock ∧ some k_ ≠ (.slice Ao23 t146.length co23 : Value).ownBlock)) (Rm (Kd.R_mono HO_44.out (fun _ hk => ⟨⟨hk.1, ⟨hk.2.1, hk.2.2.2⟩⟩, hk.2.2.1⟩))) hg hat); have n3_ := Am (Kd.R_after (ok := (fun k_ => some k_ ≠ (.slice (some ad150) t135.length co29 : Value).ownBlock ∧ some k_ ≠ (.slice (some ad154) t139.length co35 : Value).ownBlock ∧ some k_ ≠ (.slice Ao24 t143.length co24 : Value).ownBlock)) (Rm (Kd.R_mono HO_46.out (fun _ hk => ⟨⟨hk.1, ⟨hk.2.1, hk.2.2.2⟩⟩, hk.2.2.1⟩))) hg hat); have n4_ := Am (Kd.S_after (ok := (fun k_ => some k_ ≠ (.slice (some ad150) t135.length co29 : Value).ownBlock ∧ some k_ ≠ (.slice (some ad154) t139.length co35 : Value).ownBlock ∧ some k_ ≠ (.slice Ao24 t143.length co24 : Value).ownBlock ∧ some k_ ≠ (.slice Ao23 t146.length co23 : Value).ownBlock)) (Sm (Kd.S_mono HO_150002.out (fun _ hk => ⟨⟨hk.1, ⟨hk.2.1, ⟨hk.2.2.2.1, hk.2.2.2.2⟩⟩⟩, hk.2.2.1⟩))) hg hat); have n5_ := Am (blk_grown (Kl BK132) hg (Kd.R_ne HO_14.out BK132.out (by decide))); have n6_ := Am (blk_grown (Kl BK133) hg (Kd.R_ne HO_14.out BK133.out (by decide))); have n7_ := Am (blk_grown (Kl BK149) hg (Kd.R_ne HO_14.out BK149.out (by decide))); have n8_ := Am (hb); have n9_ := Am (ho); clear HO_8 HO_10 HO_44 HO_46 HO_150002 BK132 BK133 BK149 HB HO_14; have HO_8 := n0_; have HO_10 := n1_; have HO_44 := n2_; have HO_46 := n3_; have HO_150002 := n4_; have BK132 := n5_; have BK133 := n6_; have BK149 := n7_; have HB := n8_; have HO159 := n9_; clear n0_ n1_ n2_ n3_ n4_ n5_ n6_ n7_ n8_ n9_; clear ho hb hg hat))
                     go_roundg k2
                     case measure => have := HK1.out; have := HK2.out; omega
                     case rel => exact ⟨(y157), (wrap64 (x59_2 + 1)), (by first | rfl | (simp; done) | (simp [*]; done)), H', ⟨by have := HK1.out; have := HK2.out; omega⟩, ⟨Rm (Kd.R_mono HO_8.out (fun _ hk => ⟨hk.1.1, ⟨hk.2, ⟨hk.1.2.1, hk.1.2.2⟩⟩⟩))⟩, ⟨Rm (Kd.R_mono HO_10.out (fun _ hk => ⟨hk.1.1, ⟨hk.2, ⟨hk.1.2.1, hk.1.2.2⟩⟩⟩))⟩, ⟨Rl HO159⟩, ⟨Rm (Kd.R_mono HO_44.out (fun _ hk => ⟨hk.1.1, ⟨hk.1.2.1, ⟨hk.2, hk.1.2.2⟩⟩⟩))⟩, ⟨Rm (Kd.R_mono HO_46.out (fun _ hk => ⟨hk.1.1, ⟨hk.1.2.1, ⟨hk.2, hk.1.2.2⟩⟩⟩))⟩, ⟨Sm (Kd.S_mono HO_150002.out (fun _ hk => ⟨hk.1.1, ⟨hk.1.2.1, ⟨hk.2, ⟨hk.1.2.2.1, hk.1.2.2.2⟩⟩⟩⟩))⟩, ⟨Kl BK132⟩, ⟨Kl BK133⟩, ⟨Kl BK149⟩, ⟨by repeat first | exact Bl HB | refine Bp (below_set ?_ GE132.out) | refine Bp (below_set ?_ GE133.out) | refine Bp (below_set ?_ GE149.out)⟩⟩
                    ·rw [if_neg c45] at H
                     exact absurd H (by simp)
                   ·rw [if_neg c44] at H
                    exact absurd H (by simp)
                  ·rw [if_neg c43] at H
                   exact absurd H (by simp)
                 ·rw [if_neg c42] at H
                  exact absurd H (by simp)
                ·rw [if_neg c41] at H
                 exact absurd H (by simp)
               ·rw [if_neg c40] at H
                exact absurd H (by simp)
              ·rw [if_neg c39] at H
               exact absurd H (by simp)
             ·rw [if_neg c38] at H
              have c38b0 : decide (x59_2 < (t139.length : Int)) = false := decide_eq_false c38
              clear c38
              by_cases c50 : x150002_1.length < 5864062014805
              ·rw [if_pos c50] at H
               have LMc50 := Am c50
               clear c50
               obtain ⟨y160, hy160⟩ : ∃ y_ : List (List Int), y_ = (x150002_1 ++ [x14_2]) := ⟨_, rfl⟩
               replace H : (matrix_Select.l0 k2 t135 t139 t143 t146 (t135.length : Int) (wrap64 (x50_1 + 1)) l0_0 l0_1 l0_2 y160) = some (r1, r2, r3, r4) := by first | (rw [hy160]; with_reducible exact H) | (have H2_ := (Option.bind_some _ _).symm.trans H; rw [hy160]; with_reducible exact H2_) | (have H2_ := (Option.bind_some _ _).symm.trans H; with_reducible exact H2_) | with_reducible exact H | (rw [hy160]; exact H) | exact H
               have Ny160 := Am hy160
               clear hy160
               have H' := Am H
               clear H
               have hnb51 := NB149_132.out
               have hnc51 := NB132_149.out
               have hnb52 := NB149_133.out
               have hnc52 := NB133_149.out
               have hcz53_0 : wr.cell? ⟨gb149, 0, none⟩ = some (.slice Ao24 t143.length co24) := (blk_cell BK149.out 0).trans rfl
               have hcz53_1 : wr.cell? ⟨gb149, 1, none⟩ = some (.slice Ao23 t146.length co23) := (blk_cell BK149.out 1).trans rfl
               have hcz53_2 : wr.cell? ⟨gb149, 2, none⟩ = some (u150002) := (blk_cell BK149.out 2).trans rfl
               have hfz53_0 := blk_frozen BK149.out 0
               have hfz53_1 := blk_frozen BK149.out 1
               have hfz53_2 := blk_frozen BK149.out 2
               obtain ⟨Ao55, co55, eo55⟩ := Kd.R_slice HO_14.out
               subst eo55
               go_wp2_with (first | ((with_reducible refine gate_builtin (b := .append) (xs := #[.tmp 76, .tmp 78]) rfl ?_); at_builtin; refine Kd.S_append (Kd.slice 3 (Kd.int .i64)) (w0 := w) w.heap.size rfl (.tmp 76) (.tmp 78) 37 36 (.slice none 0 0) 24 rfl Try.underlying37 info36 rfl (by decide) (by omega) u150002 x150002_1 x14_2 [.slice Ao55 x14_2.length co55] (fun k_ => some k_ ≠ (.slice (some ad150) t135.length co29 : Value).ownBlock ∧ some k_ ≠ (.slice Ao35 t139.length co35 : Value).ownBlock ∧ some k_ ≠ (.slice Ao24 t143.length co24 : Value).ownBlock ∧ some k_ ≠ (.slice Ao23 t146.length co23 : Value).ownBlock) (fun k_ => some k_ = (.slice Ao55 x14_2.length co55 : Value).ownBlock) rfl rfl ?aP (fun k_ hk_ => ((Kd.R_mono (ok' := fun k_ => ((fun k_ => some k_ ≠ (.slice (some ad150) t135.length co29 : Value).ownBlock ∧ some k_ ≠ (.slice Ao35 t139.length co35 : Value).ownBlock ∧ some k_ ≠ (.slice Ao24 t143.length co24 : Value).ownBlock ∧ some k_ ≠ (.slice Ao23 t146.length co23 : Value).ownBlock)) k_ ∧ some k_ ≠ (u150002 : Value).ownBlock) (Kd.R_apart' (HO_14.out) (Kd.S_typed HO_150002.out) (by decide)) (fun k_ hk => ⟨⟨hk.1.1, ⟨hk.1.2.1, ⟨hk.1.2.2.1, hk.1.2.2.2⟩⟩⟩, hk.2⟩))).1 k_ hk_.symm) ?aF ?aO ?aB ?aS ?aL ?_; (case aP => exact Kd.M_row (Kd.R_mono (Kd.R_tight rfl (Kd.R_mono (ok' := fun k_ => ((fun k_ => some k_ ≠ (.slice (some ad150) t135.length co29 : Value).ownBlock ∧ some k_ ≠ (.slice Ao35 t139.length co35 : Value).ownBlock ∧ some k_ ≠ (.slice Ao24 t143.length co24 : Value).ownBlock ∧ some k_ ≠ (.slice Ao23 t146.length co23 : Value).ownBlock)) k_ ∧ some k_ ≠ (u150002 : Value).ownBlock) (Kd.R_apart' (HO_14.out) (Kd.S_typed HO_150002.out) (by decide)) (fun k_ hk => ⟨⟨hk.1.1, ⟨hk.1.2.1, ⟨hk.1.2.2.1, hk.1.2.2.2⟩⟩⟩, hk.2⟩))) (fun _ h_ => h_))); (case aB => exact (by repeat first | exact Bl HB | refine Bp (below_set ?_ GE132.out) | refine Bp (below_set ?_ GE133.out) | refine Bp (below_set ?_ GE149.out))); (case aF => exact (fun k_ hk => ⟨Kd.fresh' (Rb HO_8) k_ hk, Kd.fresh' (Rb HO_10) k_ hk, Kd.fresh' (Rb HO_44) k_ hk, Kd.fresh' (Rb HO_46) k_ hk⟩)); (case aO => exact (Sm (Kd.S_mono HO_150002.out (fun k_ hk => ⟨⟨hk.1, ⟨hk.2.1, ⟨hk.2.2.2.1, hk.2.2.2.2⟩⟩⟩, fun e_ => hk.2.2.1 e_⟩)))); (case aS => exact (below_size (by repeat first | exact Bl HB | refine Bp (below_set ?_ GE132.out) | refine Bp (below_set ?_ GE133.out) | refine Bp (below_set ?_ GE149.out)))); (case aL => have := LMc50.out; omega); intro v161 w54 ho hb hg hat; rw [← Ny160.out] at ho; have n0_ := Am (Kd.R_over' (Rl HO_8) (Kd.S_typed (Sl HO_150002)) (by decide) hg); have n1_ := Am (Kd.R_over' (Rl HO_10) (Kd.S_typed (Sl HO_150002)) (by decide) hg); have n2_ := Am (Kd.R_over' (Rl HO_44) (Kd.S_typed (Sl HO_150002)) (by decide) hg); have n3_ := Am (Kd.R_over' (Rl HO_46) (Kd.S_typed (Sl HO_150002)) (by decide) hg); have n4_ := Am (blk_grown (Kl BK132) hg (Kd.S_ne HO_150002.out BK132.out (by decide))); have n5_ := Am (blk_grown (Kl BK133) hg (Kd.S_ne HO_150002.out BK133.out (by decide))); have n6_ := Am (blk_grown (Kl BK149) hg (Kd.S_ne HO_150002.out BK149.out (by decide))); have n7_ := Am (hb); have n8_ := Am (ho); clear HO_8 HO_10 HO_44 HO_46 BK132 BK133 BK149 HB HO_150002 HO_14; have HO_8 := n0_; have HO_10 := n1_; have HO_44 := n2_; have HO_46 := n3_; have BK132 := n4_; have BK133 := n5_; have BK149 := n6_; have HB := n7_; have HO162 := n8_; clear n0_ n1_ n2_ n3_ n4_ n5_ n6_ n7_ n8_; clear ho hb hg hat; obtain ⟨Ao56, co56, eo56⟩ := Kd.S_slice HO162.out; subst eo56; have hcz57_0 : w54.cell? ⟨gb149, 0, none⟩ = some (.slice Ao24 t143.length co24) := (blk_cell BK149.out 0).trans rfl; have hcz57_1 : w54.cell? ⟨gb149, 1, none⟩ = some (.slice Ao23 t146.length co23) := (blk_cell BK149.out 1).trans rfl; have hcz57_2 : w54.cell? ⟨gb149, 2, none⟩ = some (u150002) := (blk_cell BK149.out 2).trans rfl; have hfz57_0 := blk_frozen BK149.out 0; have hfz57_1 := blk_frozen BK149.out 1; have hfz57_2 := blk_frozen BK149.out 2))
               go_roundg k2
               case measure => have := HK1.out; have := HK2.out; omega
               case rel => exact ⟨(wrap64 (x50_1 + 1)), (y160), (.slice Ao56 y160.length co56), (by first | rfl | (simp; done) | (simp [*]; done)), H', ⟨by have := HK1.out; have := HK2.out; omega⟩, ⟨Rm (Kd.R_mono (Kd.R_far (p := ⟨gb149, 2, none⟩) (Kd.R_types HO_8.out BK149.out (by decide)) (fun _ hk => hk.2) (.slice Ao56 y160.length co56)) (fun _ hk => ⟨hk.1.1, ⟨hk.1.2.2.1, hk.1.2.2.2⟩⟩))⟩, ⟨Rm (Kd.R_mono (Kd.R_far (p := ⟨gb149, 2, none⟩) (Kd.R_types HO_10.out BK149.out (by decide)) (fun _ hk => hk.2) (.slice Ao56 y160.length co56)) (fun _ hk => ⟨hk.1.1, ⟨hk.1.2.2.1, hk.1.2.2.2⟩⟩))⟩, ⟨Rm (Kd.R_mono (Kd.R_far (p := ⟨gb149, 2, none⟩) (Kd.R_types HO_44.out BK149.out (by decide)) (fun _ hk => hk.2) (.slice Ao56 y160.length co56)) (fun _ hk => ⟨hk.1.1, ⟨hk.1.2.1, hk.1.2.2.2⟩⟩))⟩, ⟨Rm (Kd.R_mono (Kd.R_far (p := ⟨gb149, 2, none⟩) (Kd.R_types HO_46.out BK149.out (by decide)) (fun _ hk => hk.2) (.slice Ao56 y160.length co56)) (fun _ hk => ⟨hk.1.1, ⟨hk.1.2.1, hk.1.2.2.2⟩⟩))⟩, ⟨Sm (Kd.S_mono (Kd.S_far (p := ⟨gb149, 2, none⟩) (Kd.S_types HO162.out BK149.out (by decide)) (fun _ hk => hk.2) (.slice Ao56 y160.length co56)) (fun _ hk => ⟨hk.1.1, ⟨hk.1.2.1, ⟨hk.1.2.2.1, hk.1.2.2.2⟩⟩⟩))⟩, ⟨by refine Kp ?_; refine blk_far ?_ NB132_149.out _; refine Kp ?_; exact BK132.out⟩, ⟨by refine Kp ?_; refine blk_far ?_ NB133_149.out _; refine Kp ?_; exact BK133.out⟩, ⟨by refine Kp ?_; refine blk_put (cs := #[.slice Ao24 t143.length co24, .slice Ao23 t146.length co23, u150002]) ?_ 2 _ rfl; refine Kp ?_; exact BK149.out⟩, ⟨by repeat first | exact Bl HB | refine Bp (below_set ?_ GE132.out) | refine Bp (below_set ?_ GE133.out) | refine Bp (below_set ?_ GE149.out)⟩⟩
              ·rw [if_neg c50] at H
               exact absurd H (by simp)
          ·rw [if_neg c34] at H
           exact absurd H (by simp)
         ·rw [if_neg c33] at H
          exact absurd H (by simp)
        ·rw [if_neg c32] at H
         exact absurd H (by simp)
       ·rw [if_neg c31] at H
        exact absurd H (by simp)
      ·rw [if_neg c30] at H
       have c30b0 : decide (x50_1 < (t135.length : Int)) = false := decide_eq_false c30
       clear c30
       simp only [Option.some.injEq, Prod.mk.injEq] at H
       obtain ⟨rfl, rfl, rfl, rfl⟩ := H
       have hnb58 := NB149_132.out
       have hnc58 := NB132_149.out
       have hnb59 := NB149_133.out
       have hnc59 := NB133_149.out
       have hcz60_0 : wr.cell? ⟨gb149, 0, none⟩ = some (.slice Ao24 t143.length co24) := (blk_cell BK149.out 0).trans rfl
       have hcz60_1 : wr.cell? ⟨gb149, 1, none⟩ = some (.slice Ao23 t146.length co23) := (blk_cell BK149.out 1).trans rfl
       have hcz60_2 : wr.cell? ⟨gb149, 2, none⟩ = some (u150002) := (blk_cell BK149.out 2).trans rfl
       have hfz60_0 := blk_frozen BK149.out 0
       have hfz60_1 := blk_frozen BK149.out 1
       have hfz60_2 := blk_frozen BK149.out 2
       have hnb61 := NB133_132.out
       have hnc61 := NB132_133.out
       have hcz62_0 : wr.cell? ⟨gb133, 0, none⟩ = some (.slice none 0 0) := (blk_cell BK133.out 0).trans rfl
       have hcz62_1 : wr.cell? ⟨gb133, 1, none⟩ = some (.slice none 0 0) := (blk_cell BK133.out 1).trans rfl
       have hcz62_2 : wr.cell? ⟨gb133, 2, none⟩ = some (.slice none 0 0) := (blk_cell BK133.out 2).trans rfl
       have hfz62_0 := blk_frozen BK133.out 0
       have hfz62_1 := blk_frozen BK133.out 1
       have hfz62_2 := blk_frozen BK133.out 2
       obtain ⟨Ao63, co63, eo63⟩ := Kd.S_slice HO_150002.out
       subst eo63
       go_wp2
       refine bodyPost_ret (results_ct rfl _ _ gb133 39 #[.slice Ao24 t143.length co24, .slice Ao23 t146.length co23, .slice Ao63 x150002_1.length co63] (0, 0) _ rfl (by refine Kp ?_; refine blk_put (cs := #[.slice Ao24 t143.length co24, .slice Ao23 t146.length co23, .slice none 0 0]) ?_ 2 _ rfl; refine Kp ?_; refine blk_put (cs := #[.slice Ao24 t143.length co24, .slice none 0 0, .slice none 0 0]) ?_ 1 _ rfl; refine Kp ?_; refine blk_put (cs := #[.slice none 0 0, .slice none 0 0, .slice none 0 0]) ?_ 0 _ rfl; refine Kp ?_; exact BK133.out) Try.underlying39 rfl (by kernel_rfl)) rfl ?_
       exact ⟨_, _, _, by first | rfl | (simp [errW_none, errW_some] <;> rfl) | (simp [*, errW_none, errW_some] <;> rfl), Rm (Kd.R_mono (Kd.R_far (p := ⟨gb133, 2, none⟩) (Kd.R_far (p := ⟨gb133, 1, none⟩) (Kd.R_far (p := ⟨gb133, 0, none⟩) (Kd.R_types HO_44.out BK133.out (by decide)) (fun _ hk => hk.2) (.slice Ao24 t143.length co24)) (fun _ hk => hk.2) (.slice Ao23 t146.length co23)) (fun _ hk => hk.2) (.slice Ao63 x150002_1.length co63)) (fun _ hk => hk.1.2.2)), Rm (Kd.R_mono (Kd.R_far (p := ⟨gb133, 2, none⟩) (Kd.R_far (p := ⟨gb133, 1, none⟩) (Kd.R_far (p := ⟨gb133, 0, none⟩) (Kd.R_types HO_46.out BK133.out (by decide)) (fun _ hk => hk.2) (.slice Ao24 t143.length co24)) (fun _ hk => hk.2) (.slice Ao23 t146.length co23)) (fun _ hk => hk.2) (.slice Ao63 x150002_1.length co63)) (fun _ hk => hk.1.2.2)), Sm (Kd.S_mono (Kd.S_far (p := ⟨gb133, 2, none⟩) (Kd.S_far (p := ⟨gb133, 1, none⟩) (Kd.S_far (p := ⟨gb133, 0, none⟩) (Kd.S_types HO_150002.out BK133.out (by decide)) (fun _ hk => hk.2) (.slice Ao24 t143.length co24)) (fun _ hk => hk.2) (.slice Ao23 t146.length co23)) (fun _ hk => hk.2) (.slice Ao63 x150002_1.length co63)) (fun _ hk => ⟨hk.1.2.2.1, hk.1.2.2.2⟩)), by repeat first | exact Bl HB | refine Bp (below_set ?_ GE132.out) | refine Bp (below_set ?_ GE133.out) | refine Bp (below_set ?_ GE149.out)⟩
   ·rw [if_neg c9] at H
    have c9b0 : (t140 == 0) = false := beq_eq_false_iff_ne.mpr c9
    have c9b1 : (t140 != 0) = true := bne_iff_ne.mpr c9
    simp only [Option.some.injEq, Prod.mk.injEq] at H
    obtain ⟨rfl, rfl, rfl, rfl⟩ := H
    go_enter Try.func16, Try.ntmps16
    go_wp2_with (first | ((with_reducible refine gate_dst (N := 3) rfl ?_); refine box_event ?hg (N := 3) ?hd (cs := #[.slice A0_0 l0_0.length c0_0, .slice A0_1 l0_1.length c0_1, .slice A0_2 l0_2.length c0_2]) (t := 39) ?hr ?_; (case hd => rfl); (case hg => rfl); (case hr => first | (go_simp; done) | (go_simp; rfl)); intro gb132 hg w64 hbox hb; have n0_ := Am (below_step (Bl HB) hb); have n1_ := Am (hbox); have n2_ := Am ((by rw [hg]; exact (below_size (Bl HB)) : w.heap.size ≤ gb132)); have n3_ := Am ((by rw [hg]; exact (below_size (Bl HB)) : w.heap.size ≤ gb132)); clear HB; have HB := n0_; have BK132 := n1_; have GW132 := n2_; have GE132 := n3_; clear n0_ n1_ n2_ n3_; clear hb hbox hg) | ((with_reducible refine gate_dst (N := 6) rfl ?_); refine box_event ?hg (N := 6) ?hd (cs := #[.slice none 0 0, .slice none 0 0, .slice none 0 0]) (t := 39) ?hr ?_; (case hd => rfl); (case hg => rfl); (case hr => first | (go_simp; done) | (go_simp; rfl)); intro gb133 hg w65 hbox hb; have n0_ := Am (blk_below (Kl BK132) hb); have n1_ := Am (below_step (by repeat first | exact Bl HB | refine Bp (below_set ?_ GE132.out)) hb); have n2_ := Am (hbox); have n3_ := Am ((by rw [hg]; exact (below_size (by repeat first | exact Bl HB | refine Bp (below_set ?_ GE132.out))) : w.heap.size ≤ gb133)); have n4_ := Am ((by rw [hg]; exact (below_size (by repeat first | exact Bl HB | refine Bp (below_set ?_ GE132.out))) : w.heap.size ≤ gb133)); have n5_ := Am ((by rw [hg]; exact Nat.ne_of_lt (blk_lt (Kl BK132)) : gb132 ≠ gb133)); have n6_ := Am ((by rw [hg]; exact Nat.ne_of_gt (blk_lt (Kl BK132)) : gb133 ≠ gb132)); clear BK132 HB; have BK132 := n0_; have HB := n1_; have BK133 := n2_; have GW133 := n3_; have GE133 := n4_; have NB132_133 := n5_; have NB133_132 := n6_; clear n0_ n1_ n2_ n3_ n4_ n5_ n6_; clear hb hbox hg; have hnb66 := NB132_133.out; have hnc66 := NB133_132.out; have hcz67_0 : w65.cell? ⟨gb132, 0, none⟩ = some (.slice A0_0 l0_0.length c0_0) := (blk_cell BK132.out 0).trans rfl; have hcz67_1 : w65.cell? ⟨gb132, 1, none⟩ = some (.slice A0_1 l0_1.length c0_1) := (blk_cell BK132.out 1).trans rfl; have hcz67_2 : w65.cell? ⟨gb132, 2, none⟩ = some (.slice A0_2 l0_2.length c0_2) := (blk_cell BK132.out 2).trans rfl; have hfz67_0 := blk_frozen BK132.out 0; have hfz67_1 := blk_frozen BK132.out 1; have hfz67_2 := blk_frozen BK132.out 2) | ((with_reducible refine gate_callee (f := 33) rfl ?_); refine goesL_ (some 18) rfl rfl Try.func33 (by kernel_rfl) rfl #[.agg #[.slice A0_0 l0_0.length c0_0, .slice A0_1 l0_1.length c0_1, .slice A0_2 l0_2.length c0_2]] rfl (by (try simp only [List.map_toArray, List.map_cons, List.map_nil]); first | done | rfl | (simp only [List.length_drop, List.length_take]; rfl)) ?_; (with_reducible refine (matrix_shape.calls k _ _ l0_0 _ _ l0_1 _ _ l0_2 true _ ?side1 ?side2 ?side3 ?side4 ?side5 ?side6 A4.out).mono ?_); (case side1 => repeat (first | exact (Kd.C_below HR0_0.out HB.out) | (with_reducible refine Kd.C_alloc ?_ _) | (with_reducible refine Kd.C_drewN ?_ _) | (with_reducible refine Kd.C_drew ?_))); (case side2 => exact HC0_0.out); (case side3 => repeat (first | exact (Kd.C_below HR0_1.out HB.out) | (with_reducible refine Kd.C_alloc ?_ _) | (with_reducible refine Kd.C_drewN ?_ _) | (with_reducible refine Kd.C_drew ?_))); (case side4 => exact HC0_1.out); (case side5 => repeat (first | exact (Kd.C_below HR0_2.out HB.out) | (with_reducible refine Kd.C_alloc ?_ _) | (with_reducible refine Kd.C_drewN ?_ _) | (with_reducible refine Kd.C_drew ?_))); (case side6 => exact HC0_2.out); rintro e w68 ⟨rfl, hb⟩; refine ⟨_, rfl, ?_⟩; have n0_ := Am (blk_below (Kl BK132) hb); have n1_ := Am (blk_below (Kl BK133) hb); have n2_ := Am (below_step (by repeat first | exact Bl HB | refine Bp (below_set ?_ GE132.out) | refine Bp (below_set ?_ GE133.out)) hb); clear BK132 BK133 HB; have BK132 := n0_; have BK133 := n1_; have HB := n2_; clear n0_ n1_ n2_; (try clear hb); (try clear hb2); (try clear hk); (try clear hi); have hcz69_0 : w68.cell? ⟨gb132, 0, none⟩ = some (.slice A0_0 l0_0.length c0_0) := (blk_cell BK132.out 0).trans rfl; have hcz69_1 : w68.cell? ⟨gb132, 1, none⟩ = some (.slice A0_1 l0_1.length c0_1) := (blk_cell BK132.out 1).trans rfl; have hcz69_2 : w68.cell? ⟨gb132, 2, none⟩ = some (.slice A0_2 l0_2.length c0_2) := (blk_cell BK132.out 2).trans rfl; have hfz69_0 := blk_frozen BK132.out 0; have hfz69_1 := blk_frozen BK132.out 1; have hfz69_2 := blk_frozen BK132.out 2) | ((with_reducible refine gate_callee (f := 37) rfl ?_); refine goesL_ (some 25) rfl rfl Try.func37 (by kernel_rfl) rfl #[.slice A0_0 l0_0.length c0_0, .slice A1 l1.length c1] rfl (by (try simp only [List.map_toArray, List.map_cons, List.map_nil]); first | done | rfl | (simp only [List.length_drop, List.length_take]; rfl)) ?_; (with_reducible refine (matrix_indexes.calls k _ _ l0_0 _ _ l1 t135 t136 _ ?side1 ?side2 ?side3 ?side4 A6.out).mono ?_); (case side1 => repeat (first | exact (Kd.C_below HR0_0.out HB.out) | (with_reducible refine Kd.C_alloc ?_ _) | (with_reducible refine Kd.C_drewN ?_ _) | (with_reducible refine Kd.C_drew ?_))); (case side2 => exact HC0_0.out); (case side3 => repeat (first | exact (Kd.C_below HR1.out HB.out) | (with_reducible refine Kd.C_alloc ?_ _) | (with_reducible refine Kd.C_drewN ?_ _) | (with_reducible refine Kd.C_drew ?_))); (case side4 => exact HC1.out); rintro e w70 ⟨v137, rfl, ho0, hb⟩; refine ⟨_, rfl, ?_⟩; have n0_ := Am (Kd.R_lower ho0 (below_size (by repeat first | exact Bl HB | refine Bp (below_set ?_ GE132.out) | refine Bp (below_set ?_ GE133.out)))); have n1_ := Am (blk_below (Kl BK132) hb); have n2_ := Am (blk_below (Kl BK133) hb); have n3_ := Am (below_step (by repeat first | exact Bl HB | refine Bp (below_set ?_ GE132.out) | refine Bp (below_set ?_ GE133.out)) hb); clear BK132 BK133 HB; have HO138 := n0_; have BK132 := n1_; have BK133 := n2_; have HB := n3_; clear n0_ n1_ n2_ n3_; (try clear hb); (try clear hb2); (try clear hk); (try clear hi); (try clear ho0); have hcz71_0 : w70.cell? ⟨gb132, 0, none⟩ = some (.slice A0_0 l0_0.length c0_0) := (blk_cell BK132.out 0).trans rfl; have hcz71_1 : w70.cell? ⟨gb132, 1, none⟩ = some (.slice A0_1 l0_1.length c0_1) := (blk_cell BK132.out 1).trans rfl; have hcz71_2 : w70.cell? ⟨gb132, 2, none⟩ = some (.slice A0_2 l0_2.length c0_2) := (blk_cell BK132.out 2).trans rfl; have hfz71_0 := blk_frozen BK132.out 0; have hfz71_1 := blk_frozen BK132.out 1; have hfz71_2 := blk_frozen BK132.out 2) | ((with_reducible refine gate_callee (f := 37) rfl ?_); refine goesL_ (some 36) rfl rfl Try.func37 (by kernel_rfl) rfl #[.slice A0_1 l0_1.length c0_1, .slice A2 l2.length c2] rfl (by (try simp only [List.map_toArray, List.map_cons, List.map_nil]); first | done | rfl | (simp only [List.length_drop, List.length_take]; rfl)) ?_; (with_reducible refine (matrix_indexes.calls k _ _ l0_1 _ _ l2 t139 t140 _ ?side1 ?side2 ?side3 ?side4 A8.out).mono ?_); (case side1 => repeat (first | exact (Kd.C_below HR0_1.out HB.out) | (with_reducible refine Kd.C_alloc ?_ _) | (with_reducible refine Kd.C_drewN ?_ _) | (with_reducible refine Kd.C_drew ?_))); (case side2 => exact HC0_1.out); (case side3 => repeat (first | exact (Kd.C_below HR2.out HB.out) | (with_reducible refine Kd.C_alloc ?_ _) | (with_reducible refine Kd.C_drewN ?_ _) | (with_reducible refine Kd.C_drew ?_))); (case side4 => exact HC2.out); rintro e w72 ⟨v141, rfl, ho0, hb⟩; refine ⟨_, rfl, ?_⟩; have n0_ := Am (Kd.R_elder' (Rl HO138) (Kd.R_base ho0) hb); have n1_ := Am (Kd.R_lower (Kd.R_new' ho0 (Rb HO138)) (below_size (by repeat first | exact Bl HB | refine Bp (below_set ?_ GE132.out) | refine Bp (below_set ?_ GE133.out)))); have n2_ := Am (blk_below (Kl BK132) hb); have n3_ := Am (blk_below (Kl BK133) hb); have n4_ := Am (below_step (by repeat first | exact Bl HB | refine Bp (below_set ?_ GE132.out) | refine Bp (below_set ?_ GE133.out)) hb); clear HO138 BK132 BK133 HB; have HO138 := n0_; have HO142 := n1_; have BK132 := n2_; have BK133 := n3_; have HB := n4_; clear n0_ n1_ n2_ n3_ n4_; (try clear hb); (try clear hb2); (try clear hk); (try clear hi); (try clear ho0); have hcz73_0 : w72.cell? ⟨gb133, 0, none⟩ = some (.slice none 0 0) := (blk_cell BK133.out 0).trans rfl; have hcz73_1 : w72.cell? ⟨gb133, 1, none⟩ = some (.slice none 0 0) := (blk_cell BK133.out 1).trans rfl; have hcz73_2 : w72.cell? ⟨gb133, 2, none⟩ = some (.slice none 0 0) := (blk_cell BK133.out 2).trans rfl; have hfz73_0 := blk_frozen BK133.out 0; have hfz73_1 := blk_frozen BK133.out 1; have hfz73_2 := blk_frozen BK133.out 2))
    refine bodyPost_ret (results_ct rfl _ _ gb133 39 #[.slice none 0 0, .slice none 0 0, .slice none 0 0] (0, 0) _ rfl (by refine Kp ?_; refine blk_put (cs := #[.slice none 0 0, .slice none 0 0, .slice none 0 0]) ?_ 2 _ rfl; refine Kp ?_; refine blk_put (cs := #[.slice none 0 0, .slice none 0 0, .slice none 0 0]) ?_ 1 _ rfl; refine Kp ?_; refine blk_put (cs := #[.slice none 0 0, .slice none 0 0, .slice none 0 0]) ?_ 0 _ rfl; refine Kp ?_; exact BK133.out) Try.underlying39 rfl (by kernel_rfl)) rfl ?_
    exact ⟨_, _, _, by first | rfl | (simp [errW_none, errW_some] <;> rfl) | (simp [*, errW_none, errW_some] <;> rfl), by first | exact Kd.R_nil _ _ _ _ _ | exact Kd.N_nil _ _ _ _ _ | exact Kd.V_nil _ _ _ _ _ | exact Kd.Q_nil _ _ _ _ _ | exact Kd.S_nil _ _ _ _ _, by first | exact Kd.R_nil _ _ _ _ _ | exact Kd.N_nil _ _ _ _ _ | exact Kd.V_nil _ _ _ _ _ | exact Kd.Q_nil _ _ _ _ _ | exact Kd.S_nil _ _ _ _ _, by first | exact Kd.S_nil _ _ _ _ _ | exact Kd.N_nil _ _ _ _ _ | exact Kd.V_nil _ _ _ _ _ | exact Kd.Q_nil _ _ _ _ _ | exact Kd.R_nil _ _ _ _ _, by repeat first | exact Bl HB | refine Bp (below_set ?_ GE132.out) | refine Bp (below_set ?_ GE133.out)⟩
  ·rw [if_neg c7] at H
   have c7b0 : (t136 == 0) = false := beq_eq_false_iff_ne.mpr c7
   have c7b1 : (t136 != 0) = true := bne_iff_ne.mpr c7
   simp only [Option.some.injEq, Prod.mk.injEq] at H
   obtain ⟨rfl, rfl, rfl, rfl⟩ := H
   go_enter Try.func16, Try.ntmps16
   go_wp2_with (first | ((with_reducible refine gate_dst (N := 3) rfl ?_); refine box_event ?hg (N := 3) ?hd (cs := #[.slice A0_0 l0_0.length c0_0, .slice A0_1 l0_1.length c0_1, .slice A0_2 l0_2.length c0_2]) (t := 39) ?hr ?_; (case hd => rfl); (case hg => rfl); (case hr => first | (go_simp; done) | (go_simp; rfl)); intro gb132 hg w74 hbox hb; have n0_ := Am (below_step (Bl HB) hb); have n1_ := Am (hbox); have n2_ := Am ((by rw [hg]; exact (below_size (Bl HB)) : w.heap.size ≤ gb132)); have n3_ := Am ((by rw [hg]; exact (below_size (Bl HB)) : w.heap.size ≤ gb132)); clear HB; have HB := n0_; have BK132 := n1_; have GW132 := n2_; have GE132 := n3_; clear n0_ n1_ n2_ n3_; clear hb hbox hg) | ((with_reducible refine gate_dst (N := 6) rfl ?_); refine box_event ?hg (N := 6) ?hd (cs := #[.slice none 0 0, .slice none 0 0, .slice none 0 0]) (t := 39) ?hr ?_; (case hd => rfl); (case hg => rfl); (case hr => first | (go_simp; done) | (go_simp; rfl)); intro gb133 hg w75 hbox hb; have n0_ := Am (blk_below (Kl BK132) hb); have n1_ := Am (below_step (by repeat first | exact Bl HB | refine Bp (below_set ?_ GE132.out)) hb); have n2_ := Am (hbox); have n3_ := Am ((by rw [hg]; exact (below_size (by repeat first | exact Bl HB | refine Bp (below_set ?_ GE132.out))) : w.heap.size ≤ gb133)); have n4_ := Am ((by rw [hg]; exact (below_size (by repeat first | exact Bl HB | refine Bp (below_set ?_ GE132.out))) : w.heap.size ≤ gb133)); have n5_ := Am ((by rw [hg]; exact Nat.ne_of_lt (blk_lt (Kl BK132)) : gb132 ≠ gb133)); have n6_ := Am ((by rw [hg]; exact Nat.ne_of_gt (blk_lt (Kl BK132)) : gb133 ≠ gb132)); clear BK132 HB; have BK132 := n0_; have HB := n1_; have BK133 := n2_; have GW133 := n3_; have GE133 := n4_; have NB132_133 := n5_; have NB133_132 := n6_; clear n0_ n1_ n2_ n3_ n4_ n5_ n6_; clear hb hbox hg; have hnb76 := NB132_133.out; have hnc76 := NB133_132.out; have hcz77_0 : w75.cell? ⟨gb132, 0, none⟩ = some (.slice A0_0 l0_0.length c0_0) := (blk_cell BK132.out 0).trans rfl; have hcz77_1 : w75.cell? ⟨gb132, 1, none⟩ = some (.slice A0_1 l0_1.length c0_1) := (blk_cell BK132.out 1).trans rfl; have hcz77_2 : w75.cell? ⟨gb132, 2, none⟩ = some (.slice A0_2 l0_2.length c0_2) := (blk_cell BK132.out 2).trans rfl; have hfz77_0 := blk_frozen BK132.out 0; have hfz77_1 := blk_frozen BK132.out 1; have hfz77_2 := blk_frozen BK132.out 2) | ((with_reducible refine gate_callee (f := 33) rfl ?_); refine goesL_ (some 18) rfl rfl Try.func33 (by kernel_rfl) rfl #[.agg #[.slice A0_0 l0_0.length c0_0, .slice A0_1 l0_1.length c0_1, .slice A0_2 l0_2.length c0_2]] rfl (by (try simp only [List.map_toArray, List.map_cons, List.map_nil]); first | done | rfl | (simp only [List.length_drop, List.length_take]; rfl)) ?_; (with_reducible refine (matrix_shape.calls k _ _ l0_0 _ _ l0_1 _ _ l0_2 true _ ?side1 ?side2 ?side3 ?side4 ?side5 ?side6 A4.out).mono ?_); (case side1 => repeat (first | exact (Kd.C_below HR0_0.out HB.out) | (with_reducible refine Kd.C_alloc ?_ _) | (with_reducible refine Kd.C_drewN ?_ _) | (with_reducible refine Kd.C_drew ?_))); (case side2 => exact HC0_0.out); (case side3 => repeat (first | exact (Kd.C_below HR0_1.out HB.out) | (with_reducible refine Kd.C_alloc ?_ _) | (with_reducible refine Kd.C_drewN ?_ _) | (with_reducible refine Kd.C_drew ?_))); (case side4 => exact HC0_1.out); (case side5 => repeat (first | exact (Kd.C_below HR0_2.out HB.out) | (with_reducible refine Kd.C_alloc ?_ _) | (with_reducible refine Kd.C_drewN ?_ _) | (with_reducible refine Kd.C_drew ?_))); (case side6 => exact HC0_2.out); rintro e w78 ⟨rfl, hb⟩; refine ⟨_, rfl, ?_⟩; have n0_ := Am (blk_below (Kl BK132) hb); have n1_ := Am (blk_below (Kl BK133) hb); have n2_ := Am (below_step (by repeat first | exact Bl HB | refine Bp (below_set ?_ GE132.out) | refine Bp (below_set ?_ GE133.out)) hb); clear BK132 BK133 HB; have BK132 := n0_; have BK133 := n1_; have HB := n2_; clear n0_ n1_ n2_; (try clear hb); (try clear hb2); (try clear hk); (try clear hi); have hcz79_0 : w78.cell? ⟨gb132, 0, none⟩ = some (.slice A0_0 l0_0.length c0_0) := (blk_cell BK132.out 0).trans rfl; have hcz79_1 : w78.cell? ⟨gb132, 1, none⟩ = some (.slice A0_1 l0_1.length c0_1) := (blk_cell BK132.out 1).trans rfl; have hcz79_2 : w78.cell? ⟨gb132, 2, none⟩ = some (.slice A0_2 l0_2.length c0_2) := (blk_cell BK132.out 2).trans rfl; have hfz79_0 := blk_frozen BK132.out 0; have hfz79_1 := blk_frozen BK132.out 1; have hfz79_2 := blk_frozen BK132.out 2) | ((with_reducible refine gate_callee (f := 37) rfl ?_); refine goesL_ (some 25) rfl rfl Try.func37 (by kernel_rfl) rfl #[.slice A0_0 l0_0.length c0_0, .slice A1 l1.length c1] rfl (by (try simp only [List.map_toArray, List.map_cons, List.map_nil]); first | done | rfl | (simp only [List.length_drop, List.length_take]; rfl)) ?_; (with_reducible refine (matrix_indexes.calls k _ _ l0_0 _ _ l1 t135 t136 _ ?side1 ?side2 ?side3 ?side4 A6.out).mono ?_); (case side1 => repeat (first | exact (Kd.C_below HR0_0.out HB.out) | (with_reducible refine Kd.C_alloc ?_ _) | (with_reducible refine Kd.C_drewN ?_ _) | (with_reducible refine Kd.C_drew ?_))); (case side2 => exact HC0_0.out); (case side3 => repeat (first | exact (Kd.C_below HR1.out HB.out) | (with_reducible refine Kd.C_alloc ?_ _) | (with_reducible refine Kd.C_drewN ?_ _) | (with_reducible refine Kd.C_drew ?_))); (case side4 => exact HC1.out); rintro e w80 ⟨v137, rfl, ho0, hb⟩; refine ⟨_, rfl, ?_⟩; have n0_ := Am (Kd.R_lower ho0 (below_size (by repeat first | exact Bl HB | refine Bp (below_set ?_ GE132.out) | refine Bp (below_set ?_ GE133.out)))); have n1_ := Am (blk_below (Kl BK132) hb); have n2_ := Am (blk_below (Kl BK133) hb); have n3_ := Am (below_step (by repeat first | exact Bl HB | refine Bp (below_set ?_ GE132.out) | refine Bp (below_set ?_ GE133.out)) hb); clear BK132 BK133 HB; have HO138 := n0_; have BK132 := n1_; have BK133 := n2_; have HB := n3_; clear n0_ n1_ n2_ n3_; (try clear hb); (try clear hb2); (try clear hk); (try clear hi); (try clear ho0); have hcz81_0 : w80.cell? ⟨gb133, 0, none⟩ = some (.slice none 0 0) := (blk_cell BK133.out 0).trans rfl; have hcz81_1 : w80.cell? ⟨gb133, 1, none⟩ = some (.slice none 0 0) := (blk_cell BK133.out 1).trans rfl; have hcz81_2 : w80.cell? ⟨gb133, 2, none⟩ = some (.slice none 0 0) := (blk_cell BK133.out 2).trans rfl; have hfz81_0 := blk_frozen BK133.out 0; have hfz81_1 := blk_frozen BK133.out 1; have hfz81_2 := blk_frozen BK133.out 2))
   refine bodyPost_ret (results_ct rfl _ _ gb133 39 #[.slice none 0 0, .slice none 0 0, .slice none 0 0] (0, 0) _ rfl (by refine Kp ?_; refine blk_put (cs := #[.slice none 0 0, .slice none 0 0, .slice none 0 0]) ?_ 2 _ rfl; refine Kp ?_; refine blk_put (cs := #[.slice none 0 0, .slice none 0 0, .slice none 0 0]) ?_ 1 _ rfl; refine Kp ?_; refine blk_put (cs := #[.slice none 0 0, .slice none 0 0, .slice none 0 0]) ?_ 0 _ rfl; refine Kp ?_; exact BK133.out) Try.underlying39 rfl (by kernel_rfl)) rfl ?_
   exact ⟨_, _, _, by first | rfl | (simp [errW_none, errW_some] <;> rfl) | (simp [*, errW_none, errW_some] <;> rfl), by first | exact Kd.R_nil _ _ _ _ _ | exact Kd.N_nil _ _ _ _ _ | exact Kd.V_nil _ _ _ _ _ | exact Kd.Q_nil _ _ _ _ _ | exact Kd.S_nil _ _ _ _ _, by first | exact Kd.R_nil _ _ _ _ _ | exact Kd.N_nil _ _ _ _ _ | exact Kd.V_nil _ _ _ _ _ | exact Kd.Q_nil _ _ _ _ _ | exact Kd.S_nil _ _ _ _ _, by first | exact Kd.S_nil _ _ _ _ _ | exact Kd.N_nil _ _ _ _ _ | exact Kd.V_nil _ _ _ _ _ | exact Kd.Q_nil _ _ _ _ _ | exact Kd.R_nil _ _ _ _ _, by repeat first | exact Bl HB | refine Bp (below_set ?_ GE132.out) | refine Bp (below_set ?_ GE133.out)⟩
 ·replace c5 := Bool.eq_false_iff.mpr c5
  subst c5
  have H1 : (some (([] : List Int), ([] : List Int), ([] : List (List Int)), 1)) = some (r1, r2, r3, r4) := by rw [if_neg (show ¬ (false = true) by decide)] at H; exact H
  clear H
  have H := H1
  clear H1
  simp only [Option.some.injEq, Prod.mk.injEq] at H
  obtain ⟨rfl, rfl, rfl, rfl⟩ := H
  go_enter Try.func16, Try.ntmps16
  go_wp2_with (first | ((with_reducible refine gate_dst (N := 3) rfl ?_); refine box_event ?hg (N := 3) ?hd (cs := #[.slice A0_0 l0_0.length c0_0, .slice A0_1 l0_1.length c0_1, .slice A0_2 l0_2.length c0_2]) (t := 39) ?hr ?_; (case hd => rfl); (case hg => rfl); (case hr => first | (go_simp; done) | (go_simp; rfl)); intro gb132 hg w82 hbox hb; have n0_ := Am (below_step (Bl HB) hb); have n1_ := Am (hbox); have n2_ := Am ((by rw [hg]; exact (below_size (Bl HB)) : w.heap.size ≤ gb132)); have n3_ := Am ((by rw [hg]; exact (below_size (Bl HB)) : w.heap.size ≤ gb132)); clear HB; have HB := n0_; have BK132 := n1_; have GW132 := n2_; have GE132 := n3_; clear n0_ n1_ n2_ n3_; clear hb hbox hg) | ((with_reducible refine gate_dst (N := 6) rfl ?_); refine box_event ?hg (N := 6) ?hd (cs := #[.slice none 0 0, .slice none 0 0, .slice none 0 0]) (t := 39) ?hr ?_; (case hd => rfl); (case hg => rfl); (case hr => first | (go_simp; done) | (go_simp; rfl)); intro gb133 hg w83 hbox hb; have n0_ := Am (blk_below (Kl BK132) hb); have n1_ := Am (below_step (by repeat first | exact Bl HB | refine Bp (below_set ?_ GE132.out)) hb); have n2_ := Am (hbox); have n3_ := Am ((by rw [hg]; exact (below_size (by repeat first | exact Bl HB | refine Bp (below_set ?_ GE132.out))) : w.heap.size ≤ gb133)); have n4_ := Am ((by rw [hg]; exact (below_size (by repeat first | exact Bl HB | refine Bp (below_set ?_ GE132.out))) : w.heap.size ≤ gb133)); have n5_ := Am ((by rw [hg]; exact Nat.ne_of_lt (blk_lt (Kl BK132)) : gb132 ≠ gb133)); have n6_ := Am ((by rw [hg]; exact Nat.ne_of_gt (blk_lt (Kl BK132)) : gb133 ≠ gb132)); clear BK132 HB; have BK132 := n0_; have HB := n1_; have BK133 := n2_; have GW133 := n3_; have GE133 := n4_; have NB132_133 := n5_; have NB133_132 := n6_; clear n0_ n1_ n2_ n3_ n4_ n5_ n6_; clear hb hbox hg; have hnb84 := NB132_133.out; have hnc84 := NB133_132.out; have hcz85_0 : w83.cell? ⟨gb132, 0, none⟩ = some (.slice A0_0 l0_0.length c0_0) := (blk_cell BK132.out 0).trans rfl; have hcz85_1 : w83.cell? ⟨gb132, 1, none⟩ = some (.slice A0_1 l0_1.length c0_1) := (blk_cell BK132.out 1).trans rfl; have hcz85_2 : w83.cell? ⟨gb132, 2, none⟩ = some (.slice A0_2 l0_2.length c0_2) := (blk_cell BK132.out 2).trans rfl; have hfz85_0 := blk_frozen BK132.out 0; have hfz85_1 := blk_frozen BK132.out 1; have hfz85_2 := blk_frozen BK132.out 2) | ((with_reducible refine gate_callee (f := 33) rfl ?_); refine goesL_ (some 18) rfl rfl Try.func33 (by kernel_rfl) rfl #[.agg #[.slice A0_0 l0_0.length c0_0, .slice A0_1 l0_1.length c0_1, .slice A0_2 l0_2.length c0_2]] rfl (by (try simp only [List.map_toArray, List.map_cons, List.map_nil]); first | done | rfl | (simp only [List.length_drop, List.length_take]; rfl)) ?_; (with_reducible refine (matrix_shape.calls k _ _ l0_0 _ _ l0_1 _ _ l0_2 false _ ?side1 ?side2 ?side3 ?side4 ?side5 ?side6 A4.out).mono ?_); (case side1 => repeat (first | exact (Kd.C_below HR0_0.out HB.out) | (with_reducible refine Kd.C_alloc ?_ _) | (with_reducible refine Kd.C_drewN ?_ _) | (with_reducible refine Kd.C_drew ?_))); (case side2 => exact HC0_0.out); (case side3 => repeat (first | exact (Kd.C_below HR0_1.out HB.out) | (with_reducible refine Kd.C_alloc ?_ _) | (with_reducible refine Kd.C_drewN ?_ _) | (with_reducible refine Kd.C_drew ?_))); (case side4 => exact HC0_1.out); (case side5 => repeat (first | exact (Kd.C_below HR0_2.out HB.out) | (with_reducible refine Kd.C_alloc ?_ _) | (with_reducible refine Kd.C_drewN ?_ _) | (with_reducible refine Kd.C_drew ?_))); (case side6 => exact HC0_2.out); rintro e w86 ⟨rfl, hb⟩; refine ⟨_, rfl, ?_⟩; have n0_ := Am (blk_below (Kl BK132) hb); have n1_ := Am (blk_below (Kl BK133) hb); have n2_ := Am (below_step (by repeat first | exact Bl HB | refine Bp (below_set ?_ GE132.out) | refine Bp (below_set ?_ GE133.out)) hb); clear BK132 BK133 HB; have BK132 := n0_; have BK133 := n1_; have HB := n2_; clear n0_ n1_ n2_; (try clear hb); (try clear hb2); (try clear hk); (try clear hi); have hcz87_0 : w86.cell? ⟨gb133, 0, none⟩ = some (.slice none 0 0) := (blk_cell BK133.out 0).trans rfl; have hcz87_1 : w86.cell? ⟨gb133, 1, none⟩ = some (.slice none 0 0) := (blk_cell BK133.out 1).trans rfl; have hcz87_2 : w86.cell? ⟨gb133, 2, none⟩ = some (.slice none 0 0) := (blk_cell BK133.out 2).trans rfl; have hfz87_0 := blk_frozen BK133.out 0; have hfz87_1 := blk_frozen BK133.out 1; have hfz87_2 := blk_frozen BK133.out 2))
  refine bodyPost_ret (results_ct rfl _ _ gb133 39 #[.slice none 0 0, .slice none 0 0, .slice none 0 0] (0, 0) _ rfl (by refine Kp ?_; refine blk_put (cs := #[.slice none 0 0, .slice none 0 0, .slice none 0 0]) ?_ 2 _ rfl; refine Kp ?_; refine blk_put (cs := #[.slice none 0 0, .slice none 0 0, .slice none 0 0]) ?_ 1 _ rfl; refine Kp ?_; refine blk_put (cs := #[.slice none 0 0, .slice none 0 0, .slice none 0 0]) ?_ 0 _ rfl; refine Kp ?_; exact BK133.out) Try.underlying39 rfl (by kernel_rfl)) rfl ?_
  exact ⟨_, _, _, by first | rfl | (simp [errW_none, errW_some] <;> rfl) | (simp [*, errW_none, errW_some] <;> rfl), by first | exact Kd.R_nil _ _ _ _ _ | exact Kd.N_nil _ _ _ _ _ | exact Kd.V_nil _ _ _ _ _ | exact Kd.Q_nil _ _ _ _ _ | exact Kd.S_nil _ _ _ _ _, by first | exact Kd.R_nil _ _ _ _ _ | exact Kd.N_nil _ _ _ _ _ | exact Kd.V_nil _ _ _ _ _ | exact Kd.Q_nil _ _ _ _ _ | exact Kd.S_nil _ _ _ _ _, by first | exact Kd.S_nil _ _ _ _ _ | exact Kd.N_nil _ _ _ _ _ | exact Kd.V_nil _ _ _ _ _ | exact Kd.Q_nil _ _ _ _ _ | exact Kd.R_nil _ _ _ _ _, by repeat first | exact Bl HB | refine Bp (below_set ?_ GE132.out) | refine Bp (below_set ?_ GE133.out)⟩

end Go.Proofs.Ytgeplglggcoaiab.Matrix
