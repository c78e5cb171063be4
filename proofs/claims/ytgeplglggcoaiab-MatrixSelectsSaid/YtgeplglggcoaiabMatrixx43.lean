/- Lean functions and walks for Go functions of this seat, written by this claim's own program (wip/tools/xprint.py) over the kit's print. -/
import Derived.Test.YtgeplglggcoaiabMatrixx0
import Derived.Test.YtgeplglggcoaiabMatrixx10
import Derived.Test.YtgeplglggcoaiabMatrixx25
import Derived.Test.YtgeplglggcoaiabMatrixx26
import Derived.Test.YtgeplglggcoaiabMatrixx28
import Derived.Test.YtgeplglggcoaiabMatrixx34
import Derived.Test.YtgeplglggcoaiabMatrixx42
namespace Go.Proofs.Ytgeplglggcoaiab.Matrix
open Go.RowKit Go.Sort Go.Proofs.YtgeplglggcoaiabMakec Go.Proofs.YtgeplglggcoaiabW.PrintWords Go.Proofs.YtgeplglggcoaiabW.PrintLast Go.Proofs.YtgeplglggcoaiabW.PrintMore
attribute [local go_sem] max2_int min2_int max_two min_two max_three min_three max_four min_four   -- for this text's walks alone
set_option linter.unusedVariables false
set_option linter.unusedSimpArgs false

/-! ### examboardlaw24_MatrixSelects: function 8 -/
mutual
def examboardlaw24_MatrixSelects.j0 : Nat → List Int → List Int → Bool → List Int → List Int → List (List Int) → Option (Bool)
 | 0, _, _, _, _, _, _ => none
 | k + 1, x1, x2, x44, x571000, x571001, x571002 => if x44 = true then (none) else ((matrix_Select.f k x571000 x571001 x571002 x1 x2).bind fun bt584 => (if bt584.2.2.2 = 0 then ((matrix_Select.f k bt584.1 bt584.2.1 bt584.2.2.1 x1 x2).bind fun bt597 => (if bt597.2.2.2 = 0 then ((examboardlaw24_same.f k bt584.1 bt584.2.1 bt584.2.2.1 bt597.1 bt597.2.1 bt597.2.2.1).bind fun t608 => (if t608 = true then ((examboardlaw24_equal.f k bt584.1 x1).bind fun t609 => (if t609 = true then ((examboardlaw24_equal.f k bt584.2.1 x2).bind fun t610 => (examboardlaw24_MatrixSelects.j1 k x1 x2 (!t610) bt584.1 bt584.2.1 bt584.2.2.1)) else (none))) else (none))) else (none))) else ((examboardlaw24_same.f k bt584.1 bt584.2.1 bt584.2.2.1 ([] : List Int) ([] : List Int) ([] : List (List Int))).bind fun t595 => (if t595 = true then ((examboardlaw24_awake.f k).bind fun t596 => (some t596)) else (none)))))
def examboardlaw24_MatrixSelects.j1 : Nat → List Int → List Int → Bool → List Int → List Int → List (List Int) → Option (Bool)
 | 0, _, _, _, _, _, _ => none
 | k + 1, x1, x2, x88, x595000, x595001, x595002 => if x88 = true then (none) else (examboardlaw24_MatrixSelects.l0 k x1 x2 (x2.length : Int) 0 x595000 x595001 x595002)
def examboardlaw24_MatrixSelects.l0 : Nat → List Int → List Int → Int → Int → List Int → List Int → List (List Int) → Option (Bool)
 | 0, _, _, _, _, _, _, _ => none
 | k + 1, x1, x89, x90, x91, x595000, x595001, x595002 => if x91 < x90 then (if 0 ≤ x91 then (if x91 < (x89.length : Int) then ((matrix_Column.f k x595000 x595001 x595002 x91).bind fun bt613 => (if bt613.2 = true then (examboardlaw24_MatrixSelects.j3 k x1 (rd x89 x91) bt613.1 x89 x90 x91 ((bt613.1.length : Int) != (x1.length : Int)) x595000 x595001 x595002) else (none))) else (none)) else (none)) else ((examboardlaw24_awake.f k).bind fun t611 => (some t611))
def examboardlaw24_MatrixSelects.j3 : Nat → List Int → Int → List Int → List Int → Int → Int → Bool → List Int → List Int → List (List Int) → Option (Bool)
 | 0, _, _, _, _, _, _, _, _, _, _ => none
 | k + 1, x1, x14, x15, x89, x90, x91, x110, x595000, x595001, x595002 => if x110 = true then (none) else ((matrix_Select.f k x595000 x595001 x595002 x1 (([x14] : List Int))).bind fun bt620 => ((matrix_Column.f k bt620.1 bt620.2.1 bt620.2.2.1 0).bind fun bt631 => (if bt620.2.2.2 = 0 then (if bt631.2 = true then ((examboardlaw24_equal.f k x15 bt631.1).bind fun t635 => (if t635 = true then (examboardlaw24_MatrixSelects.l0 k x1 x89 x90 (wrap64 (x91 + 1)) x595000 x595001 x595002) else (none))) else (none)) else (none))))
end
def examboardlaw24_MatrixSelects.f (k : Nat) (l0_0 : List Int) (l0_1 : List Int) (l0_2 : List (List Int)) (l1 : List Int) (l2 : List Int) : Option (Bool) := (matrix_Select.f k l0_0 l0_1 l0_2 l0_0 l0_1).bind fun bt571 => ((examboardlaw24_fits.f k l0_0 l0_1 l0_2).bind fun t582 => (if ((bt571.2.2.2 == 0) != t582) = true then (none) else (if bt571.2.2.2 = 0 then ((examboardlaw24_same.f k bt571.1 bt571.2.1 bt571.2.2.1 l0_0 l0_1 l0_2).bind fun t583 => (examboardlaw24_MatrixSelects.j0 k l1 l2 (!t583) l0_0 l0_1 l0_2)) else (examboardlaw24_MatrixSelects.j0 k l1 l2 false l0_0 l0_1 l0_2))))
theorem examboardlaw24_MatrixSelects.mono_l : ∀ k, (∀ y0 y1 y2 y3 y4 y5, LeO (examboardlaw24_MatrixSelects.j0 k y0 y1 y2 y3 y4 y5) (examboardlaw24_MatrixSelects.j0 (k + 1) y0 y1 y2 y3 y4 y5)) ∧ (∀ y0 y1 y2 y3 y4 y5, LeO (examboardlaw24_MatrixSelects.j1 k y0 y1 y2 y3 y4 y5) (examboardlaw24_MatrixSelects.j1 (k + 1) y0 y1 y2 y3 y4 y5)) ∧ (∀ y0 y1 y2 y3 y4 y5 y6, LeO (examboardlaw24_MatrixSelects.l0 k y0 y1 y2 y3 y4 y5 y6) (examboardlaw24_MatrixSelects.l0 (k + 1) y0 y1 y2 y3 y4 y5 y6)) ∧ (∀ y0 y1 y2 y3 y4 y5 y6 y7 y8 y9, LeO (examboardlaw24_MatrixSelects.j3 k y0 y1 y2 y3 y4 y5 y6 y7 y8 y9) (examboardlaw24_MatrixSelects.j3 (k + 1) y0 y1 y2 y3 y4 y5 y6 y7 y8 y9))
 | 0 => ⟨fun _ _ _ _ _ _ r h => by simp [examboardlaw24_MatrixSelects.j0] at h, fun _ _ _ _ _ _ r h => by simp [examboardlaw24_MatrixSelects.j1] at h, fun _ _ _ _ _ _ _ r h => by simp [examboardlaw24_MatrixSelects.l0] at h, fun _ _ _ _ _ _ _ _ _ _ r h => by simp [examboardlaw24_MatrixSelects.j3] at h⟩
 | k + 1 => by
  obtain ⟨ih0, ih1, ih2, ih3⟩ := examboardlaw24_MatrixSelects.mono_l k
  refine ⟨?_, ?_, ?_, ?_⟩
  ·intro y0 y1 y2 y3 y4 y5
   unfold examboardlaw24_MatrixSelects.j0
   repeat' first
   | (with_reducible exact ih0 _ _ _ _ _ _)
   | (with_reducible exact ih1 _ _ _ _ _ _)
   | (with_reducible exact ih2 _ _ _ _ _ _ _)
   | (with_reducible exact ih3 _ _ _ _ _ _ _ _ _ _)
   | (with_reducible exact examboardlaw24_awake.mono _)
   | (with_reducible exact examboardlaw24_equal.mono _ _ _)
   | (with_reducible exact examboardlaw24_fits.mono _ _ _ _)
   | (with_reducible exact examboardlaw24_same.mono _ _ _ _ _ _ _)
   | (with_reducible exact matrix_Column.mono _ _ _ _ _)
   | (with_reducible exact matrix_Select.mono _ _ _ _ _ _)
   | (with_reducible exact LeO.refl _)
   | (with_reducible exact LeO.none _)
   | (with_reducible refine LeO.ite ?_ ?_)
   | (with_reducible refine LeO.bind ?_ (fun _ => ?_))
   | exact ih0 _ _ _ _ _ _
   | exact ih1 _ _ _ _ _ _
   | exact ih2 _ _ _ _ _ _ _
   | exact ih3 _ _ _ _ _ _ _ _ _ _
   | exact examboardlaw24_awake.mono _
   | exact examboardlaw24_equal.mono _ _ _
   | exact examboardlaw24_fits.mono _ _ _ _
   | exact examboardlaw24_same.mono _ _ _ _ _ _ _
   | exact matrix_Column.mono _ _ _ _ _
   | exact matrix_Select.mono _ _ _ _ _ _
   | exact LeO.none _
   | refine LeO.ite ?_ ?_
   | refine LeO.bind ?_ (fun _ => ?_)
  ·intro y0 y1 y2 y3 y4 y5
   unfold examboardlaw24_MatrixSelects.j1
   repeat' first
   | (with_reducible exact ih0 _ _ _ _ _ _)
   | (with_reducible exact ih1 _ _ _ _ _ _)
   | (with_reducible exact ih2 _ _ _ _ _ _ _)
   | (with_reducible exact ih3 _ _ _ _ _ _ _ _ _ _)
   | (with_reducible exact examboardlaw24_awake.mono _)
   | (with_reducible exact examboardlaw24_equal.mono _ _ _)
   | (with_reducible exact examboardlaw24_fits.mono _ _ _ _)
   | (with_reducible exact examboardlaw24_same.mono _ _ _ _ _ _ _)
   | (with_reducible exact matrix_Column.mono _ _ _ _ _)
   | (with_reducible exact matrix_Select.mono _ _ _ _ _ _)
   | (with_reducible exact LeO.refl _)
   | (with_reducible exact LeO.none _)
   | (with_reducible refine LeO.ite ?_ ?_)
   | (with_reducible refine LeO.bind ?_ (fun _ => ?_))
   | exact ih0 _ _ _ _ _ _
   | exact ih1 _ _ _ _ _ _
   | exact ih2 _ _ _ _ _ _ _
   | exact ih3 _ _ _ _ _ _ _ _ _ _
   | exact examboardlaw24_awake.mono _
   | exact examboardlaw24_equal.mono _ _ _
   | exact examboardlaw24_fits.mono _ _ _ _
   | exact examboardlaw24_same.mono _ _ _ _ _ _ _
   | exact matrix_Column.mono _ _ _ _ _
   | exact matrix_Select.mono _ _ _ _ _ _
   | exact LeO.none _
   | refine LeO.ite ?_ ?_
   | refine LeO.bind ?_ (fun _ => ?_)
  ·intro y0 y1 y2 y3 y4 y5 y6
   unfold examboardlaw24_MatrixSelects.l0
   repeat' first
   | (with_reducible exact ih0 _ _ _ _ _ _)
   | (with_reducible exact ih1 _ _ _ _ _ _)
   | (with_reducible exact ih2 _ _ _ _ _ _ _)
   | (with_reducible exact ih3 _ _ _ _ _ _ _ _ _ _)
   | (with_reducible exact examboardlaw24_awake.mono _)
   | (with_reducible exact examboardlaw24_equal.mono _ _ _)
   | (with_reducible exact examboardlaw24_fits.mono _ _ _ _)
   | (with_reducible exact examboardlaw24_same.mono _ _ _ _ _ _ _)
   | (with_reducible exact matrix_Column.mono _ _ _ _ _)
   | (with_reducible exact matrix_Select.mono _ _ _ _ _ _)
   | (with_reducible exact LeO.refl _)
   | (with_reducible exact LeO.none _)
   | (with_reducible refine LeO.ite ?_ ?_)
   | (with_reducible refine LeO.bind ?_ (fun _ => ?_))
   | exact ih0 _ _ _ _ _ _
   | exact ih1 _ _ _ _ _ _
   | exact ih2 _ _ _ _ _ _ _
   | exact ih3 _ _ _ _ _ _ _ _ _ _
   | exact examboardlaw24_awake.mono _
   | exact examboardlaw24_equal.mono _ _ _
   | exact examboardlaw24_fits.mono _ _ _ _
   | exact examboardlaw24_same.mono _ _ _ _ _ _ _
   | exact matrix_Column.mono _ _ _ _ _
   | exact matrix_Select.mono _ _ _ _ _ _
   | exact LeO.none _
   | refine LeO.ite ?_ ?_
   | refine LeO.bind ?_ (fun _ => ?_)
  ·intro y0 y1 y2 y3 y4 y5 y6 y7 y8 y9
   unfold examboardlaw24_MatrixSelects.j3
   repeat' first
   | (with_reducible exact ih0 _ _ _ _ _ _)
   | (with_reducible exact ih1 _ _ _ _ _ _)
   | (with_reducible exact ih2 _ _ _ _ _ _ _)
   | (with_reducible exact ih3 _ _ _ _ _ _ _ _ _ _)
   | (with_reducible exact examboardlaw24_awake.mono _)
   | (with_reducible exact examboardlaw24_equal.mono _ _ _)
   | (with_reducible exact examboardlaw24_fits.mono _ _ _ _)
   | (with_reducible exact examboardlaw24_same.mono _ _ _ _ _ _ _)
   | (with_reducible exact matrix_Column.mono _ _ _ _ _)
   | (with_reducible exact matrix_Select.mono _ _ _ _ _ _)
   | (with_reducible exact LeO.refl _)
   | (with_reducible exact LeO.none _)
   | (with_reducible refine LeO.ite ?_ ?_)
   | (with_reducible refine LeO.bind ?_ (fun _ => ?_))
   | exact ih0 _ _ _ _ _ _
   | exact ih1 _ _ _ _ _ _
   | exact ih2 _ _ _ _ _ _ _
   | exact ih3 _ _ _ _ _ _ _ _ _ _
   | exact examboardlaw24_awake.mono _
   | exact examboardlaw24_equal.mono _ _ _
   | exact examboardlaw24_fits.mono _ _ _ _
   | exact examboardlaw24_same.mono _ _ _ _ _ _ _
   | exact matrix_Column.mono _ _ _ _ _
   | exact matrix_Select.mono _ _ _ _ _ _
   | exact LeO.none _
   | refine LeO.ite ?_ ?_
   | refine LeO.bind ?_ (fun _ => ?_)
theorem examboardlaw24_MatrixSelects.mono : ∀ a0 a1 a2 a3 a4 k, LeO (examboardlaw24_MatrixSelects.f k a0 a1 a2 a3 a4) (examboardlaw24_MatrixSelects.f (k + 1) a0 a1 a2 a3 a4) := by
 intro a0 a1 a2 a3 a4 k
 obtain ⟨ih0, ih1, ih2, ih3⟩ := examboardlaw24_MatrixSelects.mono_l k
 unfold examboardlaw24_MatrixSelects.f
 repeat' first
   | (with_reducible exact ih0 _ _ _ _ _ _)
   | (with_reducible exact ih1 _ _ _ _ _ _)
   | (with_reducible exact ih2 _ _ _ _ _ _ _)
   | (with_reducible exact ih3 _ _ _ _ _ _ _ _ _ _)
   | (with_reducible exact examboardlaw24_awake.mono _)
   | (with_reducible exact examboardlaw24_equal.mono _ _ _)
   | (with_reducible exact examboardlaw24_fits.mono _ _ _ _)
   | (with_reducible exact examboardlaw24_same.mono _ _ _ _ _ _ _)
   | (with_reducible exact matrix_Column.mono _ _ _ _ _)
   | (with_reducible exact matrix_Select.mono _ _ _ _ _ _)
   | (with_reducible exact LeO.refl _)
   | (with_reducible exact LeO.none _)
   | (with_reducible refine LeO.ite ?_ ?_)
   | (with_reducible refine LeO.bind ?_ (fun _ => ?_))
   | exact ih0 _ _ _ _ _ _
   | exact ih1 _ _ _ _ _ _
   | exact ih2 _ _ _ _ _ _ _
   | exact ih3 _ _ _ _ _ _ _ _ _ _
   | exact examboardlaw24_awake.mono _
   | exact examboardlaw24_equal.mono _ _ _
   | exact examboardlaw24_fits.mono _ _ _ _
   | exact examboardlaw24_same.mono _ _ _ _ _ _ _
   | exact matrix_Column.mono _ _ _ _ _
   | exact matrix_Select.mono _ _ _ _ _ _
   | exact LeO.none _
   | refine LeO.ite ?_ ?_
   | refine LeO.bind ?_ (fun _ => ?_)
set_option maxHeartbeats 8000000 in
set_option maxRecDepth 100000 in
theorem examboardlaw24_MatrixSelects.calls (k : Nat) (A0_0 : Option Addr) (c0_0 : Nat) (l0_0 : List Int) (A0_1 : Option Addr) (c0_1 : Nat) (l0_1 : List Int) (A0_2 : Option Addr) (c0_2 : Nat) (l0_2 : List (List Int)) (A1 : Option Addr) (c1 : Nat) (l1 : List Int) (A2 : Option Addr) (c2 : Nat) (l2 : List Int) (r : Bool) (w : World) (hr0_0 : Kd.C (Kd.int .i64) w A0_0 l0_0.length l0_0) (hc0_0 : l0_0.length ≤ c0_0) (hr0_1 : Kd.C (Kd.int .i64) w A0_1 l0_1.length l0_1) (hc0_1 : l0_1.length ≤ c0_1) (hr0_2 : Kd.C (Kd.slice 3 (Kd.int .i64)) w A0_2 l0_2.length l0_2) (hc0_2 : l0_2.length ≤ c0_2) (hr1 : Kd.C (Kd.int .i64) w A1 l1.length l1) (hc1 : l1.length ≤ c1) (hr2 : Kd.C (Kd.int .i64) w A2 l2.length l2) (hc2 : l2.length ≤ c2) (h : examboardlaw24_MatrixSelects.f k l0_0 l0_1 l0_2 l1 l2 = some r) :
  Calls Try.prog 8 #[.agg #[.slice A0_0 l0_0.length c0_0, .slice A0_1 l0_1.length c0_1, .slice A0_2 l0_2.length c0_2], .slice A1 l1.length c1, .slice A2 l2.length c2] w fun e w' => e = .returned (.bool r) ∧ Below w.heap.size w w' := by
 have hu39 := Try.underlying39
 have HR0_0 := Am hr0_0
 have HC0_0 := Am hc0_0
 clear hr0_0 hc0_0
 have HR0_1 := Am hr0_1
 have HC0_1 := Am hc0_1
 clear hr0_1 hc0_1
 have HR0_2 := Am hr0_2
 have HC0_2 := Am hc0_2
 clear hr0_2 hc0_2
 have HR1 := Am hr1
 have HC1 := Am hc1
 clear hr1 hc1
 have HR2 := Am hr2
 have HC2 := Am hc2
 clear hr2 hc2
 have HB := Am (Below.refl w.heap.size w)
 have H : ((matrix_Select.f k l0_0 l0_1 l0_2 l0_0 l0_1).bind fun bt571 => ((examboardlaw24_fits.f k l0_0 l0_1 l0_2).bind fun t582 => (if ((bt571.2.2.2 == 0) != t582) = true then (none) else (if bt571.2.2.2 = 0 then ((examboardlaw24_same.f k bt571.1 bt571.2.1 bt571.2.2.1 l0_0 l0_1 l0_2).bind fun t583 => (examboardlaw24_MatrixSelects.j0 k l1 l2 (!t583) l0_0 l0_1 l0_2)) else (examboardlaw24_MatrixSelects.j0 k l1 l2 false l0_0 l0_1 l0_2))))) = some r := h
 clear h
 replace H := Option.bind_eq_some_iff.mp H
 obtain ⟨⟨t571, t574, t577, t580⟩, A40, H⟩ := H
 replace H : ((examboardlaw24_fits.f k l0_0 l0_1 l0_2).bind fun t582 => (if ((t580 == 0) != t582) = true then (none) else (if t580 = 0 then ((examboardlaw24_same.f k t571 t574 t577 l0_0 l0_1 l0_2).bind fun t583 => (examboardlaw24_MatrixSelects.j0 k l1 l2 (!t583) l0_0 l0_1 l0_2)) else (examboardlaw24_MatrixSelects.j0 k l1 l2 false l0_0 l0_1 l0_2)))) = some r := H
 have A4 := Am A40
 clear A40
 have HC5 := Am H
 clear H
 go_enter Try.func8, Try.ntmps8
 go_upto_region 2 with (first | ((with_reducible refine gate_dst (N := 3) rfl ?_); (try (refine gate_guard (by rfl) ?_; dsimp only)); refine box_event ?hg (N := 3) ?hd (cs := #[.slice A0_0 l0_0.length c0_0, .slice A0_1 l0_1.length c0_1, .slice A0_2 l0_2.length c0_2]) (t := 39) ?hr ?_; (case hd => rfl); (case hg => rfl); (case hr => first | (go_simp; done) | (go_simp; rfl)); intro gb570 hg w6 hbox hb; have n0_ := Am (below_step (Bl HB) hb); have n1_ := Am (hbox); have n2_ := Am ((by rw [hg]; exact (below_size (Bl HB)) : w.heap.size ≤ gb570)); have n3_ := Am ((by rw [hg]; exact (below_size (Bl HB)) : w.heap.size ≤ gb570)); clear HB; have HB := n0_; have BK570 := n1_; have GW570 := n2_; have GE570 := n3_; clear n0_ n1_ n2_ n3_; clear hb hbox hg; have hcz7_0 : w6.cell? ⟨gb570, 0, none⟩ = some (.slice A0_0 l0_0.length c0_0) := (blk_cell BK570.out 0).trans rfl; have hcz7_1 : w6.cell? ⟨gb570, 1, none⟩ = some (.slice A0_1 l0_1.length c0_1) := (blk_cell BK570.out 1).trans rfl; have hcz7_2 : w6.cell? ⟨gb570, 2, none⟩ = some (.slice A0_2 l0_2.length c0_2) := (blk_cell BK570.out 2).trans rfl; have hfz7_0 := blk_frozen BK570.out 0; have hfz7_1 := blk_frozen BK570.out 1; have hfz7_2 := blk_frozen BK570.out 2) | ((with_reducible refine gate_callee (f := 16) rfl ?_); refine goesL_ (some 27) rfl rfl Try.func16 (by kernel_rfl) rfl #[.agg #[.slice A0_0 l0_0.length c0_0, .slice A0_1 l0_1.length c0_1, .slice A0_2 l0_2.length c0_2], .slice A0_0 l0_0.length c0_0, .slice A0_1 l0_1.length c0_1] rfl (by (try simp only [List.map_toArray, List.map_cons, List.map_nil]); first | done | rfl | (simp only [List.length_drop, List.length_take]; rfl)) ?_; (with_reducible refine (matrix_Select.calls k _ _ l0_0 _ _ l0_1 _ _ l0_2 _ _ l0_0 _ _ l0_1 t571 t574 t577 t580 _ ?side1 ?side2 ?side3 ?side4 ?side5 ?side6 ?side7 ?side8 ?side9 ?side10 A4.out).mono ?_); (case side1 => repeat (first | exact (Kd.C_below HR0_0.out HB.out) | (with_reducible refine Kd.C_alloc ?_ _) | (with_reducible refine Kd.C_drewN ?_ _) | (with_reducible refine Kd.C_drew ?_))); (case side2 => exact HC0_0.out); (case side3 => repeat (first | exact (Kd.C_below HR0_1.out HB.out) | (with_reducible refine Kd.C_alloc ?_ _) | (with_reducible refine Kd.C_drewN ?_ _) | (with_reducible refine Kd.C_drew ?_))); (case side4 => exact HC0_1.out); (case side5 => repeat (first | exact (Kd.C_below HR0_2.out HB.out) | (with_reducible refine Kd.C_alloc ?_ _) | (with_reducible refine Kd.C_drewN ?_ _) | (with_reducible refine Kd.C_drew ?_))); (case side6 => exact HC0_2.out); (case side7 => repeat (first | exact (Kd.C_below HR0_0.out HB.out) | (with_reducible refine Kd.C_alloc ?_ _) | (with_reducible refine Kd.C_drewN ?_ _) | (with_reducible refine Kd.C_drew ?_))); (case side8 => exact HC0_0.out); (case side9 => repeat (first | exact (Kd.C_below HR0_1.out HB.out) | (with_reducible refine Kd.C_alloc ?_ _) | (with_reducible refine Kd.C_drewN ?_ _) | (with_reducible refine Kd.C_drew ?_))); (case side10 => exact HC0_1.out); rintro e w8 ⟨v572, v575, v578, rfl, ho0, ho1, ho2, hb⟩; refine ⟨_, rfl, ?_⟩; have n0_ := Am (Kd.R_lower ho0 (below_size (by repeat first | exact Bl HB | refine Bp (below_set ?_ GE570.out)))); have n1_ := Am (Kd.R_lower ho1 (below_size (by repeat first | exact Bl HB | refine Bp (below_set ?_ GE570.out)))); have n2_ := Am (Kd.S_lower ho2 (below_size (by repeat first | exact Bl HB | refine Bp (below_set ?_ GE570.out)))); have n3_ := Am (blk_below (Kl BK570) hb); have n4_ := Am (below_step (by repeat first | exact Bl HB | refine Bp (below_set ?_ GE570.out)) hb); clear BK570 HB; have HO573 := n0_; have HO576 := n1_; have HO579 := n2_; have BK570 := n3_; have HB := n4_; clear n0_ n1_ n2_ n3_ n4_; (try clear hb); (try clear hb2); (try clear hk); (try clear hi); (try clear ho0); (try clear ho1); (try clear ho2)) | ((with_reducible refine gate_dst (N := 7) rfl ?_); (try (refine gate_guard (by rfl) ?_; dsimp only)); refine box_event ?hg (N := 7) ?hd (cs := #[.slice none 0 0, .slice none 0 0, .slice none 0 0]) (t := 39) ?hr ?_; (case hd => rfl); (case hg => rfl); (case hr => first | (go_simp; done) | (go_simp; rfl)); intro gb581 hg w9 hbox hb; have n0_ := Am (Kd.R_below (Rl HO573) hb); have n1_ := Am (Kd.R_below (Rl HO576) hb); have n2_ := Am (Kd.S_below (Sl HO579) hb); have n3_ := Am (blk_below (Kl BK570) hb); have n4_ := Am (below_step (by repeat first | exact Bl HB | refine Bp (below_set ?_ GE570.out)) hb); have n5_ := Am (hbox); have n6_ := Am ((by rw [hg]; exact (below_size (by repeat first | exact Bl HB | refine Bp (below_set ?_ GE570.out))) : w.heap.size ≤ gb581)); have n7_ := Am ((by rw [hg]; exact (below_size (by repeat first | exact Bl HB | refine Bp (below_set ?_ GE570.out))) : w.heap.size ≤ gb581)); have n8_ := Am ((by rw [hg]; exact Nat.ne_of_lt (blk_lt (Kl BK570)) : gb570 ≠ gb581)); have n9_ := Am ((by rw [hg]; exact Nat.ne_of_gt (blk_lt (Kl BK570)) : gb581 ≠ gb570)); clear HO573 HO576 HO579 BK570 HB; have HO573 := n0_; have HO576 := n1_; have HO579 := n2_; have BK570 := n3_; have HB := n4_; have BK581 := n5_; have GW581 := n6_; have GE581 := n7_; have NB570_581 := n8_; have NB581_570 := n9_; clear n0_ n1_ n2_ n3_ n4_ n5_ n6_ n7_ n8_ n9_; clear hb hbox hg; obtain ⟨Ao10, co10, eo10⟩ := Kd.R_slice HO573.out; subst eo10; have hnb11 := NB581_570.out; have hnc11 := NB570_581.out; have hcz12_0 : w9.cell? ⟨gb581, 0, none⟩ = some (.slice none 0 0) := (blk_cell BK581.out 0).trans rfl; have hcz12_1 : w9.cell? ⟨gb581, 1, none⟩ = some (.slice none 0 0) := (blk_cell BK581.out 1).trans rfl; have hcz12_2 : w9.cell? ⟨gb581, 2, none⟩ = some (.slice none 0 0) := (blk_cell BK581.out 2).trans rfl; have hfz12_0 := blk_frozen BK581.out 0; have hfz12_1 := blk_frozen BK581.out 1; have hfz12_2 := blk_frozen BK581.out 2; obtain ⟨Ao13, co13, eo13⟩ := Kd.R_slice HO576.out; subst eo13; obtain ⟨Ao14, co14, eo14⟩ := Kd.S_slice HO579.out; subst eo14))
 (try simp only [Act.put, List.setIfInBounds_toArray, List.set_cons_zero, List.set_cons_succ])
 go_cut [44] (fun v44 wc => ∃ (kq : Nat) (x44_4 : Bool), v44 = .bool x44_4 ∧ Aside0 (examboardlaw24_MatrixSelects.j0 kq l1 l2 x44_4 l0_0 l0_1 l0_2 = some r) ∧ Aside0 (kq ≤ k) ∧ Aside0 (Kd.R (Kd.int .i64) 3 wc w.heap.size (fun k_ => some k_ ≠ ((.slice Ao13 t574.length co13) : Value).ownBlock) (.slice Ao10 t571.length co10) t571) ∧ Aside0 (Kd.R (Kd.int .i64) 3 wc w.heap.size (fun k_ => some k_ ≠ ((.slice Ao10 t571.length co10) : Value).ownBlock) (.slice Ao13 t574.length co13) t574) ∧ Aside0 (Kd.S (Kd.slice 3 (Kd.int .i64)) 36 wc w.heap.size (fun k_ => some k_ ≠ ((.slice Ao10 t571.length co10) : Value).ownBlock ∧ some k_ ≠ ((.slice Ao13 t574.length co13) : Value).ownBlock) (.slice Ao14 t577.length co14) t577) ∧ Aside0 (wc.heap[gb570]? = some (.cells #[(.slice A0_0 l0_0.length c0_0), (.slice A0_1 l0_1.length c0_1), (.slice A0_2 l0_2.length c0_2)] 39 (0, 0))) ∧ Aside0 (wc.heap[gb581]? = some (.cells #[(.slice Ao10 t571.length co10), (.slice Ao13 t574.length co13), (.slice Ao14 t577.length co14)] 39 (0, 0))) ∧ Aside0 (Below w.heap.size w wc))
 case first =>
  have H := HC5.out
  clear HC5
  replace H := Option.bind_eq_some_iff.mp H
  obtain ⟨t582, A150, H⟩ := H
  replace H : (if ((t580 == 0) != t582) = true then (none) else (if t580 = 0 then ((examboardlaw24_same.f k t571 t574 t577 l0_0 l0_1 l0_2).bind fun t583 => (examboardlaw24_MatrixSelects.j0 k l1 l2 (!t583) l0_0 l0_1 l0_2)) else (examboardlaw24_MatrixSelects.j0 k l1 l2 false l0_0 l0_1 l0_2))) = some r := H
  have A15 := Am A150
  clear A150
  by_cases c16 : ((t580 == 0) != t582) = true
  ·rw [if_pos c16] at H
   exact absurd H (by simp)
  ·rw [if_neg c16] at H
   have c16b0 : ((t580 == 0) != t582) = false := by simpa using c16
   (try (have c16b1 : decide ((t580 == 0) = t582) = true := by simpa using c16))
   (try (have c16b2 : ((t580 == 0) == t582) = true := by simpa using c16))
   clear c16
   (first | rw [c16b0] | (simp only [i64_w, i32_w]; rw [c16b0]) | skip)
   by_cases c17 : t580 = 0
   ·rw [if_pos c17] at H
    have c17b0 : (t580 == 0) = true := beq_iff_eq.mpr c17
    have c17b1 : (t580 != 0) = false := bne_eq_false_iff_eq.mpr c17
    clear c17
    obtain rfl : t582 = true := by have h_ := c16b0; rw [c17b0] at h_; revert h_; cases t582 <;> decide
    replace H := Option.bind_eq_some_iff.mp H
    obtain ⟨t583, A180, H⟩ := H
    replace H : (examboardlaw24_MatrixSelects.j0 k l1 l2 (!t583) l0_0 l0_1 l0_2) = some r := H
    have A18 := Am A180
    clear A180
    have H' := Am H
    clear H
    have hnb19 := NB570_581.out
    have hnc19 := NB581_570.out
    have hcz20_0 : w9.cell? ⟨gb570, 0, none⟩ = some (.slice A0_0 l0_0.length c0_0) := (blk_cell BK570.out 0).trans rfl
    have hcz20_1 : w9.cell? ⟨gb570, 1, none⟩ = some (.slice A0_1 l0_1.length c0_1) := (blk_cell BK570.out 1).trans rfl
    have hcz20_2 : w9.cell? ⟨gb570, 2, none⟩ = some (.slice A0_2 l0_2.length c0_2) := (blk_cell BK570.out 2).trans rfl
    have hfz20_0 := blk_frozen BK570.out 0
    have hfz20_1 := blk_frozen BK570.out 1
    have hfz20_2 := blk_frozen BK570.out 2
    go_wp2_with (first | ((with_reducible refine gate_callee (f := 24) rfl ?_); refine goesL_ (some 33) rfl rfl Try.func24 (by kernel_rfl) rfl #[.agg #[.slice A0_0 l0_0.length c0_0, .slice A0_1 l0_1.length c0_1, .slice A0_2 l0_2.length c0_2]] rfl (by (try simp only [List.map_toArray, List.map_cons, List.map_nil]); first | done | rfl | (simp only [List.length_drop, List.length_take]; rfl)) ?_; (with_reducible refine (examboardlaw24_fits.calls k _ _ l0_0 _ _ l0_1 _ _ l0_2 true _ ?side1 ?side2 ?side3 ?side4 ?side5 ?side6 A15.out).mono ?_); (case side1 => exact Kd.C_below HR0_0.out (by repeat first | exact Bl HB | refine Bp (below_set ?_ GE570.out) | refine Bp (below_set ?_ GE581.out))); (case side2 => exact HC0_0.out); (case side3 => exact Kd.C_below HR0_1.out (by repeat first | exact Bl HB | refine Bp (below_set ?_ GE570.out) | refine Bp (below_set ?_ GE581.out))); (case side4 => exact HC0_1.out); (case side5 => exact Kd.C_below HR0_2.out (by repeat first | exact Bl HB | refine Bp (below_set ?_ GE570.out) | refine Bp (below_set ?_ GE581.out))); (case side6 => exact HC0_2.out); rintro e w21 ⟨rfl, hb⟩; refine ⟨_, rfl, ?_⟩; have n0_ := Am (Kd.R_below (Rm (Kd.R_mono (Kd.R_far (p := ⟨gb581, 2, none⟩) (Kd.R_far (p := ⟨gb581, 1, none⟩) (Kd.R_far (p := ⟨gb581, 0, none⟩) (Kd.R_types HO573.out BK581.out (by decide)) (fun _ hk => hk.2) (.slice Ao10 t571.length co10)) (fun _ hk => hk.2) (.slice Ao13 t574.length co13)) (fun _ hk => hk.2) (.slice Ao14 t577.length co14)) (fun _ h_ => h_.1))) hb); have n1_ := Am (Kd.R_below (Rm (Kd.R_mono (Kd.R_far (p := ⟨gb581, 2, none⟩) (Kd.R_far (p := ⟨gb581, 1, none⟩) (Kd.R_far (p := ⟨gb581, 0, none⟩) (Kd.R_types HO576.out BK581.out (by decide)) (fun _ hk => hk.2) (.slice Ao10 t571.length co10)) (fun _ hk => hk.2) (.slice Ao13 t574.length co13)) (fun _ hk => hk.2) (.slice Ao14 t577.length co14)) (fun _ h_ => h_.1))) hb); have n2_ := Am (Kd.S_below (Sm (Kd.S_mono (Kd.S_far (p := ⟨gb581, 2, none⟩) (Kd.S_far (p := ⟨gb581, 1, none⟩) (Kd.S_far (p := ⟨gb581, 0, none⟩) (Kd.S_types HO579.out BK581.out (by decide)) (fun _ hk => hk.2) (.slice Ao10 t571.length co10)) (fun _ hk => hk.2) (.slice Ao13 t574.length co13)) (fun _ hk => hk.2) (.slice Ao14 t577.length co14)) (fun _ h_ => h_.1))) hb); have n3_ := Am (blk_below (g := gb570) (o := .cells #[.slice A0_0 l0_0.length c0_0, .slice A0_1 l0_1.length c0_1, .slice A0_2 l0_2.length c0_2] 39 (0, 0)) (by refine Kp ?_; refine blk_far ?_ NB570_581.out _; refine Kp ?_; refine blk_far ?_ NB570_581.out _; refine Kp ?_; refine blk_far ?_ NB570_581.out _; refine Kp ?_; exact BK570.out) hb); have n4_ := Am (blk_below (g := gb581) (o := .cells #[.slice Ao10 t571.length co10, .slice Ao13 t574.length co13, .slice Ao14 t577.length co14] 39 (0, 0)) (by refine Kp ?_; refine blk_put (cs := #[.slice Ao10 t571.length co10, .slice Ao13 t574.length co13, .slice none 0 0]) ?_ 2 _ rfl; refine Kp ?_; refine blk_put (cs := #[.slice Ao10 t571.length co10, .slice none 0 0, .slice none 0 0]) ?_ 1 _ rfl; refine Kp ?_; refine blk_put (cs := #[.slice none 0 0, .slice none 0 0, .slice none 0 0]) ?_ 0 _ rfl; refine Kp ?_; exact BK581.out) hb); have n5_ := Am (below_step (by repeat first | exact Bl HB | refine Bp (below_set ?_ GE570.out) | refine Bp (below_set ?_ GE581.out)) hb); clear HO573 HO576 HO579 BK570 BK581 HB; have HO573 := n0_; have HO576 := n1_; have HO579 := n2_; have BK570 := n3_; have BK581 := n4_; have HB := n5_; clear n0_ n1_ n2_ n3_ n4_ n5_; (try clear hb); (try clear hb2); (try clear hk); (try clear hi); have hcz22_0 : w21.cell? ⟨gb581, 0, none⟩ = some (.slice Ao10 t571.length co10) := (blk_cell BK581.out 0).trans rfl; have hcz22_1 : w21.cell? ⟨gb581, 1, none⟩ = some (.slice Ao13 t574.length co13) := (blk_cell BK581.out 1).trans rfl; have hcz22_2 : w21.cell? ⟨gb581, 2, none⟩ = some (.slice Ao14 t577.length co14) := (blk_cell BK581.out 2).trans rfl; have hfz22_0 := blk_frozen BK581.out 0; have hfz22_1 := blk_frozen BK581.out 1; have hfz22_2 := blk_frozen BK581.out 2; have hcz23_0 : w21.cell? ⟨gb570, 0, none⟩ = some (.slice A0_0 l0_0.length c0_0) := (blk_cell BK570.out 0).trans rfl; have hcz23_1 : w21.cell? ⟨gb570, 1, none⟩ = some (.slice A0_1 l0_1.length c0_1) := (blk_cell BK570.out 1).trans rfl; have hcz23_2 : w21.cell? ⟨gb570, 2, none⟩ = some (.slice A0_2 l0_2.length c0_2) := (blk_cell BK570.out 2).trans rfl; have hfz23_0 := blk_frozen BK570.out 0; have hfz23_1 := blk_frozen BK570.out 1; have hfz23_2 := blk_frozen BK570.out 2) | (go_at_call 18; (with_reducible refine (examboardlaw24_same.calls k _ _ t571 _ _ t574 _ _ t577 _ _ l0_0 _ _ l0_1 _ _ l0_2 t583 _ ?side1 ?side2 ?side3 ?side4 ?side5 ?side6 ?side7 ?side8 ?side9 ?side10 ?side11 ?side12 A18.out).mono ?_); (case side1 => exact Cm (Kd.R_reads' HO573.out).2.2); (case side2 => exact (Kd.R_reads' HO573.out).2.1); (case side3 => exact Cm (Kd.R_reads' HO576.out).2.2); (case side4 => exact (Kd.R_reads' HO576.out).2.1); (case side5 => repeat (first | exact (Kd.S_reads' HO579.out).2.2 | (with_reducible refine Kd.C_alloc ?_ _) | (with_reducible refine Kd.C_drewN ?_ _) | (with_reducible refine Kd.C_drew ?_))); (case side6 => exact (Kd.S_reads' HO579.out).2.1); (case side7 => repeat (first | exact (Kd.C_below HR0_0.out HB.out) | (with_reducible refine Kd.C_alloc ?_ _) | (with_reducible refine Kd.C_drewN ?_ _) | (with_reducible refine Kd.C_drew ?_))); (case side8 => exact HC0_0.out); (case side9 => repeat (first | exact (Kd.C_below HR0_1.out HB.out) | (with_reducible refine Kd.C_alloc ?_ _) | (with_reducible refine Kd.C_drewN ?_ _) | (with_reducible refine Kd.C_drew ?_))); (case side10 => exact HC0_1.out); (case side11 => repeat (first | exact (Kd.C_below HR0_2.out HB.out) | (with_reducible refine Kd.C_alloc ?_ _) | (with_reducible refine Kd.C_drewN ?_ _) | (with_reducible refine Kd.C_drew ?_))); (case side12 => exact HC0_2.out); rintro e w24 ⟨rfl, hb⟩; have n0_ := Am (Kd.R_below (Rl HO573) hb); have n1_ := Am (Kd.R_below (Rl HO576) hb); have n2_ := Am (Kd.S_below (Sl HO579) hb); have n3_ := Am (blk_below (Kl BK570) hb); have n4_ := Am (blk_below (Kl BK581) hb); have n5_ := Am (below_step (by repeat first | exact Bl HB | refine Bp (below_set ?_ GE570.out) | refine Bp (below_set ?_ GE581.out)) hb); clear HO573 HO576 HO579 BK570 BK581 HB; have HO573 := n0_; have HO576 := n1_; have HO579 := n2_; have BK570 := n3_; have BK581 := n4_; have HB := n5_; clear n0_ n1_ n2_ n3_ n4_ n5_; (try clear hb); (try clear hb2); (try clear hk); (try clear hi)))
    go_meet
    case rel => exact ⟨_, (!t583), (by first | rfl | (simp; done) | (simp [*]; done)), H', ⟨by first | omega | exact Nat.le_refl _⟩, ⟨Rl HO573⟩, ⟨Rl HO576⟩, ⟨Sl HO579⟩, ⟨Kl BK570⟩, ⟨Kl BK581⟩, ⟨by repeat first | exact Bl HB | refine Bp (below_set ?_ GE570.out) | refine Bp (below_set ?_ GE581.out)⟩⟩
   ·rw [if_neg c17] at H
    have c17b0 : (t580 == 0) = false := beq_eq_false_iff_ne.mpr c17
    have c17b1 : (t580 != 0) = true := bne_iff_ne.mpr c17
    obtain rfl : t582 = false := by have h_ := c16b0; rw [c17b0] at h_; revert h_; cases t582 <;> decide
    have H' := Am H
    clear H
    have hnb25 := NB570_581.out
    have hnc25 := NB581_570.out
    have hcz26_0 : w9.cell? ⟨gb570, 0, none⟩ = some (.slice A0_0 l0_0.length c0_0) := (blk_cell BK570.out 0).trans rfl
    have hcz26_1 : w9.cell? ⟨gb570, 1, none⟩ = some (.slice A0_1 l0_1.length c0_1) := (blk_cell BK570.out 1).trans rfl
    have hcz26_2 : w9.cell? ⟨gb570, 2, none⟩ = some (.slice A0_2 l0_2.length c0_2) := (blk_cell BK570.out 2).trans rfl
    have hfz26_0 := blk_frozen BK570.out 0
    have hfz26_1 := blk_frozen BK570.out 1
    have hfz26_2 := blk_frozen BK570.out 2
    go_wp2_with (first | ((with_reducible refine gate_callee (f := 24) rfl ?_); refine goesL_ (some 33) rfl rfl Try.func24 (by kernel_rfl) rfl #[.agg #[.slice A0_0 l0_0.length c0_0, .slice A0_1 l0_1.length c0_1, .slice A0_2 l0_2.length c0_2]] rfl (by (try simp only [List.map_toArray, List.map_cons, List.map_nil]); first | done | rfl | (simp only [List.length_drop, List.length_take]; rfl)) ?_; (with_reducible refine (examboardlaw24_fits.calls k _ _ l0_0 _ _ l0_1 _ _ l0_2 false _ ?side1 ?side2 ?side3 ?side4 ?side5 ?side6 A15.out).mono ?_); (case side1 => exact Kd.C_below HR0_0.out (by repeat first | exact Bl HB | refine Bp (below_set ?_ GE570.out) | refine Bp (below_set ?_ GE581.out))); (case side2 => exact HC0_0.out); (case side3 => exact Kd.C_below HR0_1.out (by repeat first | exact Bl HB | refine Bp (below_set ?_ GE570.out) | refine Bp (below_set ?_ GE581.out))); (case side4 => exact HC0_1.out); (case side5 => exact Kd.C_below HR0_2.out (by repeat first | exact Bl HB | refine Bp (below_set ?_ GE570.out) | refine Bp (below_set ?_ GE581.out))); (case side6 => exact HC0_2.out); rintro e w27 ⟨rfl, hb⟩; refine ⟨_, rfl, ?_⟩; have n0_ := Am (Kd.R_below (Rm (Kd.R_mono (Kd.R_far (p := ⟨gb581, 2, none⟩) (Kd.R_far (p := ⟨gb581, 1, none⟩) (Kd.R_far (p := ⟨gb581, 0, none⟩) (Kd.R_types HO573.out BK581.out (by decide)) (fun _ hk => hk.2) (.slice Ao10 t571.length co10)) (fun _ hk => hk.2) (.slice Ao13 t574.length co13)) (fun _ hk => hk.2) (.slice Ao14 t577.length co14)) (fun _ h_ => h_.1))) hb); have n1_ := Am (Kd.R_below (Rm (Kd.R_mono (Kd.R_far (p := ⟨gb581, 2, none⟩) (Kd.R_far (p := ⟨gb581, 1, none⟩) (Kd.R_far (p := ⟨gb581, 0, none⟩) (Kd.R_types HO576.out BK581.out (by decide)) (fun _ hk => hk.2) (.slice Ao10 t571.length co10)) (fun _ hk => hk.2) (.slice Ao13 t574.length co13)) (fun _ hk => hk.2) (.slice Ao14 t577.length co14)) (fun _ h_ => h_.1))) hb); have n2_ := Am (Kd.S_below (Sm (Kd.S_mono (Kd.S_far (p := ⟨gb581, 2, none⟩) (Kd.S_far (p := ⟨gb581, 1, none⟩) (Kd.S_far (p := ⟨gb581, 0, none⟩) (Kd.S_types HO579.out BK581.out (by decide)) (fun _ hk => hk.2) (.slice Ao10 t571.length co10)) (fun _ hk => hk.2) (.slice Ao13 t574.length co13)) (fun _ hk => hk.2) (.slice Ao14 t577.length co14)) (fun _ h_ => h_.1))) hb); have n3_ := Am (blk_below (g := gb570) (o := .cells #[.slice A0_0 l0_0.length c0_0, .slice A0_1 l0_1.length c0_1, .slice A0_2 l0_2.length c0_2] 39 (0, 0)) (by refine Kp ?_; refine blk_far ?_ NB570_581.out _; refine Kp ?_; refine blk_far ?_ NB570_581.out _; refine Kp ?_; refine blk_far ?_ NB570_581.out _; refine Kp ?_; exact BK570.out) hb); have n4_ := Am (blk_below (g := gb581) (o := .cells #[.slice Ao10 t571.length co10, .slice Ao13 t574.length co13, .slice Ao14 t577.length co14] 39 (0, 0)) (by refine Kp ?_; refine blk_put (cs := #[.slice Ao10 t571.length co10, .slice Ao13 t574.length co13, .slice none 0 0]) ?_ 2 _ rfl; refine Kp ?_; refine blk_put (cs := #[.slice Ao10 t571.length co10, .slice none 0 0, .slice none 0 0]) ?_ 1 _ rfl; refine Kp ?_; refine blk_put (cs := #[.slice none 0 0, .slice none 0 0, .slice none 0 0]) ?_ 0 _ rfl; refine Kp ?_; exact BK581.out) hb); have n5_ := Am (below_step (by repeat first | exact Bl HB | refine Bp (below_set ?_ GE570.out) | refine Bp (below_set ?_ GE581.out)) hb); clear HO573 HO576 HO579 BK570 BK581 HB; have HO573 := n0_; have HO576 := n1_; have HO579 := n2_; have BK570 := n3_; have BK581 := n4_; have HB := n5_; clear n0_ n1_ n2_ n3_ n4_ n5_; (try clear hb); (try clear hb2); (try clear hk); (try clear hi)))
    go_meet
    case rel => exact ⟨_, (false), (by first | rfl | (simp; done) | (simp [*]; done)), H', ⟨by first | omega | exact Nat.le_refl _⟩, ⟨Rl HO573⟩, ⟨Rl HO576⟩, ⟨Sl HO579⟩, ⟨Kl BK570⟩, ⟨Kl BK581⟩, ⟨by repeat first | exact Bl HB | refine Bp (below_set ?_ GE570.out) | refine Bp (below_set ?_ GE581.out)⟩⟩
 case rest =>
  clear HC5
  try clear c1
  try clear c2
  try clear p2
  try clear c8
  try clear c11
  try clear c16
  try clear c16b0
  try clear c16b1
  try clear c16b2
  try clear c17
  try clear c17b0
  try clear c17b1
  try clear c19
  try clear c24
  try clear c25
  try clear hcz12_0
  try clear hcz12_1
  try clear hcz12_2
  try clear hcz20_0
  try clear hcz20_1
  try clear hcz20_2
  try clear hcz22_0
  try clear hcz22_1
  try clear hcz22_2
  try clear hcz23_0
  try clear hcz23_1
  try clear hcz23_2
  try clear hcz26_0
  try clear hcz26_1
  try clear hcz26_2
  try clear hcz7_0
  try clear hcz7_1
  try clear hcz7_2
  try clear hfz12_0
  try clear hfz12_1
  try clear hfz12_2
  try clear hfz20_0
  try clear hfz20_1
  try clear hfz20_2
  try clear hfz22_0
  try clear hfz22_1
  try clear hfz22_2
  try clear hfz23_0
  try clear hfz23_1
  try clear hfz23_2
  try clear hfz26_0
  try clear hfz26_1
  try clear hfz26_2
  try clear hfz7_0
  try clear hfz7_1
  try clear hfz7_2
  obtain ⟨kq, x44_4, rfl, HA, HJ4, HO_582000, HO_582001, HO_582002, BK570, BK581, HB⟩ := hcut
  cases kq with
  | zero => exact absurd HA.out (by simp [examboardlaw24_MatrixSelects.j0])
  | succ kj4 =>
   have H := HA.out
   clear HA
   simp only [examboardlaw24_MatrixSelects.j0] at H
   by_cases c28 : x44_4 = true
   ·subst c28
    have H1 : (none) = some r := by rw [if_pos rfl] at H; exact H
    clear H
    have H := H1
    clear H1
    exact absurd H (by simp)
   ·replace c28 := Bool.eq_false_iff.mpr c28
    subst c28
    have H1 : ((matrix_Select.f kj4 l0_0 l0_1 l0_2 l1 l2).bind fun bt584 => (if bt584.2.2.2 = 0 then ((matrix_Select.f kj4 bt584.1 bt584.2.1 bt584.2.2.1 l1 l2).bind fun bt597 => (if bt597.2.2.2 = 0 then ((examboardlaw24_same.f kj4 bt584.1 bt584.2.1 bt584.2.2.1 bt597.1 bt597.2.1 bt597.2.2.1).bind fun t608 => (if t608 = true then ((examboardlaw24_equal.f kj4 bt584.1 l1).bind fun t609 => (if t609 = true then ((examboardlaw24_equal.f kj4 bt584.2.1 l2).bind fun t610 => (examboardlaw24_MatrixSelects.j1 kj4 l1 l2 (!t610) bt584.1 bt584.2.1 bt584.2.2.1)) else (none))) else (none))) else (none))) else ((examboardlaw24_same.f kj4 bt584.1 bt584.2.1 bt584.2.2.1 ([] : List Int) ([] : List Int) ([] : List (List Int))).bind fun t595 => (if t595 = true then ((examboardlaw24_awake.f kj4).bind fun t596 => (some t596)) else (none))))) = some r := by rw [if_neg (show ¬ (false = true) by decide)] at H; exact H
    clear H
    have H := H1
    clear H1
    replace H := Option.bind_eq_some_iff.mp H
    obtain ⟨⟨t584, t587, t590, t593⟩, A290, H⟩ := H
    replace H : (if t593 = 0 then ((matrix_Select.f kj4 t584 t587 t590 l1 l2).bind fun bt597 => (if bt597.2.2.2 = 0 then ((examboardlaw24_same.f kj4 t584 t587 t590 bt597.1 bt597.2.1 bt597.2.2.1).bind fun t608 => (if t608 = true then ((examboardlaw24_equal.f kj4 t584 l1).bind fun t609 => (if t609 = true then ((examboardlaw24_equal.f kj4 t587 l2).bind fun t610 => (examboardlaw24_MatrixSelects.j1 kj4 l1 l2 (!t610) t584 t587 t590)) else (none))) else (none))) else (none))) else ((examboardlaw24_same.f kj4 t584 t587 t590 ([] : List Int) ([] : List Int) ([] : List (List Int))).bind fun t595 => (if t595 = true then ((examboardlaw24_awake.f kj4).bind fun t596 => (some t596)) else (none)))) = some r := H
    have A29 := Am A290
    clear A290
    by_cases c30 : t593 = 0
    ·rw [if_pos c30] at H
     have c30b0 : (t593 == 0) = true := beq_iff_eq.mpr c30
     have c30b1 : (t593 != 0) = false := bne_eq_false_iff_eq.mpr c30
     clear c30
     replace H := Option.bind_eq_some_iff.mp H
     obtain ⟨⟨t597, t600, t603, t606⟩, A310, H⟩ := H
     replace H : (if t606 = 0 then ((examboardlaw24_same.f kj4 t584 t587 t590 t597 t600 t603).bind fun t608 => (if t608 = true then ((examboardlaw24_equal.f kj4 t584 l1).bind fun t609 => (if t609 = true then ((examboardlaw24_equal.f kj4 t587 l2).bind fun t610 => (examboardlaw24_MatrixSelects.j1 kj4 l1 l2 (!t610) t584 t587 t590)) else (none))) else (none))) else (none)) = some r := H
     have A31 := Am A310
     clear A310
     have HC32 := Am H
     clear H
     have hnb33 := NB570_581.out
     have hnc33 := NB581_570.out
     have hcz34_0 : wc.cell? ⟨gb570, 0, none⟩ = some (.slice A0_0 l0_0.length c0_0) := (blk_cell BK570.out 0).trans rfl
     have hcz34_1 : wc.cell? ⟨gb570, 1, none⟩ = some (.slice A0_1 l0_1.length c0_1) := (blk_cell BK570.out 1).trans rfl
     have hcz34_2 : wc.cell? ⟨gb570, 2, none⟩ = some (.slice A0_2 l0_2.length c0_2) := (blk_cell BK570.out 2).trans rfl
     have hfz34_0 := blk_frozen BK570.out 0
     have hfz34_1 := blk_frozen BK570.out 1
     have hfz34_2 := blk_frozen BK570.out 2
     go_upto_region 8 with (first | ((with_reducible refine gate_callee (f := 16) rfl ?_); refine goesL_ (some 49) rfl rfl Try.func16 (by kernel_rfl) rfl #[.agg #[.slice A0_0 l0_0.length c0_0, .slice A0_1 l0_1.length c0_1, .slice A0_2 l0_2.length c0_2], .slice A1 l1.length c1, .slice A2 l2.length c2] rfl (by (try simp only [List.map_toArray, List.map_cons, List.map_nil]); first | done | rfl | (simp only [List.length_drop, List.length_take]; rfl)) ?_; (with_reducible refine (matrix_Select.calls kj4 _ _ l0_0 _ _ l0_1 _ _ l0_2 _ _ l1 _ _ l2 t584 t587 t590 t593 _ ?side1 ?side2 ?side3 ?side4 ?side5 ?side6 ?side7 ?side8 ?side9 ?side10 A29.out).mono ?_); (case side1 => repeat (first | exact (Kd.C_below HR0_0.out HB.out) | (with_reducible refine Kd.C_alloc ?_ _) | (with_reducible refine Kd.C_drewN ?_ _) | (with_reducible refine Kd.C_drew ?_))); (case side2 => exact HC0_0.out); (case side3 => repeat (first | exact (Kd.C_below HR0_1.out HB.out) | (with_reducible refine Kd.C_alloc ?_ _) | (with_reducible refine Kd.C_drewN ?_ _) | (with_reducible refine Kd.C_drew ?_))); (case side4 => exact HC0_1.out); (case side5 => repeat (first | exact (Kd.C_below HR0_2.out HB.out) | (with_reducible refine Kd.C_alloc ?_ _) | (with_reducible refine Kd.C_drewN ?_ _) | (with_reducible refine Kd.C_drew ?_))); (case side6 => exact HC0_2.out); (case side7 => repeat (first | exact (Kd.C_below HR1.out HB.out) | (with_reducible refine Kd.C_alloc ?_ _) | (with_reducible refine Kd.C_drewN ?_ _) | (with_reducible refine Kd.C_drew ?_))); (case side8 => exact HC1.out); (case side9 => repeat (first | exact (Kd.C_below HR2.out HB.out) | (with_reducible refine Kd.C_alloc ?_ _) | (with_reducible refine Kd.C_drewN ?_ _) | (with_reducible refine Kd.C_drew ?_))); (case side10 => exact HC2.out); rintro e w35 ⟨v585, v588, v591, rfl, ho0, ho1, ho2, hb⟩; refine ⟨_, rfl, ?_⟩; have n0_ := Am (Kd.R_mono (Kd.R_told (Kd.R_told (Kd.R_old (Rl HO_582000) hb) (Kd.R_base ho0)) (Kd.R_base ho1)) (fun _ h_ => h_.1)); have n1_ := Am (Kd.R_mono (Kd.R_told (Kd.R_told (Kd.R_old (Rl HO_582001) hb) (Kd.R_base ho0)) (Kd.R_base ho1)) (fun _ h_ => h_.1)); have n2_ := Am (Kd.S_mono (Kd.S_told (Kd.S_told (Kd.S_told (Kd.S_old (Sl HO_582002) hb) (Kd.R_base ho0)) (Kd.R_base ho1)) (Kd.S_base ho2)) (fun _ h_ => h_.1)); have n3_ := Am (Kd.R_lower (Kd.R_new' (Kd.R_new' ho0 (Rb HO_582000)) (Rb HO_582001)) (below_size (by repeat first | exact Bl HB | refine Bp (below_set ?_ GE570.out) | refine Bp (below_set ?_ GE581.out)))); have n4_ := Am (Kd.R_lower (Kd.R_new' (Kd.R_new' ho1 (Rb HO_582000)) (Rb HO_582001)) (below_size (by repeat first | exact Bl HB | refine Bp (below_set ?_ GE570.out) | refine Bp (below_set ?_ GE581.out)))); have n5_ := Am (Kd.S_lower (Kd.S_new' (Kd.S_new' (Kd.S_new' ho2 (Rb HO_582000)) (Rb HO_582001)) (Sb HO_582002)) (below_size (by repeat first | exact Bl HB | refine Bp (below_set ?_ GE570.out) | refine Bp (below_set ?_ GE581.out)))); have n6_ := Am (blk_below (Kl BK570) hb); have n7_ := Am (blk_below (Kl BK581) hb); have n8_ := Am (below_step (by repeat first | exact Bl HB | refine Bp (below_set ?_ GE570.out) | refine Bp (below_set ?_ GE581.out)) hb); clear HO_582000 HO_582001 HO_582002 BK570 BK581 HB; have HO_582000 := n0_; have HO_582001 := n1_; have HO_582002 := n2_; have HO586 := n3_; have HO589 := n4_; have HO592 := n5_; have BK570 := n6_; have BK581 := n7_; have HB := n8_; clear n0_ n1_ n2_ n3_ n4_ n5_ n6_ n7_ n8_; (try clear hb); (try clear hb2); (try clear hk); (try clear hi); (try clear ho0); (try clear ho1); (try clear ho2)) | ((with_reducible refine gate_dst (N := 9) rfl ?_); (try (refine gate_guard (by rfl) ?_; dsimp only)); refine box_event ?hg (N := 9) ?hd (cs := #[.slice none 0 0, .slice none 0 0, .slice none 0 0]) (t := 39) ?hr ?_; (case hd => rfl); (case hg => rfl); (case hr => first | (go_simp; done) | (go_simp; rfl)); intro gb594 hg w36 hbox hb; have n0_ := Am (Kd.R_below (Rl HO_582000) hb); have n1_ := Am (Kd.R_below (Rl HO_582001) hb); have n2_ := Am (Kd.S_below (Sl HO_582002) hb); have n3_ := Am (Kd.R_below (Rl HO586) hb); have n4_ := Am (Kd.R_below (Rl HO589) hb); have n5_ := Am (Kd.S_below (Sl HO592) hb); have n6_ := Am (blk_below (Kl BK570) hb); have n7_ := Am (blk_below (Kl BK581) hb); have n8_ := Am (below_step (by repeat first | exact Bl HB | refine Bp (below_set ?_ GE570.out) | refine Bp (below_set ?_ GE581.out)) hb); have n9_ := Am (hbox); have n10_ := Am ((by rw [hg]; exact (below_size (by repeat first | exact Bl HB | refine Bp (below_set ?_ GE570.out) | refine Bp (below_set ?_ GE581.out))) : w.heap.size ≤ gb594)); have n11_ := Am ((by rw [hg]; exact (below_size (by repeat first | exact Bl HB | refine Bp (below_set ?_ GE570.out) | refine Bp (below_set ?_ GE581.out))) : w.heap.size ≤ gb594)); have n12_ := Am ((by rw [hg]; exact Nat.ne_of_lt (blk_lt (Kl BK570)) : gb570 ≠ gb594)); have n13_ := Am ((by rw [hg]; exact Nat.ne_of_gt (blk_lt (Kl BK570)) : gb594 ≠ gb570)); have n14_ := Am ((by rw [hg]; exact Nat.ne_of_lt (blk_lt (Kl BK581)) : gb581 ≠ gb594)); have n15_ := Am ((by rw [hg]; exact Nat.ne_of_gt (blk_lt (Kl BK581)) : gb594 ≠ gb581)); clear HO_582000 HO_582001 HO_582002 HO586 HO589 HO592 BK570 BK581 HB; have HO_582000 := n0_; have HO_582001 := n1_; have HO_582002 := n2_; have HO586 := n3_; have HO589 := n4_; have HO592 := n5_; have BK570 := n6_; have BK581 := n7_; have HB := n8_; have BK594 := n9_; have GW594 := n10_; have GE594 := n11_; have NB570_594 := n12_; have NB594_570 := n13_; have NB581_594 := n14_; have NB594_581 := n15_; clear n0_ n1_ n2_ n3_ n4_ n5_ n6_ n7_ n8_ n9_ n10_ n11_ n12_ n13_ n14_ n15_; clear hb hbox hg; obtain ⟨Ao37, co37, eo37⟩ := Kd.R_slice HO586.out; subst eo37; have hnb38 := NB594_570.out; have hnc38 := NB570_594.out; have hnb39 := NB594_581.out; have hnc39 := NB581_594.out; have hcz40_0 : w36.cell? ⟨gb594, 0, none⟩ = some (.slice none 0 0) := (blk_cell BK594.out 0).trans rfl; have hcz40_1 : w36.cell? ⟨gb594, 1, none⟩ = some (.slice none 0 0) := (blk_cell BK594.out 1).trans rfl; have hcz40_2 : w36.cell? ⟨gb594, 2, none⟩ = some (.slice none 0 0) := (blk_cell BK594.out 2).trans rfl; have hfz40_0 := blk_frozen BK594.out 0; have hfz40_1 := blk_frozen BK594.out 1; have hfz40_2 := blk_frozen BK594.out 2; obtain ⟨Ao41, co41, eo41⟩ := Kd.R_slice HO589.out; subst eo41; obtain ⟨Ao42, co42, eo42⟩ := Kd.S_slice HO592.out; subst eo42) | ((with_reducible refine gate_callee (f := 16) rfl ?_); refine goesL_ (some 64) rfl rfl Try.func16 (by kernel_rfl) rfl #[.agg #[.slice Ao37 t584.length co37, .slice Ao41 t587.length co41, .slice Ao42 t590.length co42], .slice A1 l1.length c1, .slice A2 l2.length c2] rfl (by (try simp only [List.map_toArray, List.map_cons, List.map_nil]); first | done | rfl | (simp only [List.length_drop, List.length_take]; rfl)) ?_; (with_reducible refine (matrix_Select.calls kj4 _ _ t584 _ _ t587 _ _ t590 _ _ l1 _ _ l2 t597 t600 t603 t606 _ ?side1 ?side2 ?side3 ?side4 ?side5 ?side6 ?side7 ?side8 ?side9 ?side10 A31.out).mono ?_); (case side1 => refine (Kd.R_reads' (e := 3) (base := w.heap.size) (ok := fun k_ => ((some k_ ≠ (.slice Ao41 t587.length co41 : Value).ownBlock ∧ some k_ ≠ (.slice Ao10 t571.length co10 : Value).ownBlock) ∧ some k_ ≠ (.slice Ao13 t574.length co13 : Value).ownBlock)) (n := t584.length) (c := co37) ?_).2.2; exact (Rm (Kd.R_mono (Kd.R_far (p := ⟨gb594, 2, none⟩) (Kd.R_far (p := ⟨gb594, 1, none⟩) (Kd.R_far (p := ⟨gb594, 0, none⟩) (Kd.R_types HO586.out BK594.out (by decide)) (fun _ hk => hk.2) (.slice Ao37 t584.length co37)) (fun _ hk => hk.2) (.slice Ao41 t587.length co41)) (fun _ hk => hk.2) (.slice Ao42 t590.length co42)) (fun _ h_ => h_.1)))); (case side2 => exact (Kd.R_reads' HO586.out).2.1); (case side3 => refine (Kd.R_reads' (e := 3) (base := w.heap.size) (ok := fun k_ => ((some k_ ≠ (.slice Ao37 t584.length co37 : Value).ownBlock ∧ some k_ ≠ (.slice Ao10 t571.length co10 : Value).ownBlock) ∧ some k_ ≠ (.slice Ao13 t574.length co13 : Value).ownBlock)) (n := t587.length) (c := co41) ?_).2.2; exact (Rm (Kd.R_mono (Kd.R_far (p := ⟨gb594, 2, none⟩) (Kd.R_far (p := ⟨gb594, 1, none⟩) (Kd.R_far (p := ⟨gb594, 0, none⟩) (Kd.R_types HO589.out BK594.out (by decide)) (fun _ hk => hk.2) (.slice Ao37 t584.length co37)) (fun _ hk => hk.2) (.slice Ao41 t587.length co41)) (fun _ hk => hk.2) (.slice Ao42 t590.length co42)) (fun _ h_ => h_.1)))); (case side4 => exact (Kd.R_reads' HO589.out).2.1); (case side5 => refine (Kd.S_reads' (e := 36) (base := w.heap.size) (ok := fun k_ => ((((some k_ ≠ (.slice Ao37 t584.length co37 : Value).ownBlock ∧ some k_ ≠ (.slice Ao41 t587.length co41 : Value).ownBlock) ∧ some k_ ≠ (.slice Ao10 t571.length co10 : Value).ownBlock) ∧ some k_ ≠ (.slice Ao13 t574.length co13 : Value).ownBlock) ∧ some k_ ≠ (.slice Ao14 t577.length co14 : Value).ownBlock)) (n := t590.length) (c := co42) ?_).2.2; exact (Sm (Kd.S_mono (Kd.S_far (p := ⟨gb594, 2, none⟩) (Kd.S_far (p := ⟨gb594, 1, none⟩) (Kd.S_far (p := ⟨gb594, 0, none⟩) (Kd.S_types HO592.out BK594.out (by decide)) (fun _ hk => hk.2) (.slice Ao37 t584.length co37)) (fun _ hk => hk.2) (.slice Ao41 t587.length co41)) (fun _ hk => hk.2) (.slice Ao42 t590.length co42)) (fun _ h_ => h_.1)))); (case side6 => exact (Kd.S_reads' HO592.out).2.1); (case side7 => exact Kd.C_below HR1.out (by repeat first | exact Bl HB | refine Bp (below_set ?_ GE570.out) | refine Bp (below_set ?_ GE581.out) | refine Bp (below_set ?_ GE594.out))); (case side8 => exact HC1.out); (case side9 => exact Kd.C_below HR2.out (by repeat first | exact Bl HB | refine Bp (below_set ?_ GE570.out) | refine Bp (below_set ?_ GE581.out) | refine Bp (below_set ?_ GE594.out))); (case side10 => exact HC2.out); rintro e w43 ⟨v598, v601, v604, rfl, ho0, ho1, ho2, hb⟩; refine ⟨_, rfl, ?_⟩; have n0_ := Am (Kd.R_mono (Kd.R_told (Kd.R_told (Kd.R_old (Rm (Kd.R_mono (Kd.R_far (p := ⟨gb594, 2, none⟩) (Kd.R_far (p := ⟨gb594, 1, none⟩) (Kd.R_far (p := ⟨gb594, 0, none⟩) (Kd.R_types HO_582000.out BK594.out (by decide)) (fun _ hk => hk.2) (.slice Ao37 t584.length co37)) (fun _ hk => hk.2) (.slice Ao41 t587.length co41)) (fun _ hk => hk.2) (.slice Ao42 t590.length co42)) (fun _ h_ => h_.1))) hb) (Kd.R_base ho0)) (Kd.R_base ho1)) (fun _ h_ => h_.1)); have n1_ := Am (Kd.R_mono (Kd.R_told (Kd.R_told (Kd.R_old (Rm (Kd.R_mono (Kd.R_far (p := ⟨gb594, 2, none⟩) (Kd.R_far (p := ⟨gb594, 1, none⟩) (Kd.R_far (p := ⟨gb594, 0, none⟩) (Kd.R_types HO_582001.out BK594.out (by decide)) (fun _ hk => hk.2) (.slice Ao37 t584.length co37)) (fun _ hk => hk.2) (.slice Ao41 t587.length co41)) (fun _ hk => hk.2) (.slice Ao42 t590.length co42)) (fun _ h_ => h_.1))) hb) (Kd.R_base ho0)) (Kd.R_base ho1)) (fun _ h_ => h_.1)); have n2_ := Am (Kd.S_mono (Kd.S_told (Kd.S_told (Kd.S_told (Kd.S_old (Sm (Kd.S_mono (Kd.S_far (p := ⟨gb594, 2, none⟩) (Kd.S_far (p := ⟨gb594, 1, none⟩) (Kd.S_far (p := ⟨gb594, 0, none⟩) (Kd.S_types HO_582002.out BK594.out (by decide)) (fun _ hk => hk.2) (.slice Ao37 t584.length co37)) (fun _ hk => hk.2) (.slice Ao41 t587.length co41)) (fun _ hk => hk.2) (.slice Ao42 t590.length co42)) (fun _ h_ => h_.1))) hb) (Kd.R_base ho0)) (Kd.R_base ho1)) (Kd.S_base ho2)) (fun _ h_ => h_.1)); have n3_ := Am (Kd.R_mono (Kd.R_told (Kd.R_told (Kd.R_old (Rm (Kd.R_mono (Kd.R_far (p := ⟨gb594, 2, none⟩) (Kd.R_far (p := ⟨gb594, 1, none⟩) (Kd.R_far (p := ⟨gb594, 0, none⟩) (Kd.R_types HO586.out BK594.out (by decide)) (fun _ hk => hk.2) (.slice Ao37 t584.length co37)) (fun _ hk => hk.2) (.slice Ao41 t587.length co41)) (fun _ hk => hk.2) (.slice Ao42 t590.length co42)) (fun _ h_ => h_.1))) hb) (Kd.R_base ho0)) (Kd.R_base ho1)) (fun _ h_ => h_.1)); have n4_ := Am (Kd.R_mono (Kd.R_told (Kd.R_told (Kd.R_old (Rm (Kd.R_mono (Kd.R_far (p := ⟨gb594, 2, none⟩) (Kd.R_far (p := ⟨gb594, 1, none⟩) (Kd.R_far (p := ⟨gb594, 0, none⟩) (Kd.R_types HO589.out BK594.out (by decide)) (fun _ hk => hk.2) (.slice Ao37 t584.length co37)) (fun _ hk => hk.2) (.slice Ao41 t587.length co41)) (fun _ hk => hk.2) (.slice Ao42 t590.length co42)) (fun _ h_ => h_.1))) hb) (Kd.R_base ho0)) (Kd.R_base ho1)) (fun _ h_ => h_.1)); have n5_ := Am (Kd.S_mono (Kd.S_told (Kd.S_told (Kd.S_told (Kd.S_old (Sm (Kd.S_mono (Kd.S_far (p := ⟨gb594, 2, none⟩) (Kd.S_far (p := ⟨gb594, 1, none⟩) (Kd.S_far (p := ⟨gb594, 0, none⟩) (Kd.S_types HO592.out BK594.out (by decide)) (fun _ hk => hk.2) (.slice Ao37 t584.length co37)) (fun _ hk => hk.2) (.slice Ao41 t587.length co41)) (fun _ hk => hk.2) (.slice Ao42 t590.length co42)) (fun _ h_ => h_.1))) hb) (Kd.R_base ho0)) (Kd.R_base ho1)) (Kd.S_base ho2)) (fun _ h_ => h_.1)); have n6_ := Am (Kd.R_lower (Kd.R_new' (Kd.R_new' (Kd.R_new' (Kd.R_new' ho0 (Kd.R_lt (Rm (Kd.R_mono (Kd.R_far (p := ⟨gb594, 2, none⟩) (Kd.R_far (p := ⟨gb594, 1, none⟩) (Kd.R_far (p := ⟨gb594, 0, none⟩) (Kd.R_types HO_582000.out BK594.out (by decide)) (fun _ hk => hk.2) (.slice Ao37 t584.length co37)) (fun _ hk => hk.2) (.slice Ao41 t587.length co41)) (fun _ hk => hk.2) (.slice Ao42 t590.length co42)) (fun _ h_ => h_.1))))) (Kd.R_lt (Rm (Kd.R_mono (Kd.R_far (p := ⟨gb594, 2, none⟩) (Kd.R_far (p := ⟨gb594, 1, none⟩) (Kd.R_far (p := ⟨gb594, 0, none⟩) (Kd.R_types HO_582001.out BK594.out (by decide)) (fun _ hk => hk.2) (.slice Ao37 t584.length co37)) (fun _ hk => hk.2) (.slice Ao41 t587.length co41)) (fun _ hk => hk.2) (.slice Ao42 t590.length co42)) (fun _ h_ => h_.1))))) (Kd.R_lt (Rm (Kd.R_mono (Kd.R_far (p := ⟨gb594, 2, none⟩) (Kd.R_far (p := ⟨gb594, 1, none⟩) (Kd.R_far (p := ⟨gb594, 0, none⟩) (Kd.R_types HO586.out BK594.out (by decide)) (fun _ hk => hk.2) (.slice Ao37 t584.length co37)) (fun _ hk => hk.2) (.slice Ao41 t587.length co41)) (fun _ hk => hk.2) (.slice Ao42 t590.length co42)) (fun _ h_ => h_.1))))) (Kd.R_lt (Rm (Kd.R_mono (Kd.R_far (p := ⟨gb594, 2, none⟩) (Kd.R_far (p := ⟨gb594, 1, none⟩) (Kd.R_far (p := ⟨gb594, 0, none⟩) (Kd.R_types HO589.out BK594.out (by decide)) (fun _ hk => hk.2) (.slice Ao37 t584.length co37)) (fun _ hk => hk.2) (.slice Ao41 t587.length co41)) (fun _ hk => hk.2) (.slice Ao42 t590.length co42)) (fun _ h_ => h_.1))))) (below_size (by repeat first | exact Bl HB | refine Bp (below_set ?_ GE570.out) | refine Bp (below_set ?_ GE581.out) | refine Bp (below_set ?_ GE594.out)))); have n7_ := Am (Kd.R_lower (Kd.R_new' (Kd.R_new' (Kd.R_new' (Kd.R_new' ho1 (Kd.R_lt (Rm (Kd.R_mono (Kd.R_far (p := ⟨gb594, 2, none⟩) (Kd.R_far (p := ⟨gb594, 1, none⟩) (Kd.R_far (p := ⟨gb594, 0, none⟩) (Kd.R_types HO_582000.out BK594.out (by decide)) (fun _ hk => hk.2) (.slice Ao37 t584.length co37)) (fun _ hk => hk.2) (.slice Ao41 t587.length co41)) (fun _ hk => hk.2) (.slice Ao42 t590.length co42)) (fun _ h_ => h_.1))))) (Kd.R_lt (Rm (Kd.R_mono (Kd.R_far (p := ⟨gb594, 2, none⟩) (Kd.R_far (p := ⟨gb594, 1, none⟩) (Kd.R_far (p := ⟨gb594, 0, none⟩) (Kd.R_types HO_582001.out BK594.out (by decide)) (fun _ hk => hk.2) (.slice Ao37 t584.length co37)) (fun _ hk => hk.2) (.slice Ao41 t587.length co41)) (fun _ hk => hk.2) (.slice Ao42 t590.length co42)) (fun _ h_ => h_.1))))) (Kd.R_lt (Rm (Kd.R_mono (Kd.R_far (p := ⟨gb594, 2, none⟩) (Kd.R_far (p := ⟨gb594, 1, none⟩) (Kd.R_far (p := ⟨gb594, 0, none⟩) (Kd.R_types HO586.out BK594.out (by decide)) (fun _ hk => hk.2) (.slice Ao37 t584.length co37)) (fun _ hk => hk.2) (.slice Ao41 t587.length co41)) (fun _ hk => hk.2) (.slice Ao42 t590.length co42)) (fun _ h_ => h_.1))))) (Kd.R_lt (Rm (Kd.R_mono (Kd.R_far (p := ⟨gb594, 2, none⟩) (Kd.R_far (p := ⟨gb594, 1, none⟩) (Kd.R_far (p := ⟨gb594, 0, none⟩) (Kd.R_types HO589.out BK594.out (by decide)) (fun _ hk => hk.2) (.slice Ao37 t584.length co37)) (fun _ hk => hk.2) (.slice Ao41 t587.length co41)) (fun _ hk => hk.2) (.slice Ao42 t590.length co42)) (fun _ h_ => h_.1))))) (below_size (by repeat first | exact Bl HB | refine Bp (below_set ?_ GE570.out) | refine Bp (below_set ?_ GE581.out) | refine Bp (below_set ?_ GE594.out)))); have n8_ := Am (Kd.S_lower (Kd.S_new' (Kd.S_new' (Kd.S_new' (Kd.S_new' (Kd.S_new' (Kd.S_new' ho2 (Kd.R_lt (Rm (Kd.R_mono (Kd.R_far (p := ⟨gb594, 2, none⟩) (Kd.R_far (p := ⟨gb594, 1, none⟩) (Kd.R_far (p := ⟨gb594, 0, none⟩) (Kd.R_types HO_582000.out BK594.out (by decide)) (fun _ hk => hk.2) (.slice Ao37 t584.length co37)) (fun _ hk => hk.2) (.slice Ao41 t587.length co41)) (fun _ hk => hk.2) (.slice Ao42 t590.length co42)) (fun _ h_ => h_.1))))) (Kd.R_lt (Rm (Kd.R_mono (Kd.R_far (p := ⟨gb594, 2, none⟩) (Kd.R_far (p := ⟨gb594, 1, none⟩) (Kd.R_far (p := ⟨gb594, 0, none⟩) (Kd.R_types HO_582001.out BK594.out (by decide)) (fun _ hk => hk.2) (.slice Ao37 t584.length co37)) (fun _ hk => hk.2) (.slice Ao41 t587.length co41)) (fun _ hk => hk.2) (.slice Ao42 t590.length co42)) (fun _ h_ => h_.1))))) (Kd.S_lt (Sm (Kd.S_mono (Kd.S_far (p := ⟨gb594, 2, none⟩) (Kd.S_far (p := ⟨gb594, 1, none⟩) (Kd.S_far (p := ⟨gb594, 0, none⟩) (Kd.S_types HO_582002.out BK594.out (by decide)) (fun _ hk => hk.2) (.slice Ao37 t584.length co37)) (fun _ hk => hk.2) (.slice Ao41 t587.length co41)) (fun _ hk => hk.2) (.slice Ao42 t590.length co42)) (fun _ h_ => h_.1))))) (Kd.R_lt (Rm (Kd.R_mono (Kd.R_far (p := ⟨gb594, 2, none⟩) (Kd.R_far (p := ⟨gb594, 1, none⟩) (Kd.R_far (p := ⟨gb594, 0, none⟩) (Kd.R_types HO586.out BK594.out (by decide)) (fun _ hk => hk.2) (.slice Ao37 t584.length co37)) (fun _ hk => hk.2) (.slice Ao41 t587.length co41)) (fun _ hk => hk.2) (.slice Ao42 t590.length co42)) (fun _ h_ => h_.1))))) (Kd.R_lt (Rm (Kd.R_mono (Kd.R_far (p := ⟨gb594, 2, none⟩) (Kd.R_far (p := ⟨gb594, 1, none⟩) (Kd.R_far (p := ⟨gb594, 0, none⟩) (Kd.R_types HO589.out BK594.out (by decide)) (fun _ hk => hk.2) (.slice Ao37 t584.length co37)) (fun _ hk => hk.2) (.slice Ao41 t587.length co41)) (fun _ hk => hk.2) (.slice Ao42 t590.length co42)) (fun _ h_ => h_.1))))) (Kd.S_lt (Sm (Kd.S_mono (Kd.S_far (p := ⟨gb594, 2, none⟩) (Kd.S_far (p := ⟨gb594, 1, none⟩) (Kd.S_far (p := ⟨gb594, 0, none⟩) (Kd.S_types HO592.out BK594.out (by decide)) (fun _ hk => hk.2) (.slice Ao37 t584.length co37)) (fun _ hk => hk.2) (.slice Ao41 t587.length co41)) (fun _ hk => hk.2) (.slice Ao42 t590.length co42)) (fun _ h_ => h_.1))))) (below_size (by repeat first | exact Bl HB | refine Bp (below_set ?_ GE570.out) | refine Bp (below_set ?_ GE581.out) | refine Bp (below_set ?_ GE594.out)))); have n9_ := Am (blk_below (g := gb570) (o := .cells #[.slice A0_0 l0_0.length c0_0, .slice A0_1 l0_1.length c0_1, .slice A0_2 l0_2.length c0_2] 39 (0, 0)) (by refine Kp ?_; refine blk_far ?_ NB570_594.out _; refine Kp ?_; refine blk_far ?_ NB570_594.out _; refine Kp ?_; refine blk_far ?_ NB570_594.out _; refine Kp ?_; exact BK570.out) hb); have n10_ := Am (blk_below (g := gb581) (o := .cells #[.slice Ao10 t571.length co10, .slice Ao13 t574.length co13, .slice Ao14 t577.length co14] 39 (0, 0)) (by refine Kp ?_; refine blk_far ?_ NB581_594.out _; refine Kp ?_; refine blk_far ?_ NB581_594.out _; refine Kp ?_; refine blk_far ?_ NB581_594.out _; refine Kp ?_; exact BK581.out) hb); have n11_ := Am (blk_below (g := gb594) (o := .cells #[.slice Ao37 t584.length co37, .slice Ao41 t587.length co41, .slice Ao42 t590.length co42] 39 (0, 0)) (by refine Kp ?_; refine blk_put (cs := #[.slice Ao37 t584.length co37, .slice Ao41 t587.length co41, .slice none 0 0]) ?_ 2 _ rfl; refine Kp ?_; refine blk_put (cs := #[.slice Ao37 t584.length co37, .slice none 0 0, .slice none 0 0]) ?_ 1 _ rfl; refine Kp ?_; refine blk_put (cs := #[.slice none 0 0, .slice none 0 0, .slice none 0 0]) ?_ 0 _ rfl; refine Kp ?_; exact BK594.out) hb); have n12_ := Am (below_step (by repeat first | exact Bl HB | refine Bp (below_set ?_ GE570.out) | refine Bp (below_set ?_ GE581.out) | refine Bp (below_set ?_ GE594.out)) hb); clear HO_582000 HO_582001 HO_582002 HO586 HO589 HO592 BK570 BK581 BK594 HB; have HO_582000 := n0_; have HO_582001 := n1_; have HO_582002 := n2_; have HO586 := n3_; have HO589 := n4_; have HO592 := n5_; have HO599 := n6_; have HO602 := n7_; have HO605 := n8_; have BK570 := n9_; have BK581 := n10_; have BK594 := n11_; have HB := n12_; clear n0_ n1_ n2_ n3_ n4_ n5_ n6_ n7_ n8_ n9_ n10_ n11_ n12_; (try clear hb); (try clear hb2); (try clear hk); (try clear hi); (try clear ho0); (try clear ho1); (try clear ho2)) | ((with_reducible refine gate_dst (N := 11) rfl ?_); (try (refine gate_guard (by rfl) ?_; dsimp only)); refine box_event ?hg (N := 11) ?hd (cs := #[.slice none 0 0, .slice none 0 0, .slice none 0 0]) (t := 39) ?hr ?_; (case hd => rfl); (case hg => rfl); (case hr => first | (go_simp; done) | (go_simp; rfl)); intro gb607 hg w44 hbox hb; have n0_ := Am (Kd.R_below (Rl HO_582000) hb); have n1_ := Am (Kd.R_below (Rl HO_582001) hb); have n2_ := Am (Kd.S_below (Sl HO_582002) hb); have n3_ := Am (Kd.R_below (Rl HO586) hb); have n4_ := Am (Kd.R_below (Rl HO589) hb); have n5_ := Am (Kd.S_below (Sl HO592) hb); have n6_ := Am (Kd.R_below (Rl HO599) hb); have n7_ := Am (Kd.R_below (Rl HO602) hb); have n8_ := Am (Kd.S_below (Sl HO605) hb); have n9_ := Am (blk_below (Kl BK570) hb); have n10_ := Am (blk_below (Kl BK581) hb); have n11_ := Am (blk_below (Kl BK594) hb); have n12_ := Am (below_step (by repeat first | exact Bl HB | refine Bp (below_set ?_ GE570.out) | refine Bp (below_set ?_ GE581.out) | refine Bp (below_set ?_ GE594.out)) hb); have n13_ := Am (hbox); have n14_ := Am ((by rw [hg]; exact (below_size (by repeat first | exact Bl HB | refine Bp (below_set ?_ GE570.out) | refine Bp (below_set ?_ GE581.out) | refine Bp (below_set ?_ GE594.out))) : w.heap.size ≤ gb607)); have n15_ := Am ((by rw [hg]; exact (below_size (by repeat first | exact Bl HB | refine Bp (below_set ?_ GE570.out) | refine Bp (below_set ?_ GE581.out) | refine Bp (below_set ?_ GE594.out))) : w.heap.size ≤ gb607)); have n16_ := Am ((by rw [hg]; exact Nat.ne_of_lt (blk_lt (Kl BK570)) : gb570 ≠ gb607)); have n17_ := Am ((by rw [hg]; exact Nat.ne_of_gt (blk_lt (Kl BK570)) : gb607 ≠ gb570)); have n18_ := Am ((by rw [hg]; exact Nat.ne_of_lt (blk_lt (Kl BK581)) : gb581 ≠ gb607)); have n19_ := Am ((by rw [hg]; exact Nat.ne_of_gt (blk_lt (Kl BK581)) : gb607 ≠ gb581)); have n20_ := Am ((by rw [hg]; exact Nat.ne_of_lt (blk_lt (Kl BK594)) : gb594 ≠ gb607)); have n21_ := Am ((by rw [hg]; exact Nat.ne_of_gt (blk_lt (Kl BK594)) : gb607 ≠ gb594)); clear HO_582000 HO_582001 HO_582002 HO586 HO589 HO592 HO599 HO602 HO605 BK570 BK581 BK594 HB; have HO_582000 := n0_; have HO_582001 := n1_; have HO_582002 := n2_; have HO586 := n3_; have HO589 := n4_; have HO592 := n5_; have HO599 := n6_; have HO602 := n7_; have HO605 := n8_; have BK570 := n9_; have BK581 := n10_; have BK594 := n11_; have HB := n12_; have BK607 := n13_; have GW607 := n14_; have GE607 := n15_; have NB570_607 := n16_; have NB607_570 := n17_; have NB581_607 := n18_; have NB607_581 := n19_; have NB594_607 := n20_; have NB607_594 := n21_; clear n0_ n1_ n2_ n3_ n4_ n5_ n6_ n7_ n8_ n9_ n10_ n11_ n12_ n13_ n14_ n15_ n16_ n17_ n18_ n19_ n20_ n21_; clear hb hbox hg; obtain ⟨Ao45, co45, eo45⟩ := Kd.R_slice HO599.out; subst eo45; have hnb46 := NB607_570.out; have hnc46 := NB570_607.out; have hnb47 := NB607_581.out; have hnc47 := NB581_607.out; have hnb48 := NB607_594.out; have hnc48 := NB594_607.out; have hcz49_0 : w44.cell? ⟨gb607, 0, none⟩ = some (.slice none 0 0) := (blk_cell BK607.out 0).trans rfl; have hcz49_1 : w44.cell? ⟨gb607, 1, none⟩ = some (.slice none 0 0) := (blk_cell BK607.out 1).trans rfl; have hcz49_2 : w44.cell? ⟨gb607, 2, none⟩ = some (.slice none 0 0) := (blk_cell BK607.out 2).trans rfl; have hfz49_0 := blk_frozen BK607.out 0; have hfz49_1 := blk_frozen BK607.out 1; have hfz49_2 := blk_frozen BK607.out 2; obtain ⟨Ao50, co50, eo50⟩ := Kd.R_slice HO602.out; subst eo50; obtain ⟨Ao51, co51, eo51⟩ := Kd.S_slice HO605.out; subst eo51))
     (try simp only [Act.put, List.setIfInBounds_toArray, List.set_cons_zero, List.set_cons_succ])
     go_cut [88] (fun v88 wc => ∃ (kq : Nat) (x88_31 : Bool), v88 = .bool x88_31 ∧ Aside0 (examboardlaw24_MatrixSelects.j1 kq l1 l2 x88_31 t584 t587 t590 = some r) ∧ Aside0 (kq ≤ kj4) ∧ Aside0 (Kd.R (Kd.int .i64) 3 wc w.heap.size (fun k_ => some k_ ≠ ((.slice Ao13 t574.length co13) : Value).ownBlock ∧ some k_ ≠ ((.slice Ao37 t584.length co37) : Value).ownBlock ∧ some k_ ≠ ((.slice Ao41 t587.length co41) : Value).ownBlock ∧ some k_ ≠ ((.slice Ao45 t597.length co45) : Value).ownBlock ∧ some k_ ≠ ((.slice Ao50 t600.length co50) : Value).ownBlock) (.slice Ao10 t571.length co10) t571) ∧ Aside0 (Kd.R (Kd.int .i64) 3 wc w.heap.size (fun k_ => some k_ ≠ ((.slice Ao10 t571.length co10) : Value).ownBlock ∧ some k_ ≠ ((.slice Ao37 t584.length co37) : Value).ownBlock ∧ some k_ ≠ ((.slice Ao41 t587.length co41) : Value).ownBlock ∧ some k_ ≠ ((.slice Ao45 t597.length co45) : Value).ownBlock ∧ some k_ ≠ ((.slice Ao50 t600.length co50) : Value).ownBlock) (.slice Ao13 t574.length co13) t574) ∧ Aside0 (Kd.S (Kd.slice 3 (Kd.int .i64)) 36 wc w.heap.size (fun k_ => some k_ ≠ ((.slice Ao10 t571.length co10) : Value).ownBlock ∧ some k_ ≠ ((.slice Ao13 t574.length co13) : Value).ownBlock ∧ some k_ ≠ ((.slice Ao37 t584.length co37) : Value).ownBlock ∧ some k_ ≠ ((.slice Ao41 t587.length co41) : Value).ownBlock ∧ some k_ ≠ ((.slice Ao42 t590.length co42) : Value).ownBlock ∧ some k_ ≠ ((.slice Ao45 t597.length co45) : Value).ownBlock ∧ some k_ ≠ ((.slice Ao50 t600.length co50) : Value).ownBlock ∧ some k_ ≠ ((.slice Ao51 t603.length co51) : Value).ownBlock) (.slice Ao14 t577.length co14) t577) ∧ Aside0 (Kd.R (Kd.int .i64) 3 wc w.heap.size (fun k_ => some k_ ≠ ((.slice Ao10 t571.length co10) : Value).ownBlock ∧ some k_ ≠ ((.slice Ao13 t574.length co13) : Value).ownBlock ∧ some k_ ≠ ((.slice Ao41 t587.length co41) : Value).ownBlock ∧ some k_ ≠ ((.slice Ao45 t597.length co45) : Value).ownBlock ∧ some k_ ≠ ((.slice Ao50 t600.length co50) : Value).ownBlock) (.slice Ao37 t584.length co37) t584) ∧ Aside0 (Kd.R (Kd.int .i64) 3 wc w.heap.size (fun k_ => some k_ ≠ ((.slice Ao10 t571.length co10) : Value).ownBlock ∧ some k_ ≠ ((.slice Ao13 t574.length co13) : Value).ownBlock ∧ some k_ ≠ ((.slice Ao37 t584.length co37) : Value).ownBlock ∧ some k_ ≠ ((.slice Ao45 t597.length co45) : Value).ownBlock ∧ some k_ ≠ ((.slice Ao50 t600.length co50) : Value).ownBlock) (.slice Ao41 t587.length co41) t587) ∧ Aside0 (Kd.S (Kd.slice 3 (Kd.int .i64)) 36 wc w.heap.size (fun k_ => some k_ ≠ ((.slice Ao10 t571.length co10) : Value).ownBlock ∧ some k_ ≠ ((.slice Ao13 t574.length co13) : Value).ownBlock ∧ some k_ ≠ ((.slice Ao14 t577.length co14) : Value).ownBlock ∧ some k_ ≠ ((.slice Ao37 t584.length co37) : Value).ownBlock ∧ some k_ ≠ ((.slice Ao41 t587.length co41) : Value).ownBlock ∧ some k_ ≠ ((.slice Ao45 t597.length co45) : Value).ownBlock ∧ some k_ ≠ ((.slice Ao50 t600.length co50) : Value).ownBlock ∧ some k_ ≠ ((.slice Ao51 t603.length co51) : Value).ownBlock) (.slice Ao42 t590.length co42) t590) ∧ Aside0 (Kd.R (Kd.int .i64) 3 wc w.heap.size (fun k_ => some k_ ≠ ((.slice Ao10 t571.length co10) : Value).ownBlock ∧ some k_ ≠ ((.slice Ao13 t574.length co13) : Value).ownBlock ∧ some k_ ≠ ((.slice Ao37 t584.length co37) : Value).ownBlock ∧ some k_ ≠ ((.slice Ao41 t587.length co41) : Value).ownBlock ∧ some k_ ≠ ((.slice Ao50 t600.length co50) : Value).ownBlock) (.slice Ao45 t597.length co45) t597) ∧ Aside0 (Kd.R (Kd.int .i64) 3 wc w.heap.size (fun k_ => some k_ ≠ ((.slice Ao10 t571.length co10) : Value).ownBlock ∧ some k_ ≠ ((.slice Ao13 t574.length co13) : Value).ownBlock ∧ some k_ ≠ ((.slice Ao37 t584.length co37) : Value).ownBlock ∧ some k_ ≠ ((.slice Ao41 t587.length co41) : Value).ownBlock ∧ some k_ ≠ ((.slice Ao45 t597.length co45) : Value).ownBlock) (.slice Ao50 t600.length co50) t600) ∧ Aside0 (Kd.S (Kd.slice 3 (Kd.int .i64)) 36 wc w.heap.size (fun k_ => some k_ ≠ ((.slice Ao10 t571.length co10) : Value).ownBlock ∧ some k_ ≠ ((.slice Ao13 t574.length co13) : Value).ownBlock ∧ some k_ ≠ ((.slice Ao14 t577.length co14) : Value).ownBlock ∧ some k_ ≠ ((.slice Ao37 t584.length co37) : Value).ownBlock ∧ some k_ ≠ ((.slice Ao41 t587.length co41) : Value).ownBlock ∧ some k_ ≠ ((.slice Ao42 t590.length co42) : Value).ownBlock ∧ some k_ ≠ ((.slice Ao45 t597.length co45) : Value).ownBlock ∧ some k_ ≠ ((.slice Ao50 t600.length co50) : Value).ownBlock) (.slice Ao51 t603.length co51) t603) ∧ Aside0 (wc.heap[gb570]? = some (.cells #[(.slice A0_0 l0_0.length c0_0), (.slice A0_1 l0_1.length c0_1), (.slice A0_2 l0_2.length c0_2)] 39 (0, 0))) ∧ Aside0 (wc.heap[gb581]? = some (.cells #[(.slice Ao10 t571.length co10), (.slice Ao13 t574.length co13), (.slice Ao14 t577.length co14)] 39 (0, 0))) ∧ Aside0 (wc.heap[gb594]? = some (.cells #[(.slice Ao37 t584.length co37), (.slice Ao41 t587.length co41), (.slice Ao42 t590.length co42)] 39 (0, 0))) ∧ Aside0 (wc.heap[gb607]? = some (.cells #[(.slice Ao45 t597.length co45), (.slice Ao50 t600.length co50), (.slice Ao51 t603.length co51)] 39 (0, 0))) ∧ Aside0 (Below w.heap.size w wc))
     case first =>
      have H := HC32.out
      clear HC32
      by_cases c52 : t606 = 0
      ·rw [if_pos c52] at H
       have c52b0 : (t606 == 0) = true := beq_iff_eq.mpr c52
       have c52b1 : (t606 != 0) = false := bne_eq_false_iff_eq.mpr c52
       clear c52
       (first | rw [c52b0] | (simp only [i64_w, i32_w]; rw [c52b0]) | skip)
       replace H := Option.bind_eq_some_iff.mp H
       obtain ⟨t608, A530, H⟩ := H
       replace H : (if t608 = true then ((examboardlaw24_equal.f kj4 t584 l1).bind fun t609 => (if t609 = true then ((examboardlaw24_equal.f kj4 t587 l2).bind fun t610 => (examboardlaw24_MatrixSelects.j1 kj4 l1 l2 (!t610) t584 t587 t590)) else (none))) else (none)) = some r := H
       have A53 := Am A530
       clear A530
       by_cases c54 : t608 = true
       ·subst c54
        have H1 : ((examboardlaw24_equal.f kj4 t584 l1).bind fun t609 => (if t609 = true then ((examboardlaw24_equal.f kj4 t587 l2).bind fun t610 => (examboardlaw24_MatrixSelects.j1 kj4 l1 l2 (!t610) t584 t587 t590)) else (none))) = some r := by rw [if_pos rfl] at H; exact H
        clear H
        have H := H1
        clear H1
        replace H := Option.bind_eq_some_iff.mp H
        obtain ⟨t609, A550, H⟩ := H
        replace H : (if t609 = true then ((examboardlaw24_equal.f kj4 t587 l2).bind fun t610 => (examboardlaw24_MatrixSelects.j1 kj4 l1 l2 (!t610) t584 t587 t590)) else (none)) = some r := H
        have A55 := Am A550
        clear A550
        by_cases c56 : t609 = true
        ·subst c56
         have H1 : ((examboardlaw24_equal.f kj4 t587 l2).bind fun t610 => (examboardlaw24_MatrixSelects.j1 kj4 l1 l2 (!t610) t584 t587 t590)) = some r := by rw [if_pos rfl] at H; exact H
         clear H
         have H := H1
         clear H1
         replace H := Option.bind_eq_some_iff.mp H
         obtain ⟨t610, A570, H⟩ := H
         replace H : (examboardlaw24_MatrixSelects.j1 kj4 l1 l2 (!t610) t584 t587 t590) = some r := H
         have A57 := Am A570
         clear A570
         have H' := Am H
         clear H
         have hnb58 := NB594_570.out
         have hnc58 := NB570_594.out
         have hnb59 := NB594_581.out
         have hnc59 := NB581_594.out
         have hnb60 := NB594_607.out
         have hnc60 := NB607_594.out
         have hcz61_0 : w44.cell? ⟨gb594, 0, none⟩ = some (.slice Ao37 t584.length co37) := (blk_cell BK594.out 0).trans rfl
         have hcz61_1 : w44.cell? ⟨gb594, 1, none⟩ = some (.slice Ao41 t587.length co41) := (blk_cell BK594.out 1).trans rfl
         have hcz61_2 : w44.cell? ⟨gb594, 2, none⟩ = some (.slice Ao42 t590.length co42) := (blk_cell BK594.out 2).trans rfl
         have hfz61_0 := blk_frozen BK594.out 0
         have hfz61_1 := blk_frozen BK594.out 1
         have hfz61_2 := blk_frozen BK594.out 2
         have hnb62 := NB607_570.out
         have hnc62 := NB570_607.out
         have hnb63 := NB607_581.out
         have hnc63 := NB581_607.out
         have hcz64_0 : w44.cell? ⟨gb607, 0, none⟩ = some (.slice none 0 0) := (blk_cell BK607.out 0).trans rfl
         have hcz64_1 : w44.cell? ⟨gb607, 1, none⟩ = some (.slice none 0 0) := (blk_cell BK607.out 1).trans rfl
         have hcz64_2 : w44.cell? ⟨gb607, 2, none⟩ = some (.slice none 0 0) := (blk_cell BK607.out 2).trans rfl
         have hfz64_0 := blk_frozen BK607.out 0
         have hfz64_1 := blk_frozen BK607.out 1
         have hfz64_2 := blk_frozen BK607.out 2
         go_wp2_with (first | (go_at_call 18; (with_reducible refine (examboardlaw24_same.calls kj4 _ _ t584 _ _ t587 _ _ t590 _ _ t597 _ _ t600 _ _ t603 true _ ?side1 ?side2 ?side3 ?side4 ?side5 ?side6 ?side7 ?side8 ?side9 ?side10 ?side11 ?side12 A53.out).mono ?_); (case side1 => refine (Kd.R_reads' (e := 3) (base := w.heap.size) (ok := fun k_ => ((((some k_ ≠ (.slice Ao41 t587.length co41 : Value).ownBlock ∧ some k_ ≠ (.slice Ao10 t571.length co10 : Value).ownBlock) ∧ some k_ ≠ (.slice Ao13 t574.length co13 : Value).ownBlock) ∧ some k_ ≠ (.slice Ao45 t597.length co45 : Value).ownBlock) ∧ some k_ ≠ (.slice Ao50 t600.length co50 : Value).ownBlock)) (n := t584.length) (c := co37) ?_).2.2; exact (Rm (Kd.R_mono (Kd.R_far (p := ⟨gb607, 2, none⟩) (Kd.R_far (p := ⟨gb607, 1, none⟩) (Kd.R_far (p := ⟨gb607, 0, none⟩) (Kd.R_types HO586.out BK607.out (by decide)) (fun _ hk => hk.2) (.slice Ao45 t597.length co45)) (fun _ hk => hk.2) (.slice Ao50 t600.length co50)) (fun _ hk => hk.2) (.slice Ao51 t603.length co51)) (fun _ h_ => h_.1)))); (case side2 => exact (Kd.R_reads' HO586.out).2.1); (case side3 => refine (Kd.R_reads' (e := 3) (base := w.heap.size) (ok := fun k_ => ((((some k_ ≠ (.slice Ao37 t584.length co37 : Value).ownBlock ∧ some k_ ≠ (.slice Ao10 t571.length co10 : Value).ownBlock) ∧ some k_ ≠ (.slice Ao13 t574.length co13 : Value).ownBlock) ∧ some k_ ≠ (.slice Ao45 t597.length co45 : Value).ownBlock) ∧ some k_ ≠ (.slice Ao50 t600.length co50 : Value).ownBlock)) (n := t587.length) (c := co41) ?_).2.2; exact (Rm (Kd.R_mono (Kd.R_far (p := ⟨gb607, 2, none⟩) (Kd.R_far (p := ⟨gb607, 1, none⟩) (Kd.R_far (p := ⟨gb607, 0, none⟩) (Kd.R_types HO589.out BK607.out (by decide)) (fun _ hk => hk.2) (.slice Ao45 t597.length co45)) (fun _ hk => hk.2) (.slice Ao50 t600.length co50)) (fun _ hk => hk.2) (.slice Ao51 t603.length co51)) (fun _ h_ => h_.1)))); (case side4 => exact (Kd.R_reads' HO589.out).2.1); (case side5 => refine (Kd.S_reads' (e := 36) (base := w.heap.size) (ok := fun k_ => (((((((some k_ ≠ (.slice Ao37 t584.length co37 : Value).ownBlock ∧ some k_ ≠ (.slice Ao41 t587.length co41 : Value).ownBlock) ∧ some k_ ≠ (.slice Ao10 t571.length co10 : Value).ownBlock) ∧ some k_ ≠ (.slice Ao13 t574.length co13 : Value).ownBlock) ∧ some k_ ≠ (.slice Ao14 t577.length co14 : Value).ownBlock) ∧ some k_ ≠ (.slice Ao45 t597.length co45 : Value).ownBlock) ∧ some k_ ≠ (.slice Ao50 t600.length co50 : Value).ownBlock) ∧ some k_ ≠ (.slice Ao51 t603.length co51 : Value).ownBlock)) (n := t590.length) (c := co42) ?_).2.2; exact (Sm (Kd.S_mono (Kd.S_far (p := ⟨gb607, 2, none⟩) (Kd.S_far (p := ⟨gb607, 1, none⟩) (Kd.S_far (p := ⟨gb607, 0, none⟩) (Kd.S_types HO592.out BK607.out (by decide)) (fun _ hk => hk.2) (.slice Ao45 t597.length co45)) (fun _ hk => hk.2) (.slice Ao50 t600.length co50)) (fun _ hk => hk.2) (.slice Ao51 t603.length co51)) (fun _ h_ => h_.1)))); (case side6 => exact (Kd.S_reads' HO592.out).2.1); (case side7 => refine (Kd.R_reads' (e := 3) (base := w.heap.size) (ok := fun k_ => ((((some k_ ≠ (.slice Ao50 t600.length co50 : Value).ownBlock ∧ some k_ ≠ (.slice Ao10 t571.length co10 : Value).ownBlock) ∧ some k_ ≠ (.slice Ao13 t574.length co13 : Value).ownBlock) ∧ some k_ ≠ (.slice Ao37 t584.length co37 : Value).ownBlock) ∧ some k_ ≠ (.slice Ao41 t587.length co41 : Value).ownBlock)) (n := t597.length) (c := co45) ?_).2.2; exact (Rm (Kd.R_mono (Kd.R_far (p := ⟨gb607, 2, none⟩) (Kd.R_far (p := ⟨gb607, 1, none⟩) (Kd.R_far (p := ⟨gb607, 0, none⟩) (Kd.R_types HO599.out BK607.out (by decide)) (fun _ hk => hk.2) (.slice Ao45 t597.length co45)) (fun _ hk => hk.2) (.slice Ao50 t600.length co50)) (fun _ hk => hk.2) (.slice Ao51 t603.length co51)) (fun _ h_ => h_.1)))); (case side8 => exact (Kd.R_reads' HO599.out).2.1); (case side9 => refine (Kd.R_reads' (e := 3) (base := w.heap.size) (ok := fun k_ => ((((some k_ ≠ (.slice Ao45 t597.length co45 : Value).ownBlock ∧ some k_ ≠ (.slice Ao10 t571.length co10 : Value).ownBlock) ∧ some k_ ≠ (.slice Ao13 t574.length co13 : Value).ownBlock) ∧ some k_ ≠ (.slice Ao37 t584.length co37 : Value).ownBlock) ∧ some k_ ≠ (.slice Ao41 t587.length co41 : Value).ownBlock)) (n := t600.length) (c := co50) ?_).2.2; exact (Rm (Kd.R_mono (Kd.R_far (p := ⟨gb607, 2, none⟩) (Kd.R_far (p := ⟨gb607, 1, none⟩) (Kd.R_far (p := ⟨gb607, 0, none⟩) (Kd.R_types HO602.out BK607.out (by decide)) (fun _ hk => hk.2) (.slice Ao45 t597.length co45)) (fun _ hk => hk.2) (.slice Ao50 t600.length co50)) (fun _ hk => hk.2) (.slice Ao51 t603.length co51)) (fun _ h_ => h_.1)))); (case side10 => exact (Kd.R_reads' HO602.out).2.1); (case side11 => refine (Kd.S_reads' (e := 36) (base := w.heap.size) (ok := fun k_ => (((((((some k_ ≠ (.slice Ao45 t597.length co45 : Value).ownBlock ∧ some k_ ≠ (.slice Ao50 t600.length co50 : Value).ownBlock) ∧ some k_ ≠ (.slice Ao10 t571.length co10 : Value).ownBlock) ∧ some k_ ≠ (.slice Ao13 t574.length co13 : Value).ownBlock) ∧ some k_ ≠ (.slice Ao14 t577.length co14 : Value).ownBlock) ∧ some k_ ≠ (.slice Ao37 t584.length co37 : Value).ownBlock) ∧ some k_ ≠ (.slice Ao41 t587.length co41 : Value).ownBlock) ∧ some k_ ≠ (.slice Ao42 t590.length co42 : Value).ownBlock)) (n := t603.length) (c := co51) ?_).2.2; exact (Sm (Kd.S_mono (Kd.S_far (p := ⟨gb607, 2, none⟩) (Kd.S_far (p := ⟨gb607, 1, none⟩) (Kd.S_far (p := ⟨gb607, 0, none⟩) (Kd.S_types HO605.out BK607.out (by decide)) (fun _ hk => hk.2) (.slice Ao45 t597.length co45)) (fun _ hk => hk.2) (.slice Ao50 t600.length co50)) (fun _ hk => hk.2) (.slice Ao51 t603.length co51)) (fun _ h_ => h_.1)))); (case side12 => exact (Kd.S_reads' HO605.out).2.1); rintro e w65 ⟨rfl, hb⟩; have n0_ := Am (Kd.R_below (Rm (Kd.R_mono (Kd.R_far (p := ⟨gb607, 2, none⟩) (Kd.R_far (p := ⟨gb607, 1, none⟩) (Kd.R_far (p := ⟨gb607, 0, none⟩) (Kd.R_types HO_582000.out BK607.out (by decide)) (fun _ hk => hk.2) (.slice Ao45 t597.length co45)) (fun _ hk => hk.2) (.slice Ao50 t600.length co50)) (fun _ hk => hk.2) (.slice Ao51 t603.length co51)) (fun _ h_ => h_.1))) hb); have n1_ := Am (Kd.R_below (Rm (Kd.R_mono (Kd.R_far (p := ⟨gb607, 2, none⟩) (Kd.R_far (p := ⟨gb607, 1, none⟩) (Kd.R_far (p := ⟨gb607, 0, none⟩) (Kd.R_types HO_582001.out BK607.out (by decide)) (fun _ hk => hk.2) (.slice Ao45 t597.length co45)) (fun _ hk => hk.2) (.slice Ao50 t600.length co50)) (fun _ hk => hk.2) (.slice Ao51 t603.length co51)) (fun _ h_ => h_.1))) hb); have n2_ := Am (Kd.S_below (Sm (Kd.S_mono (Kd.S_far (p := ⟨gb607, 2, none⟩) (Kd.S_far (p := ⟨gb607, 1, none⟩) (Kd.S_far (p := ⟨gb607, 0, none⟩) (Kd.S_types HO_582002.out BK607.out (by decide)) (fun _ hk => hk.2) (.slice Ao45 t597.length co45)) (fun _ hk => hk.2) (.slice Ao50 t600.length co50)) (fun _ hk => hk.2) (.slice Ao51 t603.length co51)) (fun _ h_ => h_.1))) hb); have n3_ := Am (Kd.R_below (Rm (Kd.R_mono (Kd.R_far (p := ⟨gb607, 2, none⟩) (Kd.R_far (p := ⟨gb607, 1, none⟩) (Kd.R_far (p := ⟨gb607, 0, none⟩) (Kd.R_types HO586.out BK607.out (by decide)) (fun _ hk => hk.2) (.slice Ao45 t597.length co45)) (fun _ hk => hk.2) (.slice Ao50 t600.length co50)) (fun _ hk => hk.2) (.slice Ao51 t603.length co51)) (fun _ h_ => h_.1))) hb); have n4_ := Am (Kd.R_below (Rm (Kd.R_mono (Kd.R_far (p := ⟨gb607, 2, none⟩) (Kd.R_far (p := ⟨gb607, 1, none⟩) (Kd.R_far (p := ⟨gb607, 0, none⟩) (Kd.R_types HO589.out BK607.out (by decide)) (fun _ hk => hk.2) (.slice Ao45 t597.length co45)) (fun _ hk => hk.2) (.slice Ao50 t600.length co50)) (fun _ hk => hk.2) (.slice Ao51 t603.length co51)) (fun _ h_ => h_.1))) hb); have n5_ := Am (Kd.S_below (Sm (Kd.S_mono (Kd.S_far (p := ⟨gb607, 2, none⟩) (Kd.S_far (p := ⟨gb607, 1, none⟩) (Kd.S_far (p := ⟨gb607, 0, none⟩) (Kd.S_types HO592.out BK607.out (by decide)) (fun _ hk => hk.2) (.slice Ao45 t597.length co45)) (fun _ hk => hk.2) (.slice Ao50 t600.length co50)) (fun _ hk => hk.2) (.slice Ao51 t603.length co51)) (fun _ h_ => h_.1))) hb); have n6_ := Am (Kd.R_below (Rm (Kd.R_mono (Kd.R_far (p := ⟨gb607, 2, none⟩) (Kd.R_far (p := ⟨gb607, 1, none⟩) (Kd.R_far (p := ⟨gb607, 0, none⟩) (Kd.R_types HO599.out BK607.out (by decide)) (fun _ hk => hk.2) (.slice Ao45 t597.length co45)) (fun _ hk => hk.2) (.slice Ao50 t600.length co50)) (fun _ hk => hk.2) (.slice Ao51 t603.length co51)) (fun _ h_ => h_.1))) hb); have n7_ := Am (Kd.R_below (Rm (Kd.R_mono (Kd.R_far (p := ⟨gb607, 2, none⟩) (Kd.R_far (p := ⟨gb607, 1, none⟩) (Kd.R_far (p := ⟨gb607, 0, none⟩) (Kd.R_types HO602.out BK607.out (by decide)) (fun _ hk => hk.2) (.slice Ao45 t597.length co45)) (fun _ hk => hk.2) (.slice Ao50 t600.length co50)) (fun _ hk => hk.2) (.slice Ao51 t603.length co51)) (fun _ h_ => h_.1))) hb); have n8_ := Am (Kd.S_below (Sm (Kd.S_mono (Kd.S_far (p := ⟨gb607, 2, none⟩) (Kd.S_far (p := ⟨gb607, 1, none⟩) (Kd.S_far (p := ⟨gb607, 0, none⟩) (Kd.S_types HO605.out BK607.out (by decide)) (fun _ hk => hk.2) (.slice Ao45 t597.length co45)) (fun _ hk => hk.2) (.slice Ao50 t600.length co50)) (fun _ hk => hk.2) (.slice Ao51 t603.length co51)) (fun _ h_ => h_.1))) hb); have n9_ := Am (blk_below (g := gb570) (o := .cells #[.slice A0_0 l0_0.length c0_0, .slice A0_1 l0_1.length c0_1, .slice A0_2 l0_2.length c0_2] 39 (0, 0)) (by refine Kp ?_; refine blk_far ?_ NB570_607.out _; refine Kp ?_; refine blk_far ?_ NB570_607.out _; refine Kp ?_; refine blk_far ?_ NB570_607.out _; refine Kp ?_; exact BK570.out) hb); have n10_ := Am (blk_below (g := gb581) (o := .cells #[.slice Ao10 t571.length co10, .slice Ao13 t574.length co13, .slice Ao14 t577.length co14] 39 (0, 0)) (by refine Kp ?_; refine blk_far ?_ NB581_607.out _; refine Kp ?_; refine blk_far ?_ NB581_607.out _; refine Kp ?_; refine blk_far ?_ NB581_607.out _; refine Kp ?_; exact BK581.out) hb); have n11_ := Am (blk_below (g := gb594) (o := .cells #[.slice Ao37 t584.length co37, .slice Ao41 t587.length co41, .slice Ao42 t590.length co42] 39 (0, 0)) (by refine Kp ?_; refine blk_far ?_ NB594_607.out _; refine Kp ?_; refine blk_far ?_ NB594_607.out _; refine Kp ?_; refine blk_far ?_ NB594_607.out _; refine Kp ?_; exact BK594.out) hb); have n12_ := Am (blk_below (g := gb607) (o := .cells #[.slice Ao45 t597.length co45, .slice Ao50 t600.length co50, .slice Ao51 t603.length co51] 39 (0, 0)) (by refine Kp ?_; refine blk_put (cs := #[.slice Ao45 t597.length co45, .slice Ao50 t600.length co50, .slice none 0 0]) ?_ 2 _ rfl; refine Kp ?_; refine blk_put (cs := #[.slice Ao45 t597.length co45, .slice none 0 0, .slice none 0 0]) ?_ 1 _ rfl; refine Kp ?_; refine blk_put (cs := #[.slice none 0 0, .slice none 0 0, .slice none 0 0]) ?_ 0 _ rfl; refine Kp ?_; exact BK607.out) hb); have n13_ := Am (below_step (by repeat first | exact Bl HB | refine Bp (below_set ?_ GE570.out) | refine Bp (below_set ?_ GE581.out) | refine Bp (below_set ?_ GE594.out) | refine Bp (below_set ?_ GE607.out)) hb); clear HO_582000 HO_582001 HO_582002 HO586 HO589 HO592 HO599 HO602 HO605 BK570 BK581 BK594 BK607 HB; have HO_582000 := n0_; have HO_582001 := n1_; have HO_582002 := n2_; have HO586 := n3_; have HO589 := n4_; have HO592 := n5_; have HO599 := n6_; have HO602 := n7_; have HO605 := n8_; have BK570 := n9_; have BK581 := n10_; have BK594 := n11_; have BK607 := n12_; have HB := n13_; clear n0_ n1_ n2_ n3_ n4_ n5_ n6_ n7_ n8_ n9_ n10_ n11_ n12_ n13_; (try clear hb); (try clear hb2); (try clear hk); (try clear hi); have hcz66_0 : w65.cell? ⟨gb594, 0, none⟩ = some (.slice Ao37 t584.length co37) := (blk_cell BK594.out 0).trans rfl; have hcz66_1 : w65.cell? ⟨gb594, 1, none⟩ = some (.slice Ao41 t587.length co41) := (blk_cell BK594.out 1).trans rfl; have hcz66_2 : w65.cell? ⟨gb594, 2, none⟩ = some (.slice Ao42 t590.length co42) := (blk_cell BK594.out 2).trans rfl; have hfz66_0 := blk_frozen BK594.out 0; have hfz66_1 := blk_frozen BK594.out 1; have hfz66_2 := blk_frozen BK594.out 2) | (go_at_call 23; (with_reducible refine (examboardlaw24_equal.calls kj4 _ _ t584 _ _ l1 true _ ?side1 ?side2 ?side3 ?side4 A55.out).mono ?_); (case side1 => exact Cm (Kd.R_reads' HO586.out).2.2); (case side2 => exact (Kd.R_reads' HO586.out).2.1); (case side3 => repeat (first | exact (Kd.C_below HR1.out HB.out) | (with_reducible refine Kd.C_alloc ?_ _) | (with_reducible refine Kd.C_drewN ?_ _) | (with_reducible refine Kd.C_drew ?_))); (case side4 => exact HC1.out); rintro e w' ⟨rfl, ⟨nd, rfl⟩⟩) | (go_at_call 23; (with_reducible refine (examboardlaw24_equal.calls kj4 _ _ t587 _ _ l2 t610 _ ?side1 ?side2 ?side3 ?side4 A57.out).mono ?_); (case side1 => exact Cm (Kd.R_reads' HO589.out).2.2); (case side2 => exact (Kd.R_reads' HO589.out).2.1); (case side3 => repeat (first | exact (Kd.C_below HR2.out (by repeat first | exact Bl HB | refine Bp (below_set ?_ GE570.out) | refine Bp (below_set ?_ GE581.out) | refine Bp (below_set ?_ GE594.out) | refine Bp (below_set ?_ GE607.out))) | (with_reducible refine Kd.C_alloc ?_ _) | (with_reducible refine Kd.C_drewN ?_ _) | (with_reducible refine Kd.C_drew ?_))); (case side4 => exact HC2.out); rintro e w' ⟨rfl, ⟨nd, rfl⟩⟩))
         go_meet
         case rel => exact ⟨_, (!t610), (by first | rfl | (simp; done) | (simp [*]; done)), H', ⟨by have := HJ4.out; first | omega | exact Nat.le_refl _⟩, ⟨Rm (Kd.R_mono HO_582000.out (fun _ hk => ⟨hk.1.1.1.1, ⟨hk.1.1.1.2, ⟨hk.1.1.2, ⟨hk.1.2, hk.2⟩⟩⟩⟩))⟩, ⟨Rm (Kd.R_mono HO_582001.out (fun _ hk => ⟨hk.1.1.1.1, ⟨hk.1.1.1.2, ⟨hk.1.1.2, ⟨hk.1.2, hk.2⟩⟩⟩⟩))⟩, ⟨Sm (Kd.S_mono HO_582002.out (fun _ hk => ⟨hk.1.1.1.1.1.1.1, ⟨hk.1.1.1.1.1.1.2, ⟨hk.1.1.1.1.1.2, ⟨hk.1.1.1.1.2, ⟨hk.1.1.1.2, ⟨hk.1.1.2, ⟨hk.1.2, hk.2⟩⟩⟩⟩⟩⟩⟩))⟩, ⟨Rm (Kd.R_mono HO586.out (fun _ hk => ⟨hk.1.1.1.2, ⟨hk.1.1.2, ⟨hk.1.1.1.1, ⟨hk.1.2, hk.2⟩⟩⟩⟩))⟩, ⟨Rm (Kd.R_mono HO589.out (fun _ hk => ⟨hk.1.1.1.2, ⟨hk.1.1.2, ⟨hk.1.1.1.1, ⟨hk.1.2, hk.2⟩⟩⟩⟩))⟩, ⟨Sm (Kd.S_mono HO592.out (fun _ hk => ⟨hk.1.1.1.1.1.2, ⟨hk.1.1.1.1.2, ⟨hk.1.1.1.2, ⟨hk.1.1.1.1.1.1.1, ⟨hk.1.1.1.1.1.1.2, ⟨hk.1.1.2, ⟨hk.1.2, hk.2⟩⟩⟩⟩⟩⟩⟩))⟩, ⟨Rm (Kd.R_mono HO599.out (fun _ hk => ⟨hk.1.1.1.2, ⟨hk.1.1.2, ⟨hk.1.2, ⟨hk.2, hk.1.1.1.1⟩⟩⟩⟩))⟩, ⟨Rm (Kd.R_mono HO602.out (fun _ hk => ⟨hk.1.1.1.2, ⟨hk.1.1.2, ⟨hk.1.2, ⟨hk.2, hk.1.1.1.1⟩⟩⟩⟩))⟩, ⟨Sm (Kd.S_mono HO605.out (fun _ hk => ⟨hk.1.1.1.1.1.2, ⟨hk.1.1.1.1.2, ⟨hk.1.1.1.2, ⟨hk.1.1.2, ⟨hk.1.2, ⟨hk.2, ⟨hk.1.1.1.1.1.1.1, hk.1.1.1.1.1.1.2⟩⟩⟩⟩⟩⟩⟩))⟩, ⟨Kl BK570⟩, ⟨Kl BK581⟩, ⟨Kl BK594⟩, ⟨Kl BK607⟩, ⟨by repeat first | exact Bl HB | refine Bp (below_set ?_ GE570.out) | refine Bp (below_set ?_ GE581.out) | refine Bp (below_set ?_ GE594.out) | refine Bp (below_set ?_ GE607.out)⟩⟩
        ·replace c56 := Bool.eq_false_iff.mpr c56
         subst c56
         have H1 : (none) = some r := by rw [if_neg (show ¬ (false = true) by decide)] at H; exact H
         clear H
         have H := H1
         clear H1
         exact absurd H (by simp)
       ·replace c54 := Bool.eq_false_iff.mpr c54
        subst c54
        have H1 : (none) = some r := by rw [if_neg (show ¬ (false = true) by decide)] at H; exact H
        clear H
        have H := H1
        clear H1
        exact absurd H (by simp)
      ·rw [if_neg c52] at H
       exact absurd H (by simp)
     case rest =>
      clear HC32
      try clear c1
      try clear c2
      try clear p2
      try clear c3
      try clear c4
      try clear c5
      try clear c6
      try clear c8
      try clear c11
      try clear c16
      try clear c16b0
      try clear c16b1
      try clear c16b2
      try clear c17
      try clear c17b0
      try clear c17b1
      try clear c19
      try clear c24
      try clear c25
      try clear c28
      try clear c30
      try clear c30b0
      try clear c30b1
      try clear c33
      try clear c38
      try clear c39
      try clear c46
      try clear c47
      try clear c48
      try clear c52
      try clear c52b0
      try clear c52b1
      try clear c54
      try clear c56
      try clear c58
      try clear c59
      try clear c60
      try clear c62
      try clear c63
      try clear hcz12_0
      try clear hcz12_1
      try clear hcz12_2
      try clear hcz20_0
      try clear hcz20_1
      try clear hcz20_2
      try clear hcz22_0
      try clear hcz22_1
      try clear hcz22_2
      try clear hcz23_0
      try clear hcz23_1
      try clear hcz23_2
      try clear hcz26_0
      try clear hcz26_1
      try clear hcz26_2
      try clear hcz34_0
      try clear hcz34_1
      try clear hcz34_2
      try clear hcz40_0
      try clear hcz40_1
      try clear hcz40_2
      try clear hcz49_0
      try clear hcz49_1
      try clear hcz49_2
      try clear hcz61_0
      try clear hcz61_1
      try clear hcz61_2
      try clear hcz64_0
      try clear hcz64_1
      try clear hcz64_2
      try clear hcz66_0
      try clear hcz66_1
      try clear hcz66_2
      try clear hcz7_0
      try clear hcz7_1
      try clear hcz7_2
      try clear hfz12_0
      try clear hfz12_1
      try clear hfz12_2
      try clear hfz20_0
      try clear hfz20_1
      try clear hfz20_2
      try clear hfz22_0
      try clear hfz22_1
      try clear hfz22_2
      try clear hfz23_0
      try clear hfz23_1
      try clear hfz23_2
      try clear hfz26_0
      try clear hfz26_1
      try clear hfz26_2
      try clear hfz34_0
      try clear hfz34_1
      try clear hfz34_2
      try clear hfz40_0
      try clear hfz40_1
      try clear hfz40_2
      try clear hfz49_0
      try clear hfz49_1
      try clear hfz49_2
      try clear hfz61_0
      try clear hfz61_1
      try clear hfz61_2
      try clear hfz64_0
      try clear hfz64_1
      try clear hfz64_2
      try clear hfz66_0
      try clear hfz66_1
      try clear hfz66_2
      try clear hfz7_0
      try clear hfz7_1
      try clear hfz7_2
      try clear p2
      obtain ⟨kq, x88_31, rfl, HA, HJ31, HO_582000, HO_582001, HO_582002, HO_595000, HO_595001, HO_595002, HO_608000, HO_608001, HO_608002, BK570, BK581, BK594, BK607, HB⟩ := hcut
      cases kq with
      | zero => exact absurd HA.out (by simp [examboardlaw24_MatrixSelects.j1])
      | succ kj31 =>
       have H := HA.out
       clear HA
       simp only [examboardlaw24_MatrixSelects.j1] at H
       by_cases c67 : x88_31 = true
       ·subst c67
        have H1 : (none) = some r := by rw [if_pos rfl] at H; exact H
        clear H
        have H := H1
        clear H1
        exact absurd H (by simp)
       ·replace c67 := Bool.eq_false_iff.mpr c67
        subst c67
        have H1 : (examboardlaw24_MatrixSelects.l0 kj31 l1 l2 (l2.length : Int) 0 t584 t587 t590) = some r := by rw [if_neg (show ¬ (false = true) by decide)] at H; exact H
        clear H
        have H := H1
        clear H1
        have H' := Am H
        clear H
        go_wp2
        go_loopg [91] kj31 (fun kq v91 w' => ∃ (x91_3 : Int), v91 = .int .i64 x91_3 ∧ Aside0 (examboardlaw24_MatrixSelects.l0 kq l1 l2 (l2.length : Int) x91_3 t584 t587 t590 = some r) ∧ Aside0 (kq ≤ kj31) ∧ Aside0 (Kd.R (Kd.int .i64) 3 w' w.heap.size (fun k_ => some k_ ≠ ((.slice Ao13 t574.length co13) : Value).ownBlock ∧ some k_ ≠ ((.slice Ao37 t584.length co37) : Value).ownBlock ∧ some k_ ≠ ((.slice Ao41 t587.length co41) : Value).ownBlock ∧ some k_ ≠ ((.slice Ao45 t597.length co45) : Value).ownBlock ∧ some k_ ≠ ((.slice Ao50 t600.length co50) : Value).ownBlock) (.slice Ao10 t571.length co10) t571) ∧ Aside0 (Kd.R (Kd.int .i64) 3 w' w.heap.size (fun k_ => some k_ ≠ ((.slice Ao10 t571.length co10) : Value).ownBlock ∧ some k_ ≠ ((.slice Ao37 t584.length co37) : Value).ownBlock ∧ some k_ ≠ ((.slice Ao41 t587.length co41) : Value).ownBlock ∧ some k_ ≠ ((.slice Ao45 t597.length co45) : Value).ownBlock ∧ some k_ ≠ ((.slice Ao50 t600.length co50) : Value).ownBlock) (.slice Ao13 t574.length co13) t574) ∧ Aside0 (Kd.S (Kd.slice 3 (Kd.int .i64)) 36 w' w.heap.size (fun k_ => some k_ ≠ ((.slice Ao10 t571.length co10) : Value).ownBlock ∧ some k_ ≠ ((.slice Ao13 t574.length co13) : Value).ownBlock ∧ some k_ ≠ ((.slice Ao37 t584.length co37) : Value).ownBlock ∧ some k_ ≠ ((.slice Ao41 t587.length co41) : Value).ownBlock ∧ some k_ ≠ ((.slice Ao42 t590.length co42) : Value).ownBlock ∧ some k_ ≠ ((.slice Ao45 t597.length co45) : Value).ownBlock ∧ some k_ ≠ ((.slice Ao50 t600.length co50) : Value).ownBlock ∧ some k_ ≠ ((.slice Ao51 t603.length co51) : Value).ownBlock) (.slice Ao14 t577.length co14) t577) ∧ Aside0 (Kd.R (Kd.int .i64) 3 w' w.heap.size (fun k_ => some k_ ≠ ((.slice Ao10 t571.length co10) : Value).ownBlock ∧ some k_ ≠ ((.slice Ao13 t574.length co13) : Value).ownBlock ∧ some k_ ≠ ((.slice Ao41 t587.length co41) : Value).ownBlock ∧ some k_ ≠ ((.slice Ao45 t597.length co45) : Value).ownBlock ∧ some k_ ≠ ((.slice Ao50 t600.length co50) : Value).ownBlock) (.slice Ao37 t584.length co37) t584) ∧ Aside0 (Kd.R (Kd.int .i64) 3 w' w.heap.size (fun k_ => some k_ ≠ ((.slice Ao10 t571.length co10) : Value).ownBlock ∧ some k_ ≠ ((.slice Ao13 t574.length co13) : Value).ownBlock ∧ some k_ ≠ ((.slice Ao37 t584.length co37) : Value).ownBlock ∧ some k_ ≠ ((.slice Ao45 t597.length co45) : Value).ownBlock ∧ some k_ ≠ ((.slice Ao50 t600.length co50) : Value).ownBlock) (.slice Ao41 t587.length co41) t587) ∧ Aside0 (Kd.S (Kd.slice 3 (Kd.int .i64)) 36 w' w.heap.size (fun k_ => some k_ ≠ ((.slice Ao10 t571.length co10) : Value).ownBlock ∧ some k_ ≠ ((.slice Ao13 t574.length co13) : Value).ownBlock ∧ some k_ ≠ ((.slice Ao14 t577.length co14) : Value).ownBlock ∧ some k_ ≠ ((.slice Ao37 t584.length co37) : Value).ownBlock ∧ some k_ ≠ ((.slice Ao41 t587.length co41) : Value).ownBlock ∧ some k_ ≠ ((.slice Ao45 t597.length co45) : Value).ownBlock ∧ some k_ ≠ ((.slice Ao50 t600.length co50) : Value).ownBlock ∧ some k_ ≠ ((.slice Ao51 t603.length co51) : Value).ownBlock) (.slice Ao42 t590.length co42) t590) ∧ Aside0 (Kd.R (Kd.int .i64) 3 w' w.heap.size (fun k_ => some k_ ≠ ((.slice Ao10 t571.length co10) : Value).ownBlock ∧ some k_ ≠ ((.slice Ao13 t574.length co13) : Value).ownBlock ∧ some k_ ≠ ((.slice Ao37 t584.length co37) : Value).ownBlock ∧ some k_ ≠ ((.slice Ao41 t587.length co41) : Value).ownBlock ∧ some k_ ≠ ((.slice Ao50 t600.length co50) : Value).ownBlock) (.slice Ao45 t597.length co45) t597) ∧ Aside0 (Kd.R (Kd.int .i64) 3 w' w.heap.size (fun k_ => some k_ ≠ ((.slice Ao10 t571.length co10) : Value).ownBlock ∧ some k_ ≠ ((.slice Ao13 t574.length co13) : Value).ownBlock ∧ some k_ ≠ ((.slice Ao37 t584.length co37) : Value).ownBlock ∧ some k_ ≠ ((.slice Ao41 t587.length co41) : Value).ownBlock ∧ some k_ ≠ ((.slice Ao45 t597.length co45) : Value).ownBlock) (.slice Ao50 t600.length co50) t600) ∧ Aside0 (Kd.S (Kd.slice 3 (Kd.int .i64)) 36 w' w.heap.size (fun k_ => some k_ ≠ ((.slice Ao10 t571.length co10) : Value).ownBlock ∧ some k_ ≠ ((.slice Ao13 t574.length co13) : Value).ownBlock ∧ some k_ ≠ ((.slice Ao14 t577.length co14) : Value).ownBlock ∧ some k_ ≠ ((.slice Ao37 t584.length co37) : Value).ownBlock ∧ some k_ ≠ ((.slice Ao41 t587.length co41) : Value).ownBlock ∧ some k_ ≠ ((.slice Ao42 t590.length co42) : Value).ownBlock ∧ some k_ ≠ ((.slice Ao45 t597.length co45) : Value).ownBlock ∧ some k_ ≠ ((.slice Ao50 t600.length co50) : Value).ownBlock) (.slice Ao51 t603.length co51) t603) ∧ Aside0 (w'.heap[gb570]? = some (.cells #[(.slice A0_0 l0_0.length c0_0), (.slice A0_1 l0_1.length c0_1), (.slice A0_2 l0_2.length c0_2)] 39 (0, 0))) ∧ Aside0 (w'.heap[gb581]? = some (.cells #[(.slice Ao10 t571.length co10), (.slice Ao13 t574.length co13), (.slice Ao14 t577.length co14)] 39 (0, 0))) ∧ Aside0 (w'.heap[gb594]? = some (.cells #[(.slice Ao37 t584.length co37), (.slice Ao41 t587.length co41), (.slice Ao42 t590.length co42)] 39 (0, 0))) ∧ Aside0 (w'.heap[gb607]? = some (.cells #[(.slice Ao45 t597.length co45), (.slice Ao50 t600.length co50), (.slice Ao51 t603.length co51)] 39 (0, 0))) ∧ Aside0 (Below w.heap.size w w'))
        case atStart => exact ⟨(0), (by first | rfl | (simp; done) | (simp [*]; done)), H', ⟨Nat.le_refl _⟩, ⟨Rl HO_582000⟩, ⟨Rl HO_582001⟩, ⟨Sl HO_582002⟩, ⟨Rl HO_595000⟩, ⟨Rl HO_595001⟩, ⟨Sl HO_595002⟩, ⟨Rl HO_608000⟩, ⟨Rl HO_608001⟩, ⟨Sl HO_608002⟩, ⟨Kl BK570⟩, ⟨Kl BK581⟩, ⟨Kl BK594⟩, ⟨Kl BK607⟩, ⟨by repeat first | exact Bl HB | refine Bp (below_set ?_ GE570.out) | refine Bp (below_set ?_ GE581.out) | refine Bp (below_set ?_ GE594.out) | refine Bp (below_set ?_ GE607.out)⟩⟩
        case round =>
         clear H'
         try clear c1
         try clear c2
         try clear p2
         try clear c3
         try clear c4
         try clear c5
         try clear c6
         try clear c8
         try clear c11
         try clear c16
         try clear c16b0
         try clear c16b1
         try clear c16b2
         try clear c17
         try clear c17b0
         try clear c17b1
         try clear c19
         try clear c24
         try clear c25
         try clear c28
         try clear c30
         try clear c30b0
         try clear c30b1
         try clear c33
         try clear c38
         try clear c39
         try clear c46
         try clear c47
         try clear c48
         try clear c52
         try clear c52b0
         try clear c52b1
         try clear c54
         try clear c56
         try clear c58
         try clear c59
         try clear c60
         try clear c62
         try clear c63
         try clear c67
         try clear hcz12_0
         try clear hcz12_1
         try clear hcz12_2
         try clear hcz20_0
         try clear hcz20_1
         try clear hcz20_2
         try clear hcz22_0
         try clear hcz22_1
         try clear hcz22_2
         try clear hcz23_0
         try clear hcz23_1
         try clear hcz23_2
         try clear hcz26_0
         try clear hcz26_1
         try clear hcz26_2
         try clear hcz34_0
         try clear hcz34_1
         try clear hcz34_2
         try clear hcz40_0
         try clear hcz40_1
         try clear hcz40_2
         try clear hcz49_0
         try clear hcz49_1
         try clear hcz49_2
         try clear hcz61_0
         try clear hcz61_1
         try clear hcz61_2
         try clear hcz64_0
         try clear hcz64_1
         try clear hcz64_2
         try clear hcz66_0
         try clear hcz66_1
         try clear hcz66_2
         try clear hcz7_0
         try clear hcz7_1
         try clear hcz7_2
         try clear hfz12_0
         try clear hfz12_1
         try clear hfz12_2
         try clear hfz20_0
         try clear hfz20_1
         try clear hfz20_2
         try clear hfz22_0
         try clear hfz22_1
         try clear hfz22_2
         try clear hfz23_0
         try clear hfz23_1
         try clear hfz23_2
         try clear hfz26_0
         try clear hfz26_1
         try clear hfz26_2
         try clear hfz34_0
         try clear hfz34_1
         try clear hfz34_2
         try clear hfz40_0
         try clear hfz40_1
         try clear hfz40_2
         try clear hfz49_0
         try clear hfz49_1
         try clear hfz49_2
         try clear hfz61_0
         try clear hfz61_1
         try clear hfz61_2
         try clear hfz64_0
         try clear hfz64_1
         try clear hfz64_2
         try clear hfz66_0
         try clear hfz66_1
         try clear hfz66_2
         try clear hfz7_0
         try clear hfz7_1
         try clear hfz7_2
         try clear p2
         obtain ⟨x91_3, rfl, HA, HK3, HO_582000, HO_582001, HO_582002, HO_595000, HO_595001, HO_595002, HO_608000, HO_608001, HO_608002, BK570, BK581, BK594, BK607, HB⟩ := hrel
         cases gk with
         | zero => exact absurd HA.out (by simp [examboardlaw24_MatrixSelects.l0])
         | succ k3 =>
          have H := HA.out
          clear HA
          simp only [examboardlaw24_MatrixSelects.l0] at H
          by_cases c68 : x91_3 < (l2.length : Int)
          ·rw [if_pos c68] at H
           have c68b0 : decide (x91_3 < (l2.length : Int)) = true := decide_eq_true c68
           clear c68
           by_cases c69 : 0 ≤ x91_3
           ·rw [if_pos c69] at H
            have c69b0 : decide (0 ≤ x91_3) = true := decide_eq_true c69
            clear c69
            by_cases c70 : x91_3 < (l2.length : Int)
            ·rw [if_pos c70] at H
             have c70b0 : decide (x91_3 < (l2.length : Int)) = true := decide_eq_true c70
             clear c70
             replace H := Option.bind_eq_some_iff.mp H
             obtain ⟨⟨t613, t616⟩, A710, H⟩ := H
             replace H : (if t616 = true then (examboardlaw24_MatrixSelects.j3 k3 l1 (rd l2 x91_3) t613 l2 (l2.length : Int) x91_3 ((t613.length : Int) != (l1.length : Int)) t584 t587 t590) else (none)) = some r := H
             have A71 := Am A710
             clear A710
             have HC72 := Am H
             clear H
             have p612 : 0 ≤ (x91_3 : Int) := of_decide_eq_true (by first | (with_reducible assumption) | assumption)
             have q612 : x91_3 < (l2.length : Int) := of_decide_eq_true (by first | (with_reducible assumption) | assumption)
             obtain ⟨ad612, e612, hx612_0⟩ := Kd.at_int HR2.out x91_3 p612 q612
             cases e612
             replace hx612_0 := (HB.out.cell (World.block_lt_of_cell? w _ hx612_0)).trans hx612_0
             replace p612 := eq_true p612
             replace q612 := eq_true q612
             have hnb73 := NB594_570.out
             have hnc73 := NB570_594.out
             have hnb74 := NB594_581.out
             have hnc74 := NB581_594.out
             have hnb75 := NB594_607.out
             have hnc75 := NB607_594.out
             have hcz76_0 : wr.cell? ⟨gb594, 0, none⟩ = some (.slice Ao37 t584.length co37) := (blk_cell BK594.out 0).trans rfl
             have hcz76_1 : wr.cell? ⟨gb594, 1, none⟩ = some (.slice Ao41 t587.length co41) := (blk_cell BK594.out 1).trans rfl
             have hcz76_2 : wr.cell? ⟨gb594, 2, none⟩ = some (.slice Ao42 t590.length co42) := (blk_cell BK594.out 2).trans rfl
             have hfz76_0 := blk_frozen BK594.out 0
             have hfz76_1 := blk_frozen BK594.out 1
             have hfz76_2 := blk_frozen BK594.out 2
             go_upto_region 14 with (first | ((with_reducible refine gate_callee (f := 25) rfl ?_); refine goesL_ (some 99) rfl rfl Try.func25 (by kernel_rfl) rfl #[.agg #[.slice Ao37 t584.length co37, .slice Ao41 t587.length co41, .slice Ao42 t590.length co42], .int .i64 x91_3] rfl (by (try simp only [List.map_toArray, List.map_cons, List.map_nil]); first | done | rfl | (simp only [List.length_drop, List.length_take]; rfl)) ?_; (with_reducible refine (matrix_Column.calls k3 _ _ t584 _ _ t587 _ _ t590 x91_3 t613 t616 _ ?side1 ?side2 ?side3 ?side4 ?side5 ?side6 A71.out).mono ?_); (case side1 => exact Cm (Kd.R_reads' HO_595000.out).2.2); (case side2 => exact (Kd.R_reads' HO_595000.out).2.1); (case side3 => exact Cm (Kd.R_reads' HO_595001.out).2.2); (case side4 => exact (Kd.R_reads' HO_595001.out).2.1); (case side5 => repeat (first | exact (Kd.S_reads' HO_595002.out).2.2 | (with_reducible refine Kd.C_alloc ?_ _) | (with_reducible refine Kd.C_drewN ?_ _) | (with_reducible refine Kd.C_drew ?_))); (case side6 => exact (Kd.S_reads' HO_595002.out).2.1); rintro e w77 ⟨v614, rfl, ho0, hb⟩; refine ⟨_, rfl, ?_⟩; have n0_ := Am (Kd.R_elder' (Rl HO_582000) (Kd.R_base ho0) hb); have n1_ := Am (Kd.R_elder' (Rl HO_582001) (Kd.R_base ho0) hb); have n2_ := Am (Kd.S_elder' (Sl HO_582002) (Kd.R_base ho0) hb); have n3_ := Am (Kd.R_elder' (Rl HO_595000) (Kd.R_base ho0) hb); have n4_ := Am (Kd.R_elder' (Rl HO_595001) (Kd.R_base ho0) hb); have n5_ := Am (Kd.S_elder' (Sl HO_595002) (Kd.R_base ho0) hb); have n6_ := Am (Kd.R_elder' (Rl HO_608000) (Kd.R_base ho0) hb); have n7_ := Am (Kd.R_elder' (Rl HO_608001) (Kd.R_base ho0) hb); have n8_ := Am (Kd.S_elder' (Sl HO_608002) (Kd.R_base ho0) hb); have n9_ := Am (Kd.R_lower (Kd.R_new' (Kd.R_new' (Kd.R_new' (Kd.R_new' (Kd.R_new' (Kd.R_new' ho0 (Rb HO_582000)) (Rb HO_582001)) (Rb HO_595000)) (Rb HO_595001)) (Rb HO_608000)) (Rb HO_608001)) (below_size (by repeat first | exact Bl HB | refine Bp (below_set ?_ GE570.out) | refine Bp (below_set ?_ GE581.out) | refine Bp (below_set ?_ GE594.out) | refine Bp (below_set ?_ GE607.out)))); have n10_ := Am (blk_below (Kl BK570) hb); have n11_ := Am (blk_below (Kl BK581) hb); have n12_ := Am (blk_below (Kl BK594) hb); have n13_ := Am (blk_below (Kl BK607) hb); have n14_ := Am (below_step (by repeat first | exact Bl HB | refine Bp (below_set ?_ GE570.out) | refine Bp (below_set ?_ GE581.out) | refine Bp (below_set ?_ GE594.out) | refine Bp (below_set ?_ GE607.out)) hb); clear HO_582000 HO_582001 HO_582002 HO_595000 HO_595001 HO_595002 HO_608000 HO_608001 HO_608002 BK570 BK581 BK594 BK607 HB; have HO_582000 := n0_; have HO_582001 := n1_; have HO_582002 := n2_; have HO_595000 := n3_; have HO_595001 := n4_; have HO_595002 := n5_; have HO_608000 := n6_; have HO_608001 := n7_; have HO_608002 := n8_; have HO615 := n9_; have BK570 := n10_; have BK581 := n11_; have BK594 := n12_; have BK607 := n13_; have HB := n14_; clear n0_ n1_ n2_ n3_ n4_ n5_ n6_ n7_ n8_ n9_ n10_ n11_ n12_ n13_ n14_; (try clear hb); (try clear hb2); (try clear hk); (try clear hi); (try clear ho0)))
             (try simp only [Act.put, List.setIfInBounds_toArray, List.set_cons_zero, List.set_cons_succ])
             go_cut [110] (fun v110 wc => ∃ (kq : Nat) (x110_71 : Bool), v110 = .bool x110_71 ∧ Aside0 (examboardlaw24_MatrixSelects.j3 kq l1 (rd l2 x91_3) t613 l2 (l2.length : Int) x91_3 x110_71 t584 t587 t590 = some r) ∧ Aside0 (kq ≤ k3) ∧ Aside0 (Kd.R (Kd.int .i64) 3 wc w.heap.size (fun k_ => some k_ ≠ ((.slice Ao10 t571.length co10) : Value).ownBlock ∧ some k_ ≠ ((.slice Ao13 t574.length co13) : Value).ownBlock ∧ some k_ ≠ ((.slice Ao37 t584.length co37) : Value).ownBlock ∧ some k_ ≠ ((.slice Ao41 t587.length co41) : Value).ownBlock ∧ some k_ ≠ ((.slice Ao45 t597.length co45) : Value).ownBlock ∧ some k_ ≠ ((.slice Ao50 t600.length co50) : Value).ownBlock) v614 t613) ∧ Aside0 (Kd.R (Kd.int .i64) 3 wc w.heap.size (fun k_ => some k_ ≠ (v614 : Value).ownBlock ∧ some k_ ≠ ((.slice Ao13 t574.length co13) : Value).ownBlock ∧ some k_ ≠ ((.slice Ao37 t584.length co37) : Value).ownBlock ∧ some k_ ≠ ((.slice Ao41 t587.length co41) : Value).ownBlock ∧ some k_ ≠ ((.slice Ao45 t597.length co45) : Value).ownBlock ∧ some k_ ≠ ((.slice Ao50 t600.length co50) : Value).ownBlock) (.slice Ao10 t571.length co10) t571) ∧ Aside0 (Kd.R (Kd.int .i64) 3 wc w.heap.size (fun k_ => some k_ ≠ (v614 : Value).ownBlock ∧ some k_ ≠ ((.slice Ao10 t571.length co10) : Value).ownBlock ∧ some k_ ≠ ((.slice Ao37 t584.length co37) : Value).ownBlock ∧ some k_ ≠ ((.slice Ao41 t587.length co41) : Value).ownBlock ∧ some k_ ≠ ((.slice Ao45 t597.length co45) : Value).ownBlock ∧ some k_ ≠ ((.slice Ao50 t600.length co50) : Value).ownBlock) (.slice Ao13 t574.length co13) t574) ∧ Aside0 (Kd.S (Kd.slice 3 (Kd.int .i64)) 36 wc w.heap.size (fun k_ => some k_ ≠ (v614 : Value).ownBlock ∧ some k_ ≠ ((.slice Ao10 t571.length co10) : Value).ownBlock ∧ some k_ ≠ ((.slice Ao13 t574.length co13) : Value).ownBlock ∧ some k_ ≠ ((.slice Ao37 t584.length co37) : Value).ownBlock ∧ some k_ ≠ ((.slice Ao41 t587.length co41) : Value).ownBlock ∧ some k_ ≠ ((.slice Ao42 t590.length co42) : Value).ownBlock ∧ some k_ ≠ ((.slice Ao45 t597.length co45) : Value).ownBlock ∧ some k_ ≠ ((.slice Ao50 t600.length co50) : Value).ownBlock ∧ some k_ ≠ ((.slice Ao51 t603.length co51) : Value).ownBlock) (.slice Ao14 t577.length co14) t577) ∧ Aside0 (Kd.R (Kd.int .i64) 3 wc w.heap.size (fun k_ => some k_ ≠ (v614 : Value).ownBlock ∧ some k_ ≠ ((.slice Ao10 t571.length co10) : Value).ownBlock ∧ some k_ ≠ ((.slice Ao13 t574.length co13) : Value).ownBlock ∧ some k_ ≠ ((.slice Ao41 t587.length co41) : Value).ownBlock ∧ some k_ ≠ ((.slice Ao45 t597.length co45) : Value).ownBlock ∧ some k_ ≠ ((.slice Ao50 t600.length co50) : Value).ownBlock) (.slice Ao37 t584.length co37) t584) ∧ Aside0 (Kd.R (Kd.int .i64) 3 wc w.heap.size (fun k_ => some k_ ≠ (v614 : Value).ownBlock ∧ some k_ ≠ ((.slice Ao10 t571.length co10) : Value).ownBlock ∧ some k_ ≠ ((.slice Ao13 t574.length co13) : Value).ownBlock ∧ some k_ ≠ ((.slice Ao37 t584.length co37) : Value).ownBlock ∧ some k_ ≠ ((.slice Ao45 t597.length co45) : Value).ownBlock ∧ some k_ ≠ ((.slice Ao50 t600.length co50) : Value).ownBlock) (.slice Ao41 t587.length co41) t587) ∧ Aside0 (Kd.S (Kd.slice 3 (Kd.int .i64)) 36 wc w.heap.size (fun k_ => some k_ ≠ (v614 : Value).ownBlock ∧ some k_ ≠ ((.slice Ao10 t571.length co10) : Value).ownBlock ∧ some k_ ≠ ((.slice Ao13 t574.length co13) : Value).ownBlock ∧ some k_ ≠ ((.slice Ao14 t577.length co14) : Value).ownBlock ∧ some k_ ≠ ((.slice Ao37 t584.length co37) : Value).ownBlock ∧ some k_ ≠ ((.slice Ao41 t587.length co41) : Value).ownBlock ∧ some k_ ≠ ((.slice Ao45 t597.length co45) : Value).ownBlock ∧ some k_ ≠ ((.slice Ao50 t600.length co50) : Value).ownBlock ∧ some k_ ≠ ((.slice Ao51 t603.length co51) : Value).ownBlock) (.slice Ao42 t590.length co42) t590) ∧ Aside0 (Kd.R (Kd.int .i64) 3 wc w.heap.size (fun k_ => some k_ ≠ (v614 : Value).ownBlock ∧ some k_ ≠ ((.slice Ao10 t571.length co10) : Value).ownBlock ∧ some k_ ≠ ((.slice Ao13 t574.length co13) : Value).ownBlock ∧ some k_ ≠ ((.slice Ao37 t584.length co37) : Value).ownBlock ∧ some k_ ≠ ((.slice Ao41 t587.length co41) : Value).ownBlock ∧ some k_ ≠ ((.slice Ao50 t600.length co50) : Value).ownBlock) (.slice Ao45 t597.length co45) t597) ∧ Aside0 (Kd.R (Kd.int .i64) 3 wc w.heap.size (fun k_ => some k_ ≠ (v614 : Value).ownBlock ∧ some k_ ≠ ((.slice Ao10 t571.length co10) : Value).ownBlock ∧ some k_ ≠ ((.slice Ao13 t574.length co13) : Value).ownBlock ∧ some k_ ≠ ((.slice Ao37 t584.length co37) : Value).ownBlock ∧ some k_ ≠ ((.slice Ao41 t587.length co41) : Value).ownBlock ∧ some k_ ≠ ((.slice Ao45 t597.length co45) : Value).ownBlock) (.slice Ao50 t600.length co50) t600) ∧ Aside0 (Kd.S (Kd.slice 3 (Kd.int .i64)) 36 wc w.heap.size (fun k_ => some k_ ≠ (v614 : Value).ownBlock ∧ some k_ ≠ ((.slice Ao10 t571.length co10) : Value).ownBlock ∧ some k_ ≠ ((.slice Ao13 t574.length co13) : Value).ownBlock ∧ some k_ ≠ ((.slice Ao14 t577.length co14) : Value).ownBlock ∧ some k_ ≠ ((.slice Ao37 t584.length co37) : Value).ownBlock ∧ some k_ ≠ ((.slice Ao41 t587.length co41) : Value).ownBlock ∧ some k_ ≠ ((.slice Ao42 t590.length co42) : Value).ownBlock ∧ some k_ ≠ ((.slice Ao45 t597.length co45) : Value).ownBlock ∧ some k_ ≠ ((.slice Ao50 t600.length co50) : Value).ownBlock) (.slice Ao51 t603.length co51) t603) ∧ Aside0 (wc.heap[gb570]? = some (.cells #[(.slice A0_0 l0_0.length c0_0), (.slice A0_1 l0_1.length c0_1), (.slice A0_2 l0_2.length c0_2)] 39 (0, 0))) ∧ Aside0 (wc.heap[gb581]? = some (.cells #[(.slice Ao10 t571.length co10), (.slice Ao13 t574.length co13), (.slice Ao14 t577.length co14)] 39 (0, 0))) ∧ Aside0 (wc.heap[gb594]? = some (.cells #[(.slice Ao37 t584.length co37), (.slice Ao41 t587.length co41), (.slice Ao42 t590.length co42)] 39 (0, 0))) ∧ Aside0 (wc.heap[gb607]? = some (.cells #[(.slice Ao45 t597.length co45), (.slice Ao50 t600.length co50), (.slice Ao51 t603.length co51)] 39 (0, 0))) ∧ Aside0 (Below w.heap.size w wc))
             case first =>
              have H := HC72.out
              clear HC72
              by_cases c78 : t616 = true
              ·subst c78
               have H1 : (examboardlaw24_MatrixSelects.j3 k3 l1 (rd l2 x91_3) t613 l2 (l2.length : Int) x91_3 ((t613.length : Int) != (l1.length : Int)) t584 t587 t590) = some r := by rw [if_pos rfl] at H; exact H
               clear H
               have H := H1
               clear H1
               have H' := Am H
               clear H
               obtain ⟨Ao79, co79, eo79⟩ := Kd.R_slice HO615.out
               subst eo79
               go_wp2
               go_meet
               case rel => exact ⟨_, (((t613.length : Int) != (l1.length : Int))), (by first | rfl | (simp; done) | (simp [*]; done)), H', ⟨by have := HJ4.out; have := HJ31.out; have := HK3.out; first | omega | exact Nat.le_refl _⟩, ⟨Rm (Kd.R_mono HO615.out (fun _ hk => ⟨hk.1.1.1.1.1.2, ⟨hk.1.1.1.1.2, ⟨hk.1.1.1.2, ⟨hk.1.1.2, ⟨hk.1.2, hk.2⟩⟩⟩⟩⟩))⟩, ⟨Rm (Kd.R_mono HO_582000.out (fun _ hk => ⟨hk.2, ⟨hk.1.1, ⟨hk.1.2.1, ⟨hk.1.2.2.1, ⟨hk.1.2.2.2.1, hk.1.2.2.2.2⟩⟩⟩⟩⟩))⟩, ⟨Rm (Kd.R_mono HO_582001.out (fun _ hk => ⟨hk.2, ⟨hk.1.1, ⟨hk.1.2.1, ⟨hk.1.2.2.1, ⟨hk.1.2.2.2.1, hk.1.2.2.2.2⟩⟩⟩⟩⟩))⟩, ⟨Sm (Kd.S_mono HO_582002.out (fun _ hk => ⟨hk.2, ⟨hk.1.1, ⟨hk.1.2.1, ⟨hk.1.2.2.1, ⟨hk.1.2.2.2.1, ⟨hk.1.2.2.2.2.1, ⟨hk.1.2.2.2.2.2.1, ⟨hk.1.2.2.2.2.2.2.1, hk.1.2.2.2.2.2.2.2⟩⟩⟩⟩⟩⟩⟩⟩))⟩, ⟨Rm (Kd.R_mono HO_595000.out (fun _ hk => ⟨hk.2, ⟨hk.1.1, ⟨hk.1.2.1, ⟨hk.1.2.2.1, ⟨hk.1.2.2.2.1, hk.1.2.2.2.2⟩⟩⟩⟩⟩))⟩, ⟨Rm (Kd.R_mono HO_595001.out (fun _ hk => ⟨hk.2, ⟨hk.1.1, ⟨hk.1.2.1, ⟨hk.1.2.2.1, ⟨hk.1.2.2.2.1, hk.1.2.2.2.2⟩⟩⟩⟩⟩))⟩, ⟨Sm (Kd.S_mono HO_595002.out (fun _ hk => ⟨hk.2, ⟨hk.1.1, ⟨hk.1.2.1, ⟨hk.1.2.2.1, ⟨hk.1.2.2.2.1, ⟨hk.1.2.2.2.2.1, ⟨hk.1.2.2.2.2.2.1, ⟨hk.1.2.2.2.2.2.2.1, hk.1.2.2.2.2.2.2.2⟩⟩⟩⟩⟩⟩⟩⟩))⟩, ⟨Rm (Kd.R_mono HO_608000.out (fun _ hk => ⟨hk.2, ⟨hk.1.1, ⟨hk.1.2.1, ⟨hk.1.2.2.1, ⟨hk.1.2.2.2.1, hk.1.2.2.2.2⟩⟩⟩⟩⟩))⟩, ⟨Rm (Kd.R_mono HO_608001.out (fun _ hk => ⟨hk.2, ⟨hk.1.1, ⟨hk.1.2.1, ⟨hk.1.2.2.1, ⟨hk.1.2.2.2.1, hk.1.2.2.2.2⟩⟩⟩⟩⟩))⟩, ⟨Sm (Kd.S_mono HO_608002.out (fun _ hk => ⟨hk.2, ⟨hk.1.1, ⟨hk.1.2.1, ⟨hk.1.2.2.1, ⟨hk.1.2.2.2.1, ⟨hk.1.2.2.2.2.1, ⟨hk.1.2.2.2.2.2.1, ⟨hk.1.2.2.2.2.2.2.1, hk.1.2.2.2.2.2.2.2⟩⟩⟩⟩⟩⟩⟩⟩))⟩, ⟨Kl BK570⟩, ⟨Kl BK581⟩, ⟨Kl BK594⟩, ⟨Kl BK607⟩, ⟨by repeat first | exact Bl HB | refine Bp (below_set ?_ GE570.out) | refine Bp (below_set ?_ GE581.out) | refine Bp (below_set ?_ GE594.out) | refine Bp (below_set ?_ GE607.out)⟩⟩
              ·replace c78 := Bool.eq_false_iff.mpr c78
               subst c78
               have H1 : (none) = some r := by rw [if_neg (show ¬ (false = true) by decide)] at H; exact H
               clear H
               have H := H1
               clear H1
               exact absurd H (by simp)
             case rest =>
              clear HC72
              try clear c1
              try clear c2
              try clear p2
              try clear c3
              try clear c4
              try clear c5
              try clear c6
              try clear p6
              try clear q6
              try clear hx6
              try clear c7
              try clear c8
              try clear c11
              try clear c16
              try clear c16b0
              try clear c16b1
              try clear c16b2
              try clear c17
              try clear c17b0
              try clear c17b1
              try clear c19
              try clear c24
              try clear c25
              try clear c28
              try clear c30
              try clear c30b0
              try clear c30b1
              try clear c33
              try clear c38
              try clear c39
              try clear c46
              try clear c47
              try clear c48
              try clear c52
              try clear c52b0
              try clear c52b1
              try clear c54
              try clear c56
              try clear c58
              try clear c59
              try clear c60
              try clear p61
              try clear q61
              try clear hx61
              try clear c62
              try clear c63
              try clear c67
              try clear c68
              try clear c68b0
              try clear c69
              try clear c69b0
              try clear c70
              try clear c70b0
              try clear c73
              try clear c74
              try clear c75
              try clear c78
              try clear hcz12_0
              try clear hcz12_1
              try clear hcz12_2
              try clear hcz20_0
              try clear hcz20_1
              try clear hcz20_2
              try clear hcz22_0
              try clear hcz22_1
              try clear hcz22_2
              try clear hcz23_0
              try clear hcz23_1
              try clear hcz23_2
              try clear hcz26_0
              try clear hcz26_1
              try clear hcz26_2
              try clear hcz34_0
              try clear hcz34_1
              try clear hcz34_2
              try clear hcz40_0
              try clear hcz40_1
              try clear hcz40_2
              try clear hcz49_0
              try clear hcz49_1
              try clear hcz49_2
              try clear hcz61_0
              try clear hcz61_1
              try clear hcz61_2
              try clear hcz64_0
              try clear hcz64_1
              try clear hcz64_2
              try clear hcz66_0
              try clear hcz66_1
              try clear hcz66_2
              try clear hcz76_0
              try clear hcz76_1
              try clear hcz76_2
              try clear hcz7_0
              try clear hcz7_1
              try clear hcz7_2
              try clear hfz12_0
              try clear hfz12_1
              try clear hfz12_2
              try clear hfz20_0
              try clear hfz20_1
              try clear hfz20_2
              try clear hfz22_0
              try clear hfz22_1
              try clear hfz22_2
              try clear hfz23_0
              try clear hfz23_1
              try clear hfz23_2
              try clear hfz26_0
              try clear hfz26_1
              try clear hfz26_2
              try clear hfz34_0
              try clear hfz34_1
              try clear hfz34_2
              try clear hfz40_0
              try clear hfz40_1
              try clear hfz40_2
              try clear hfz49_0
              try clear hfz49_1
              try clear hfz49_2
              try clear hfz61_0
              try clear hfz61_1
              try clear hfz61_2
              try clear hfz64_0
              try clear hfz64_1
              try clear hfz64_2
              try clear hfz66_0
              try clear hfz66_1
              try clear hfz66_2
              try clear hfz76_0
              try clear hfz76_1
              try clear hfz76_2
              try clear hfz7_0
              try clear hfz7_1
              try clear hfz7_2
              try clear hx612_0
              try clear p2
              try clear p612
              try clear q612
              obtain ⟨kq, x110_71, rfl, HA, HJ71, HO_15, HO_582000, HO_582001, HO_582002, HO_595000, HO_595001, HO_595002, HO_608000, HO_608001, HO_608002, BK570, BK581, BK594, BK607, HB⟩ := hcut
              cases kq with
              | zero => exact absurd HA.out (by simp [examboardlaw24_MatrixSelects.j3])
              | succ kj71 =>
               have H := HA.out
               clear HA
               simp only [examboardlaw24_MatrixSelects.j3] at H
               by_cases c80 : x110_71 = true
               ·subst c80
                have H1 : (none) = some r := by rw [if_pos rfl] at H; exact H
                clear H
                have H := H1
                clear H1
                exact absurd H (by simp)
               ·replace c80 := Bool.eq_false_iff.mpr c80
                subst c80
                have H1 : ((matrix_Select.f kj71 t584 t587 t590 l1 (([(rd l2 x91_3)] : List Int))).bind fun bt620 => ((matrix_Column.f kj71 bt620.1 bt620.2.1 bt620.2.2.1 0).bind fun bt631 => (if bt620.2.2.2 = 0 then (if bt631.2 = true then ((examboardlaw24_equal.f kj71 t613 bt631.1).bind fun t635 => (if t635 = true then (examboardlaw24_MatrixSelects.l0 kj71 l1 l2 (l2.length : Int) (wrap64 (x91_3 + 1)) t584 t587 t590) else (none))) else (none)) else (none)))) = some r := by rw [if_neg (show ¬ (false = true) by decide)] at H; exact H
                clear H
                have H := H1
                clear H1
                obtain ⟨y617, hy617⟩ : ∃ y_ : List Int, y_ = (([(rd l2 x91_3)] : List Int)) := ⟨_, rfl⟩
                replace H : ((matrix_Select.f kj71 t584 t587 t590 l1 y617).bind fun bt620 => ((matrix_Column.f kj71 bt620.1 bt620.2.1 bt620.2.2.1 0).bind fun bt631 => (if bt620.2.2.2 = 0 then (if bt631.2 = true then ((examboardlaw24_equal.f kj71 t613 bt631.1).bind fun t635 => (if t635 = true then (examboardlaw24_MatrixSelects.l0 kj71 l1 l2 (l2.length : Int) (wrap64 (x91_3 + 1)) t584 t587 t590) else (none))) else (none)) else (none)))) = some r := by first | (rw [hy617]; with_reducible exact H) | (have H2_ := (Option.bind_some _ _).symm.trans H; rw [hy617]; with_reducible exact H2_) | (have H2_ := (Option.bind_some _ _).symm.trans H; with_reducible exact H2_) | with_reducible exact H | (rw [hy617]; exact H) | exact H
                have Ny617 := Am hy617
                clear hy617
                replace H := Option.bind_eq_some_iff.mp H
                obtain ⟨⟨t620, t623, t626, t629⟩, A810, H⟩ := H
                replace H : ((matrix_Column.f kj71 t620 t623 t626 0).bind fun bt631 => (if t629 = 0 then (if bt631.2 = true then ((examboardlaw24_equal.f kj71 t613 bt631.1).bind fun t635 => (if t635 = true then (examboardlaw24_MatrixSelects.l0 kj71 l1 l2 (l2.length : Int) (wrap64 (x91_3 + 1)) t584 t587 t590) else (none))) else (none)) else (none))) = some r := H
                have A81 := Am A810
                clear A810
                replace H := Option.bind_eq_some_iff.mp H
                obtain ⟨⟨t631, t634⟩, A820, H⟩ := H
                replace H : (if t629 = 0 then (if t634 = true then ((examboardlaw24_equal.f kj71 t613 t631).bind fun t635 => (if t635 = true then (examboardlaw24_MatrixSelects.l0 kj71 l1 l2 (l2.length : Int) (wrap64 (x91_3 + 1)) t584 t587 t590) else (none))) else (none)) else (none)) = some r := H
                have A82 := Am A820
                clear A820
                by_cases c83 : t629 = 0
                ·rw [if_pos c83] at H
                 have c83b0 : (t629 == 0) = true := beq_iff_eq.mpr c83
                 have c83b1 : (t629 != 0) = false := bne_eq_false_iff_eq.mpr c83
                 clear c83
                 by_cases c84 : t634 = true
                 ·subst c84
                  have H1 : ((examboardlaw24_equal.f kj71 t613 t631).bind fun t635 => (if t635 = true then (examboardlaw24_MatrixSelects.l0 kj71 l1 l2 (l2.length : Int) (wrap64 (x91_3 + 1)) t584 t587 t590) else (none))) = some r := by rw [if_pos rfl] at H; exact H
                  clear H
                  have H := H1
                  clear H1
                  replace H := Option.bind_eq_some_iff.mp H
                  obtain ⟨t635, A850, H⟩ := H
                  replace H : (if t635 = true then (examboardlaw24_MatrixSelects.l0 kj71 l1 l2 (l2.length : Int) (wrap64 (x91_3 + 1)) t584 t587 t590) else (none)) = some r := H
                  have A85 := Am A850
                  clear A850
                  by_cases c86 : t635 = true
                  ·subst c86
                   have H1 : (examboardlaw24_MatrixSelects.l0 kj71 l1 l2 (l2.length : Int) (wrap64 (x91_3 + 1)) t584 t587 t590) = some r := by rw [if_pos rfl] at H; exact H
                   clear H
                   have H := H1
                   clear H1
                   have H' := Am H
                   clear H
                   have hnb87 := NB594_570.out
                   have hnc87 := NB570_594.out
                   have hnb88 := NB594_581.out
                   have hnc88 := NB581_594.out
                   have hnb89 := NB594_607.out
                   have hnc89 := NB607_594.out
                   have hcz90_0 : wc.cell? ⟨gb594, 0, none⟩ = some (.slice Ao37 t584.length co37) := (blk_cell BK594.out 0).trans rfl
                   have hcz90_1 : wc.cell? ⟨gb594, 1, none⟩ = some (.slice Ao41 t587.length co41) := (blk_cell BK594.out 1).trans rfl
                   have hcz90_2 : wc.cell? ⟨gb594, 2, none⟩ = some (.slice Ao42 t590.length co42) := (blk_cell BK594.out 2).trans rfl
                   have hfz90_0 := blk_frozen BK594.out 0
                   have hfz90_1 := blk_frozen BK594.out 1
                   have hfz90_2 := blk_frozen BK594.out 2
                   go_wp2_with (first | ((with_reducible refine gate_dst (N := 115) rfl ?_); (try (refine gate_guard (by rfl) ?_; dsimp only)); refine Kd.R_lit (Kd.int .i64) _ 3 ?hg (N := 115) ?hd (xs := ([(rd l2 x91_3)] : List Int)) (inner := [.int .i64 (rd l2 x91_3)]) (ok := fun _ => True) (okp := fun _ => True) ?hr ?hp (fun _ hk => hk) trivial (Below.refl _ _) (Nat.le_refl _) (by simp) ?_; (case hd => rfl); (case hg => rfl); (case hr => first | (go_simp; done) | (go_simp; rfl)); (case hp => exact (Reps.one (show Kd.M (Kd.int .i64) _ _ _ (rd l2 x91_3) [.int .i64 (rd l2 x91_3)] from rfl) (Reps.none _ _))); intro v618 w91 ho92 hb hg_ hnew_; clear hg_ hnew_; (first | rw [← Ny617.out] at ho92 | (simp only [Int.reduceToNat] at ho92; rw [← Ny617.out] at ho92)); have n0_ := Am (Kd.R_elder' (Rl HO_15) (Kd.R_base ho92) hb); have n1_ := Am (Kd.R_elder' (Rl HO_582000) (Kd.R_base ho92) hb); have n2_ := Am (Kd.R_elder' (Rl HO_582001) (Kd.R_base ho92) hb); have n3_ := Am (Kd.S_elder' (Sl HO_582002) (Kd.R_base ho92) hb); have n4_ := Am (Kd.R_elder' (Rl HO_595000) (Kd.R_base ho92) hb); have n5_ := Am (Kd.R_elder' (Rl HO_595001) (Kd.R_base ho92) hb); have n6_ := Am (Kd.S_elder' (Sl HO_595002) (Kd.R_base ho92) hb); have n7_ := Am (Kd.R_elder' (Rl HO_608000) (Kd.R_base ho92) hb); have n8_ := Am (Kd.R_elder' (Rl HO_608001) (Kd.R_base ho92) hb); have n9_ := Am (Kd.S_elder' (Sl HO_608002) (Kd.R_base ho92) hb); have n10_ := Am (Kd.R_lower (Kd.R_new' (Kd.R_new' (Kd.R_new' (Kd.R_new' (Kd.R_new' (Kd.R_new' (Kd.R_new' ho92 (Rb HO_15)) (Rb HO_582000)) (Rb HO_582001)) (Rb HO_595000)) (Rb HO_595001)) (Rb HO_608000)) (Rb HO_608001)) (below_size (by repeat first | exact Bl HB | refine Bp (below_set ?_ GE570.out) | refine Bp (below_set ?_ GE581.out) | refine Bp (below_set ?_ GE594.out) | refine Bp (below_set ?_ GE607.out)))); have n11_ := Am (blk_below (Kl BK570) hb); have n12_ := Am (blk_below (Kl BK581) hb); have n13_ := Am (blk_below (Kl BK594) hb); have n14_ := Am (blk_below (Kl BK607) hb); have n15_ := Am (below_step (by repeat first | exact Bl HB | refine Bp (below_set ?_ GE570.out) | refine Bp (below_set ?_ GE581.out) | refine Bp (below_set ?_ GE594.out) | refine Bp (below_set ?_ GE607.out)) hb); clear HO_15 HO_582000 HO_582001 HO_582002 HO_595000 HO_595001 HO_595002 HO_608000 HO_608001 HO_608002 BK570 BK581 BK594 BK607 HB; have HO_15 := n0_; have HO_582000 := n1_; have HO_582001 := n2_; have HO_582002 := n3_; have HO_595000 := n4_; have HO_595001 := n5_; have HO_595002 := n6_; have HO_608000 := n7_; have HO_608001 := n8_; have HO_608002 := n9_; have HO619 := n10_; have BK570 := n11_; have BK581 := n12_; have BK594 := n13_; have BK607 := n14_; have HB := n15_; clear n0_ n1_ n2_ n3_ n4_ n5_ n6_ n7_ n8_ n9_ n10_ n11_ n12_ n13_ n14_ n15_; clear hb ho92; obtain ⟨Ao93, co93, eo93⟩ := Kd.R_slice HO619.out; subst eo93) | ((with_reducible refine gate_callee (f := 16) rfl ?_); refine goesL_ (some 116) rfl rfl Try.func16 (by kernel_rfl) rfl #[.agg #[.slice Ao37 t584.length co37, .slice Ao41 t587.length co41, .slice Ao42 t590.length co42], .slice A1 l1.length c1, .slice Ao93 y617.length co93] rfl (by (try simp only [List.map_toArray, List.map_cons, List.map_nil]); first | done | rfl | (simp only [List.length_drop, List.length_take]; rfl)) ?_; (with_reducible refine (matrix_Select.calls kj71 _ _ t584 _ _ t587 _ _ t590 _ _ l1 _ _ y617 t620 t623 t626 t629 _ ?side1 ?side2 ?side3 ?side4 ?side5 ?side6 ?side7 ?side8 ?side9 ?side10 A81.out).mono ?_); (case side1 => exact Cm (Kd.R_reads' HO_595000.out).2.2); (case side2 => exact (Kd.R_reads' HO_595000.out).2.1); (case side3 => exact Cm (Kd.R_reads' HO_595001.out).2.2); (case side4 => exact (Kd.R_reads' HO_595001.out).2.1); (case side5 => repeat (first | exact (Kd.S_reads' HO_595002.out).2.2 | (with_reducible refine Kd.C_alloc ?_ _) | (with_reducible refine Kd.C_drewN ?_ _) | (with_reducible refine Kd.C_drew ?_))); (case side6 => exact (Kd.S_reads' HO_595002.out).2.1); (case side7 => repeat (first | exact (Kd.C_below HR1.out HB.out) | (with_reducible refine Kd.C_alloc ?_ _) | (with_reducible refine Kd.C_drewN ?_ _) | (with_reducible refine Kd.C_drew ?_))); (case side8 => exact HC1.out); (case side9 => exact Cm (Kd.R_reads' HO619.out).2.2); (case side10 => exact (Kd.R_reads' HO619.out).2.1); rintro e w94 ⟨v621, v624, v627, rfl, ho0, ho1, ho2, hb⟩; refine ⟨_, rfl, ?_⟩; have n0_ := Am (Kd.R_mono (Kd.R_told (Kd.R_told (Kd.R_old (Rl HO_15) hb) (Kd.R_base ho0)) (Kd.R_base ho1)) (fun _ h_ => h_.1)); have n1_ := Am (Kd.R_mono (Kd.R_told (Kd.R_told (Kd.R_old (Rl HO_582000) hb) (Kd.R_base ho0)) (Kd.R_base ho1)) (fun _ h_ => h_.1)); have n2_ := Am (Kd.R_mono (Kd.R_told (Kd.R_told (Kd.R_old (Rl HO_582001) hb) (Kd.R_base ho0)) (Kd.R_base ho1)) (fun _ h_ => h_.1)); have n3_ := Am (Kd.S_mono (Kd.S_told (Kd.S_told (Kd.S_told (Kd.S_old (Sl HO_582002) hb) (Kd.R_base ho0)) (Kd.R_base ho1)) (Kd.S_base ho2)) (fun _ h_ => h_.1)); have n4_ := Am (Kd.R_mono (Kd.R_told (Kd.R_told (Kd.R_old (Rl HO_595000) hb) (Kd.R_base ho0)) (Kd.R_base ho1)) (fun _ h_ => h_.1)); have n5_ := Am (Kd.R_mono (Kd.R_told (Kd.R_told (Kd.R_old (Rl HO_595001) hb) (Kd.R_base ho0)) (Kd.R_base ho1)) (fun _ h_ => h_.1)); have n6_ := Am (Kd.S_mono (Kd.S_told (Kd.S_told (Kd.S_told (Kd.S_old (Sl HO_595002) hb) (Kd.R_base ho0)) (Kd.R_base ho1)) (Kd.S_base ho2)) (fun _ h_ => h_.1)); have n7_ := Am (Kd.R_mono (Kd.R_told (Kd.R_told (Kd.R_old (Rl HO_608000) hb) (Kd.R_base ho0)) (Kd.R_base ho1)) (fun _ h_ => h_.1)); have n8_ := Am (Kd.R_mono (Kd.R_told (Kd.R_told (Kd.R_old (Rl HO_608001) hb) (Kd.R_base ho0)) (Kd.R_base ho1)) (fun _ h_ => h_.1)); have n9_ := Am (Kd.S_mono (Kd.S_told (Kd.S_told (Kd.S_told (Kd.S_old (Sl HO_608002) hb) (Kd.R_base ho0)) (Kd.R_base ho1)) (Kd.S_base ho2)) (fun _ h_ => h_.1)); have n10_ := Am (Kd.R_mono (Kd.R_told (Kd.R_told (Kd.R_old (Rl HO619) hb) (Kd.R_base ho0)) (Kd.R_base ho1)) (fun _ h_ => h_.1)); have n11_ := Am (Kd.R_lower (Kd.R_new' (Kd.R_new' (Kd.R_new' (Kd.R_new' (Kd.R_new' (Kd.R_new' (Kd.R_new' (Kd.R_new' ho0 (Rb HO_15)) (Rb HO_582000)) (Rb HO_582001)) (Rb HO_595000)) (Rb HO_595001)) (Rb HO_608000)) (Rb HO_608001)) (Rb HO619)) (below_size (by repeat first | exact Bl HB | refine Bp (below_set ?_ GE570.out) | refine Bp (below_set ?_ GE581.out) | refine Bp (below_set ?_ GE594.out) | refine Bp (below_set ?_ GE607.out)))); have n12_ := Am (Kd.R_lower (Kd.R_new' (Kd.R_new' (Kd.R_new' (Kd.R_new' (Kd.R_new' (Kd.R_new' (Kd.R_new' (Kd.R_new' ho1 (Rb HO_15)) (Rb HO_582000)) (Rb HO_582001)) (Rb HO_595000)) (Rb HO_595001)) (Rb HO_608000)) (Rb HO_608001)) (Rb HO619)) (below_size (by repeat first | exact Bl HB | refine Bp (below_set ?_ GE570.out) | refine Bp (below_set ?_ GE581.out) | refine Bp (below_set ?_ GE594.out) | refine Bp (below_set ?_ GE607.out)))); have n13_ := Am (Kd.S_lower (Kd.S_new' (Kd.S_new' (Kd.S_new' (Kd.S_new' (Kd.S_new' (Kd.S_new' (Kd.S_new' (Kd.S_new' (Kd.S_new' (Kd.S_new' (Kd.S_new' ho2 (Rb HO_15)) (Rb HO_582000)) (Rb HO_582001)) (Sb HO_582002)) (Rb HO_595000)) (Rb HO_595001)) (Sb HO_595002)) (Rb HO_608000)) (Rb HO_608001)) (Sb HO_608002)) (Rb HO619)) (below_size (by repeat first | exact Bl HB | refine Bp (below_set ?_ GE570.out) | refine Bp (below_set ?_ GE581.out) | refine Bp (below_set ?_ GE594.out) | refine Bp (below_set ?_ GE607.out)))); have n14_ := Am (blk_below (Kl BK570) hb); have n15_ := Am (blk_below (Kl BK581) hb); have n16_ := Am (blk_below (Kl BK594) hb); have n17_ := Am (blk_below (Kl BK607) hb); have n18_ := Am (below_step (by repeat first | exact Bl HB | refine Bp (below_set ?_ GE570.out) | refine Bp (below_set ?_ GE581.out) | refine Bp (below_set ?_ GE594.out) | refine Bp (below_set ?_ GE607.out)) hb); clear HO_15 HO_582000 HO_582001 HO_582002 HO_595000 HO_595001 HO_595002 HO_608000 HO_608001 HO_608002 HO619 BK570 BK581 BK594 BK607 HB; have HO_15 := n0_; have HO_582000 := n1_; have HO_582001 := n2_; have HO_582002 := n3_; have HO_595000 := n4_; have HO_595001 := n5_; have HO_595002 := n6_; have HO_608000 := n7_; have HO_608001 := n8_; have HO_608002 := n9_; have HO619 := n10_; have HO622 := n11_; have HO625 := n12_; have HO628 := n13_; have BK570 := n14_; have BK581 := n15_; have BK594 := n16_; have BK607 := n17_; have HB := n18_; clear n0_ n1_ n2_ n3_ n4_ n5_ n6_ n7_ n8_ n9_ n10_ n11_ n12_ n13_ n14_ n15_ n16_ n17_ n18_; (try clear hb); (try clear hb2); (try clear hk); (try clear hi); (try clear ho0); (try clear ho1); (try clear ho2)) | ((with_reducible refine gate_dst (N := 17) rfl ?_); (try (refine gate_guard (by rfl) ?_; dsimp only)); refine box_event ?hg (N := 17) ?hd (cs := #[.slice none 0 0, .slice none 0 0, .slice none 0 0]) (t := 39) ?hr ?_; (case hd => rfl); (case hg => rfl); (case hr => first | (go_simp; done) | (go_simp; rfl)); intro gb630 hg w95 hbox hb; have n0_ := Am (Kd.R_below (Rl HO_15) hb); have n1_ := Am (Kd.R_below (Rl HO_582000) hb); have n2_ := Am (Kd.R_below (Rl HO_582001) hb); have n3_ := Am (Kd.S_below (Sl HO_582002) hb); have n4_ := Am (Kd.R_below (Rl HO_595000) hb); have n5_ := Am (Kd.R_below (Rl HO_595001) hb); have n6_ := Am (Kd.S_below (Sl HO_595002) hb); have n7_ := Am (Kd.R_below (Rl HO_608000) hb); have n8_ := Am (Kd.R_below (Rl HO_608001) hb); have n9_ := Am (Kd.S_below (Sl HO_608002) hb); have n10_ := Am (Kd.R_below (Rl HO619) hb); have n11_ := Am (Kd.R_below (Rl HO622) hb); have n12_ := Am (Kd.R_below (Rl HO625) hb); have n13_ := Am (Kd.S_below (Sl HO628) hb); have n14_ := Am (blk_below (Kl BK570) hb); have n15_ := Am (blk_below (Kl BK581) hb); have n16_ := Am (blk_below (Kl BK594) hb); have n17_ := Am (blk_below (Kl BK607) hb); have n18_ := Am (below_step (by repeat first | exact Bl HB | refine Bp (below_set ?_ GE570.out) | refine Bp (below_set ?_ GE581.out) | refine Bp (below_set ?_ GE594.out) | refine Bp (below_set ?_ GE607.out)) hb); have n19_ := Am (hbox); have n20_ := Am ((by rw [hg]; exact (below_size (by repeat first | exact Bl HB | refine Bp (below_set ?_ GE570.out) | refine Bp (below_set ?_ GE581.out) | refine Bp (below_set ?_ GE594.out) | refine Bp (below_set ?_ GE607.out))) : w.heap.size ≤ gb630)); have n21_ := Am ((by rw [hg]; exact (below_size (by repeat first | exact Bl HB | refine Bp (below_set ?_ GE570.out) | refine Bp (below_set ?_ GE581.out) | refine Bp (below_set ?_ GE594.out) | refine Bp (below_set ?_ GE607.out))) : w.heap.size ≤ gb630)); have n22_ := Am ((by rw [hg]; exact Nat.ne_of_lt (blk_lt (Kl BK570)) : gb570 ≠ gb630)); have n23_ := Am ((by rw [hg]; exact Nat.ne_of_gt (blk_lt (Kl BK570)) : gb630 ≠ gb570)); have n24_ := Am ((by rw [hg]; exact Nat.ne_of_lt (blk_lt (Kl BK581)) : gb581 ≠ gb630)); have n25_ := Am ((by rw [hg]; exact Nat.ne_of_gt (blk_lt (Kl BK581)) : gb630 ≠ gb581)); have n26_ := Am ((by rw [hg]; exact Nat.ne_of_lt (blk_lt (Kl BK594)) : gb594 ≠ gb630)); have n27_ := Am ((by rw [hg]; exact Nat.ne_of_gt (blk_lt (Kl BK594)) : gb630 ≠ gb594)); have n28_ := Am ((by rw [hg]; exact Nat.ne_of_lt (blk_lt (Kl BK607)) : gb607 ≠ gb630)); have n29_ := Am ((by rw [hg]; exact Nat.ne_of_gt (blk_lt (Kl BK607)) : gb630 ≠ gb607)); clear HO_15 HO_582000 HO_582001 HO_582002 HO_595000 HO_595001 HO_595002 HO_608000 HO_608001 HO_608002 HO619 HO622 HO625 HO628 BK570 BK581 BK594 BK607 HB; have HO_15 := n0_; have HO_582000 := n1_; have HO_582001 := n2_; have HO_582002 := n3_; have HO_595000 := n4_; have HO_595001 := n5_; have HO_595002 := n6_; have HO_608000 := n7_; have HO_608001 := n8_; have HO_608002 := n9_; have HO619 := n10_; have HO622 := n11_; have HO625 := n12_; have HO628 := n13_; have BK570 := n14_; have BK581 := n15_; have BK594 := n16_; have BK607 := n17_; have HB := n18_; have BK630 := n19_; have GW630 := n20_; have GE630 := n21_; have NB570_630 := n22_; have NB630_570 := n23_; have NB581_630 := n24_; have NB630_581 := n25_; have NB594_630 := n26_; have NB630_594 := n27_; have NB607_630 := n28_; have NB630_607 := n29_; clear n0_ n1_ n2_ n3_ n4_ n5_ n6_ n7_ n8_ n9_ n10_ n11_ n12_ n13_ n14_ n15_ n16_ n17_ n18_ n19_ n20_ n21_ n22_ n23_ n24_ n25_ n26_ n27_ n28_ n29_; clear hb hbox hg; obtain ⟨Ao96, co96, eo96⟩ := Kd.R_slice HO622.out; subst eo96; have hnb97 := NB630_570.out; have hnc97 := NB570_630.out; have hnb98 := NB630_581.out; have hnc98 := NB581_630.out; have hnb99 := NB630_594.out; have hnc99 := NB594_630.out; have hnb100 := NB630_607.out; have hnc100 := NB607_630.out; have hcz101_0 : w95.cell? ⟨gb630, 0, none⟩ = some (.slice none 0 0) := (blk_cell BK630.out 0).trans rfl; have hcz101_1 : w95.cell? ⟨gb630, 1, none⟩ = some (.slice none 0 0) := (blk_cell BK630.out 1).trans rfl; have hcz101_2 : w95.cell? ⟨gb630, 2, none⟩ = some (.slice none 0 0) := (blk_cell BK630.out 2).trans rfl; have hfz101_0 := blk_frozen BK630.out 0; have hfz101_1 := blk_frozen BK630.out 1; have hfz101_2 := blk_frozen BK630.out 2; obtain ⟨Ao102, co102, eo102⟩ := Kd.R_slice HO625.out; subst eo102; obtain ⟨Ao103, co103, eo103⟩ := Kd.S_slice HO628.out; subst eo103) | ((with_reducible refine gate_callee (f := 25) rfl ?_); refine goesL_ (some 121) rfl rfl Try.func25 (by kernel_rfl) rfl #[.agg #[.slice Ao96 t620.length co96, .slice Ao102 t623.length co102, .slice Ao103 t626.length co103], .int .i64 0] rfl (by (try simp only [List.map_toArray, List.map_cons, List.map_nil]); first | done | rfl | (simp only [List.length_drop, List.length_take]; rfl)) ?_; (with_reducible refine (matrix_Column.calls kj71 _ _ t620 _ _ t623 _ _ t626 0 t631 true _ ?side1 ?side2 ?side3 ?side4 ?side5 ?side6 A82.out).mono ?_); (case side1 => refine (Kd.R_reads' (e := 3) (base := w.heap.size) (ok := fun k_ => ((((((((some k_ ≠ (.slice Ao102 t623.length co102 : Value).ownBlock ∧ some k_ ≠ (v614 : Value).ownBlock) ∧ some k_ ≠ (.slice Ao10 t571.length co10 : Value).ownBlock) ∧ some k_ ≠ (.slice Ao13 t574.length co13 : Value).ownBlock) ∧ some k_ ≠ (.slice Ao37 t584.length co37 : Value).ownBlock) ∧ some k_ ≠ (.slice Ao41 t587.length co41 : Value).ownBlock) ∧ some k_ ≠ (.slice Ao45 t597.length co45 : Value).ownBlock) ∧ some k_ ≠ (.slice Ao50 t600.length co50 : Value).ownBlock) ∧ some k_ ≠ (.slice Ao93 y617.length co93 : Value).ownBlock)) (n := t620.length) (c := co96) ?_).2.2; exact (Rm (Kd.R_mono (Kd.R_far (p := ⟨gb630, 2, none⟩) (Kd.R_far (p := ⟨gb630, 1, none⟩) (Kd.R_far (p := ⟨gb630, 0, none⟩) (Kd.R_types HO622.out BK630.out (by decide)) (fun _ hk => hk.2) (.slice Ao96 t620.length co96)) (fun _ hk => hk.2) (.slice Ao102 t623.length co102)) (fun _ hk => hk.2) (.slice Ao103 t626.length co103)) (fun _ h_ => h_.1)))); (case side2 => exact (Kd.R_reads' HO622.out).2.1); (case side3 => refine (Kd.R_reads' (e := 3) (base := w.heap.size) (ok := fun k_ => ((((((((some k_ ≠ (.slice Ao96 t620.length co96 : Value).ownBlock ∧ some k_ ≠ (v614 : Value).ownBlock) ∧ some k_ ≠ (.slice Ao10 t571.length co10 : Value).ownBlock) ∧ some k_ ≠ (.slice Ao13 t574.length co13 : Value).ownBlock) ∧ some k_ ≠ (.slice Ao37 t584.length co37 : Value).ownBlock) ∧ some k_ ≠ (.slice Ao41 t587.length co41 : Value).ownBlock) ∧ some k_ ≠ (.slice Ao45 t597.length co45 : Value).ownBlock) ∧ some k_ ≠ (.slice Ao50 t600.length co50 : Value).ownBlock) ∧ some k_ ≠ (.slice Ao93 y617.length co93 : Value).ownBlock)) (n := t623.length) (c := co102) ?_).2.2; exact (Rm (Kd.R_mono (Kd.R_far (p := ⟨gb630, 2, none⟩) (Kd.R_far (p := ⟨gb630, 1, none⟩) (Kd.R_far (p := ⟨gb630, 0, none⟩) (Kd.R_types HO625.out BK630.out (by decide)) (fun _ hk => hk.2) (.slice Ao96 t620.length co96)) (fun _ hk => hk.2) (.slice Ao102 t623.length co102)) (fun _ hk => hk.2) (.slice Ao103 t626.length co103)) (fun _ h_ => h_.1)))); (case side4 => exact (Kd.R_reads' HO625.out).2.1); (case side5 => refine (Kd.S_reads' (e := 36) (base := w.heap.size) (ok := fun k_ => ((((((((((((some k_ ≠ (.slice Ao96 t620.length co96 : Value).ownBlock ∧ some k_ ≠ (.slice Ao102 t623.length co102 : Value).ownBlock) ∧ some k_ ≠ (v614 : Value).ownBlock) ∧ some k_ ≠ (.slice Ao10 t571.length co10 : Value).ownBlock) ∧ some k_ ≠ (.slice Ao13 t574.length co13 : Value).ownBlock) ∧ some k_ ≠ (.slice Ao14 t577.length co14 : Value).ownBlock) ∧ some k_ ≠ (.slice Ao37 t584.length co37 : Value).ownBlock) ∧ some k_ ≠ (.slice Ao41 t587.length co41 : Value).ownBlock) ∧ some k_ ≠ (.slice Ao42 t590.length co42 : Value).ownBlock) ∧ some k_ ≠ (.slice Ao45 t597.length co45 : Value).ownBlock) ∧ some k_ ≠ (.slice Ao50 t600.length co50 : Value).ownBlock) ∧ some k_ ≠ (.slice Ao51 t603.length co51 : Value).ownBlock) ∧ some k_ ≠ (.slice Ao93 y617.length co93 : Value).ownBlock)) (n := t626.length) (c := co103) ?_).2.2; exact (Sm (Kd.S_mono (Kd.S_far (p := ⟨gb630, 2, none⟩) (Kd.S_far (p := ⟨gb630, 1, none⟩) (Kd.S_far (p := ⟨gb630, 0, none⟩) (Kd.S_types HO628.out BK630.out (by decide)) (fun _ hk => hk.2) (.slice Ao96 t620.length co96)) (fun _ hk => hk.2) (.slice Ao102 t623.length co102)) (fun _ hk => hk.2) (.slice Ao103 t626.length co103)) (fun _ h_ => h_.1)))); (case side6 => exact (Kd.S_reads' HO628.out).2.1); rintro e w104 ⟨v632, rfl, ho0, hb⟩; refine ⟨_, rfl, ?_⟩; have n0_ := Am (Kd.R_elder' (Rm (Kd.R_mono (Kd.R_far (p := ⟨gb630, 2, none⟩) (Kd.R_far (p := ⟨gb630, 1, none⟩) (Kd.R_far (p := ⟨gb630, 0, none⟩) (Kd.R_types HO_15.out BK630.out (by decide)) (fun _ hk => hk.2) (.slice Ao96 t620.length co96)) (fun _ hk => hk.2) (.slice Ao102 t623.length co102)) (fun _ hk => hk.2) (.slice Ao103 t626.length co103)) (fun _ h_ => h_.1))) (Kd.R_base ho0) hb); have n1_ := Am (Kd.R_elder' (Rm (Kd.R_mono (Kd.R_far (p := ⟨gb630, 2, none⟩) (Kd.R_far (p := ⟨gb630, 1, none⟩) (Kd.R_far (p := ⟨gb630, 0, none⟩) (Kd.R_types HO_582000.out BK630.out (by decide)) (fun _ hk => hk.2) (.slice Ao96 t620.length co96)) (fun _ hk => hk.2) (.slice Ao102 t623.length co102)) (fun _ hk => hk.2) (.slice Ao103 t626.length co103)) (fun _ h_ => h_.1))) (Kd.R_base ho0) hb); have n2_ := Am (Kd.R_elder' (Rm (Kd.R_mono (Kd.R_far (p := ⟨gb630, 2, none⟩) (Kd.R_far (p := ⟨gb630, 1, none⟩) (Kd.R_far (p := ⟨gb630, 0, none⟩) (Kd.R_types HO_582001.out BK630.out (by decide)) (fun _ hk => hk.2) (.slice Ao96 t620.length co96)) (fun _ hk => hk.2) (.slice Ao102 t623.length co102)) (fun _ hk => hk.2) (.slice Ao103 t626.length co103)) (fun _ h_ => h_.1))) (Kd.R_base ho0) hb); have n3_ := Am (Kd.S_elder' (Sm (Kd.S_mono (Kd.S_far (p := ⟨gb630, 2, none⟩) (Kd.S_far (p := ⟨gb630, 1, none⟩) (Kd.S_far (p := ⟨gb630, 0, none⟩) (Kd.S_types HO_582002.out BK630.out (by decide)) (fun _ hk => hk.2) (.slice Ao96 t620.length co96)) (fun _ hk => hk.2) (.slice Ao102 t623.length co102)) (fun _ hk => hk.2) (.slice Ao103 t626.length co103)) (fun _ h_ => h_.1))) (Kd.R_base ho0) hb); have n4_ := Am (Kd.R_elder' (Rm (Kd.R_mono (Kd.R_far (p := ⟨gb630, 2, none⟩) (Kd.R_far (p := ⟨gb630, 1, none⟩) (Kd.R_far (p := ⟨gb630, 0, none⟩) (Kd.R_types HO_595000.out BK630.out (by decide)) (fun _ hk => hk.2) (.slice Ao96 t620.length co96)) (fun _ hk => hk.2) (.slice Ao102 t623.length co102)) (fun _ hk => hk.2) (.slice Ao103 t626.length co103)) (fun _ h_ => h_.1))) (Kd.R_base ho0) hb); have n5_ := Am (Kd.R_elder' (Rm (Kd.R_mono (Kd.R_far (p := ⟨gb630, 2, none⟩) (Kd.R_far (p := ⟨gb630, 1, none⟩) (Kd.R_far (p := ⟨gb630, 0, none⟩) (Kd.R_types HO_595001.out BK630.out (by decide)) (fun _ hk => hk.2) (.slice Ao96 t620.length co96)) (fun _ hk => hk.2) (.slice Ao102 t623.length co102)) (fun _ hk => hk.2) (.slice Ao103 t626.length co103)) (fun _ h_ => h_.1))) (Kd.R_base ho0) hb); have n6_ := Am (Kd.S_elder' (Sm (Kd.S_mono (Kd.S_far (p := ⟨gb630, 2, none⟩) (Kd.S_far (p := ⟨gb630, 1, none⟩) (Kd.S_far (p := ⟨gb630, 0, none⟩) (Kd.S_types HO_595002.out BK630.out (by decide)) (fun _ hk => hk.2) (.slice Ao96 t620.length co96)) (fun _ hk => hk.2) (.slice Ao102 t623.length co102)) (fun _ hk => hk.2) (.slice Ao103 t626.length co103)) (fun _ h_ => h_.1))) (Kd.R_base ho0) hb); have n7_ := Am (Kd.R_elder' (Rm (Kd.R_mono (Kd.R_far (p := ⟨gb630, 2, none⟩) (Kd.R_far (p := ⟨gb630, 1, none⟩) (Kd.R_far (p := ⟨gb630, 0, none⟩) (Kd.R_types HO_608000.out BK630.out (by decide)) (fun _ hk => hk.2) (.slice Ao96 t620.length co96)) (fun _ hk => hk.2) (.slice Ao102 t623.length co102)) (fun _ hk => hk.2) (.slice Ao103 t626.length co103)) (fun _ h_ => h_.1))) (Kd.R_base ho0) hb); have n8_ := Am (Kd.R_elder' (Rm (Kd.R_mono (Kd.R_far (p := ⟨gb630, 2, none⟩) (Kd.R_far (p := ⟨gb630, 1, none⟩) (Kd.R_far (p := ⟨gb630, 0, none⟩) (Kd.R_types HO_608001.out BK630.out (by decide)) (fun _ hk => hk.2) (.slice Ao96 t620.length co96)) (fun _ hk => hk.2) (.slice Ao102 t623.length co102)) (fun _ hk => hk.2) (.slice Ao103 t626.length co103)) (fun _ h_ => h_.1))) (Kd.R_base ho0) hb); have n9_ := Am (Kd.S_elder' (Sm (Kd.S_mono (Kd.S_far (p := ⟨gb630, 2, none⟩) (Kd.S_far (p := ⟨gb630, 1, none⟩) (Kd.S_far (p := ⟨gb630, 0, none⟩) (Kd.S_types HO_608002.out BK630.out (by decide)) (fun _ hk => hk.2) (.slice Ao96 t620.length co96)) (fun _ hk => hk.2) (.slice Ao102 t623.length co102)) (fun _ hk => hk.2) (.slice Ao103 t626.length co103)) (fun _ h_ => h_.1))) (Kd.R_base ho0) hb); have n10_ := Am (Kd.R_elder' (Rm (Kd.R_mono (Kd.R_far (p := ⟨gb630, 2, none⟩) (Kd.R_far (p := ⟨gb630, 1, none⟩) (Kd.R_far (p := ⟨gb630, 0, none⟩) (Kd.R_types HO619.out BK630.out (by decide)) (fun _ hk => hk.2) (.slice Ao96 t620.length co96)) (fun _ hk => hk.2) (.slice Ao102 t623.length co102)) (fun _ hk => hk.2) (.slice Ao103 t626.length co103)) (fun _ h_ => h_.1))) (Kd.R_base ho0) hb); have n11_ := Am (Kd.R_elder' (Rm (Kd.R_mono (Kd.R_far (p := ⟨gb630, 2, none⟩) (Kd.R_far (p := ⟨gb630, 1, none⟩) (Kd.R_far (p := ⟨gb630, 0, none⟩) (Kd.R_types HO622.out BK630.out (by decide)) (fun _ hk => hk.2) (.slice Ao96 t620.length co96)) (fun _ hk => hk.2) (.slice Ao102 t623.length co102)) (fun _ hk => hk.2) (.slice Ao103 t626.length co103)) (fun _ h_ => h_.1))) (Kd.R_base ho0) hb); have n12_ := Am (Kd.R_elder' (Rm (Kd.R_mono (Kd.R_far (p := ⟨gb630, 2, none⟩) (Kd.R_far (p := ⟨gb630, 1, none⟩) (Kd.R_far (p := ⟨gb630, 0, none⟩) (Kd.R_types HO625.out BK630.out (by decide)) (fun _ hk => hk.2) (.slice Ao96 t620.length co96)) (fun _ hk => hk.2) (.slice Ao102 t623.length co102)) (fun _ hk => hk.2) (.slice Ao103 t626.length co103)) (fun _ h_ => h_.1))) (Kd.R_base ho0) hb); have n13_ := Am (Kd.S_elder' (Sm (Kd.S_mono (Kd.S_far (p := ⟨gb630, 2, none⟩) (Kd.S_far (p := ⟨gb630, 1, none⟩) (Kd.S_far (p := ⟨gb630, 0, none⟩) (Kd.S_types HO628.out BK630.out (by decide)) (fun _ hk => hk.2) (.slice Ao96 t620.length co96)) (fun _ hk => hk.2) (.slice Ao102 t623.length co102)) (fun _ hk => hk.2) (.slice Ao103 t626.length co103)) (fun _ h_ => h_.1))) (Kd.R_base ho0) hb); have n14_ := Am (Kd.R_lower (Kd.R_new' (Kd.R_new' (Kd.R_new' (Kd.R_new' (Kd.R_new' (Kd.R_new' (Kd.R_new' (Kd.R_new' (Kd.R_new' (Kd.R_new' ho0 (Kd.R_lt (Rm (Kd.R_mono (Kd.R_far (p := ⟨gb630, 2, none⟩) (Kd.R_far (p := ⟨gb630, 1, none⟩) (Kd.R_far (p := ⟨gb630, 0, none⟩) (Kd.R_types HO_15.out BK630.out (by decide)) (fun _ hk => hk.2) (.slice Ao96 t620.length co96)) (fun _ hk => hk.2) (.slice Ao102 t623.length co102)) (fun _ hk => hk.2) (.slice Ao103 t626.length co103)) (fun _ h_ => h_.1))))) (Kd.R_lt (Rm (Kd.R_mono (Kd.R_far (p := ⟨gb630, 2, none⟩) (Kd.R_far (p := ⟨gb630, 1, none⟩) (Kd.R_far (p := ⟨gb630, 0, none⟩) (Kd.R_types HO_582000.out BK630.out (by decide)) (fun _ hk => hk.2) (.slice Ao96 t620.length co96)) (fun _ hk => hk.2) (.slice Ao102 t623.length co102)) (fun _ hk => hk.2) (.slice Ao103 t626.length co103)) (fun _ h_ => h_.1))))) (Kd.R_lt (Rm (Kd.R_mono (Kd.R_far (p := ⟨gb630, 2, none⟩) (Kd.R_far (p := ⟨gb630, 1, none⟩) (Kd.R_far (p := ⟨gb630, 0, none⟩) (Kd.R_types HO_582001.out BK630.out (by decide)) (fun _ hk => hk.2) (.slice Ao96 t620.length co96)) (fun _ hk => hk.2) (.slice Ao102 t623.length co102)) (fun _ hk => hk.2) (.slice Ao103 t626.length co103)) (fun _ h_ => h_.1))))) (Kd.R_lt (Rm (Kd.R_mono (Kd.R_far (p := ⟨gb630, 2, none⟩) (Kd.R_far (p := ⟨gb630, 1, none⟩) (Kd.R_far (p := ⟨gb630, 0, none⟩) (Kd.R_types HO_595000.out BK630.out (by decide)) (fun _ hk => hk.2) (.slice Ao96 t620.length co96)) (fun _ hk => hk.2) (.slice Ao102 t623.length co102)) (fun _ hk => hk.2) (.slice Ao103 t626.length co103)) (fun _ h_ => h_.1))))) (Kd.R_lt (Rm (Kd.R_mono (Kd.R_far (p := ⟨gb630, 2, none⟩) (Kd.R_far (p := ⟨gb630, 1, none⟩) (Kd.R_far (p := ⟨gb630, 0, none⟩) (Kd.R_types HO_595001.out BK630.out (by decide)) (fun _ hk => hk.2) (.slice Ao96 t620.length co96)) (fun _ hk => hk.2) (.slice Ao102 t623.length co102)) (fun _ hk => hk.2) (.slice Ao103 t626.length co103)) (fun _ h_ => h_.1))))) (Kd.R_lt (Rm (Kd.R_mono (Kd.R_far (p := ⟨gb630, 2, none⟩) (Kd.R_far (p := ⟨gb630, 1, none⟩) (Kd.R_far (p := ⟨gb630, 0, none⟩) (Kd.R_types HO_608000.out BK630.out (by decide)) (fun _ hk => hk.2) (.slice Ao96 t620.length co96)) (fun _ hk => hk.2) (.slice Ao102 t623.length co102)) (fun _ hk => hk.2) (.slice Ao103 t626.length co103)) (fun _ h_ => h_.1))))) (Kd.R_lt (Rm (Kd.R_mono (Kd.R_far (p := ⟨gb630, 2, none⟩) (Kd.R_far (p := ⟨gb630, 1, none⟩) (Kd.R_far (p := ⟨gb630, 0, none⟩) (Kd.R_types HO_608001.out BK630.out (by decide)) (fun _ hk => hk.2) (.slice Ao96 t620.length co96)) (fun _ hk => hk.2) (.slice Ao102 t623.length co102)) (fun _ hk => hk.2) (.slice Ao103 t626.length co103)) (fun _ h_ => h_.1))))) (Kd.R_lt (Rm (Kd.R_mono (Kd.R_far (p := ⟨gb630, 2, none⟩) (Kd.R_far (p := ⟨gb630, 1, none⟩) (Kd.R_far (p := ⟨gb630, 0, none⟩) (Kd.R_types HO619.out BK630.out (by decide)) (fun _ hk => hk.2) (.slice Ao96 t620.length co96)) (fun _ hk => hk.2) (.slice Ao102 t623.length co102)) (fun _ hk => hk.2) (.slice Ao103 t626.length co103)) (fun _ h_ => h_.1))))) (Kd.R_lt (Rm (Kd.R_mono (Kd.R_far (p := ⟨gb630, 2, none⟩) (Kd.R_far (p := ⟨gb630, 1, none⟩) (Kd.R_far (p := ⟨gb630, 0, none⟩) (Kd.R_types HO622.out BK630.out (by decide)) (fun _ hk => hk.2) (.slice Ao96 t620.length co96)) (fun _ hk => hk.2) (.slice Ao102 t623.length co102)) (fun _ hk => hk.2) (.slice Ao103 t626.length co103)) (fun _ h_ => h_.1))))) (Kd.R_lt (Rm (Kd.R_mono (Kd.R_far (p := ⟨gb630, 2, none⟩) (Kd.R_far (p := ⟨gb630, 1, none⟩) (Kd.R_far (p := ⟨gb630, 0, none⟩) (Kd.R_types HO625.out BK630.out (by decide)) (fun _ hk => hk.2) (.slice Ao96 t620.length co96)) (fun _ hk => hk.2) (.slice Ao102 t623.length co102)) (fun _ hk => hk.2) (.slice Ao103 t626.length co103)) (fun _ h_ => h_.1))))) (below_size (by repeat first | exact Bl HB | refine Bp (below_set ?_ GE570.out) | refine Bp (below_set ?_ GE581.out) | refine Bp (below_set ?_ GE594.out) | refine Bp (below_set ?_ GE607.out) | refine Bp (below_set ?_ GE630.out)))); have n15_ := Am (blk_below (g := gb570) (o := .cells #[.slice A0_0 l0_0.length c0_0, .slice A0_1 l0_1.length c0_1, .slice A0_2 l0_2.length c0_2] 39 (0, 0)) (by refine Kp ?_; refine blk_far ?_ NB570_630.out _; refine Kp ?_; refine blk_far ?_ NB570_630.out _; refine Kp ?_; refine blk_far ?_ NB570_630.out _; refine Kp ?_; exact BK570.out) hb); have n16_ := Am (blk_below (g := gb581) (o := .cells #[.slice Ao10 t571.length co10, .slice Ao13 t574.length co13, .slice Ao14 t577.length co14] 39 (0, 0)) (by refine Kp ?_; refine blk_far ?_ NB581_630.out _; refine Kp ?_; refine blk_far ?_ NB581_630.out _; refine Kp ?_; refine blk_far ?_ NB581_630.out _; refine Kp ?_; exact BK581.out) hb); have n17_ := Am (blk_below (g := gb594) (o := .cells #[.slice Ao37 t584.length co37, .slice Ao41 t587.length co41, .slice Ao42 t590.length co42] 39 (0, 0)) (by refine Kp ?_; refine blk_far ?_ NB594_630.out _; refine Kp ?_; refine blk_far ?_ NB594_630.out _; refine Kp ?_; refine blk_far ?_ NB594_630.out _; refine Kp ?_; exact BK594.out) hb); have n18_ := Am (blk_below (g := gb607) (o := .cells #[.slice Ao45 t597.length co45, .slice Ao50 t600.length co50, .slice Ao51 t603.length co51] 39 (0, 0)) (by refine Kp ?_; refine blk_far ?_ NB607_630.out _; refine Kp ?_; refine blk_far ?_ NB607_630.out _; refine Kp ?_; refine blk_far ?_ NB607_630.out _; refine Kp ?_; exact BK607.out) hb); have n19_ := Am (blk_below (g := gb630) (o := .cells #[.slice Ao96 t620.length co96, .slice Ao102 t623.length co102, .slice Ao103 t626.length co103] 39 (0, 0)) (by refine Kp ?_; refine blk_put (cs := #[.slice Ao96 t620.length co96, .slice Ao102 t623.length co102, .slice none 0 0]) ?_ 2 _ rfl; refine Kp ?_; refine blk_put (cs := #[.slice Ao96 t620.length co96, .slice none 0 0, .slice none 0 0]) ?_ 1 _ rfl; refine Kp ?_; refine blk_put (cs := #[.slice none 0 0, .slice none 0 0, .slice none 0 0]) ?_ 0 _ rfl; refine Kp ?_; exact BK630.out) hb); have n20_ := Am (below_step (by repeat first | exact Bl HB | refine Bp (below_set ?_ GE570.out) | refine Bp (below_set ?_ GE581.out) | refine Bp (below_set ?_ GE594.out) | refine Bp (below_set ?_ GE607.out) | refine Bp (below_set ?_ GE630.out)) hb); clear HO_15 HO_582000 HO_582001 HO_582002 HO_595000 HO_595001 HO_595002 HO_608000 HO_608001 HO_608002 HO619 HO622 HO625 HO628 BK570 BK581 BK594 BK607 BK630 HB; have HO_15 := n0_; have HO_582000 := n1_; have HO_582001 := n2_; have HO_582002 := n3_; have HO_595000 := n4_; have HO_595001 := n5_; have HO_595002 := n6_; have HO_608000 := n7_; have HO_608001 := n8_; have HO_608002 := n9_; have HO619 := n10_; have HO622 := n11_; have HO625 := n12_; have HO628 := n13_; have HO633 := n14_; have BK570 := n15_; have BK581 := n16_; have BK594 := n17_; have BK607 := n18_; have BK630 := n19_; have HB := n20_; clear n0_ n1_ n2_ n3_ n4_ n5_ n6_ n7_ n8_ n9_ n10_ n11_ n12_ n13_ n14_ n15_ n16_ n17_ n18_ n19_ n20_; (try clear hb); (try clear hb2); (try clear hk); (try clear hi); (try clear ho0); obtain ⟨Ao105, co105, eo105⟩ := Kd.R_slice HO_15.out; subst eo105; obtain ⟨Ao106, co106, eo106⟩ := Kd.R_slice HO633.out; subst eo106) | (go_at_call 23; (with_reducible refine (examboardlaw24_equal.calls kj71 _ _ t613 _ _ t631 true _ ?side1 ?side2 ?side3 ?side4 A85.out).mono ?_); (case side1 => exact Cm (Kd.R_reads' HO_15.out).2.2); (case side2 => exact (Kd.R_reads' HO_15.out).2.1); (case side3 => exact Cm (Kd.R_reads' HO633.out).2.2); (case side4 => exact (Kd.R_reads' HO633.out).2.1); rintro e w' ⟨rfl, ⟨nd, rfl⟩⟩))
                   go_roundg kj71
                   case measure => have := HJ4.out; have := HJ31.out; have := HK3.out; have := HJ71.out; omega
                   case rel => exact ⟨(wrap64 (x91_3 + 1)), (by first | rfl | (simp; done) | (simp [*]; done)), H', ⟨by have := HJ4.out; have := HJ31.out; have := HK3.out; have := HJ71.out; omega⟩, ⟨Rm (Kd.R_mono HO_582000.out (fun _ hk => ⟨hk.1.1.1.1.2.1, ⟨hk.1.1.1.1.2.2.1, ⟨hk.1.1.1.1.2.2.2.1, ⟨hk.1.1.1.1.2.2.2.2.1, hk.1.1.1.1.2.2.2.2.2⟩⟩⟩⟩))⟩, ⟨Rm (Kd.R_mono HO_582001.out (fun _ hk => ⟨hk.1.1.1.1.2.1, ⟨hk.1.1.1.1.2.2.1, ⟨hk.1.1.1.1.2.2.2.1, ⟨hk.1.1.1.1.2.2.2.2.1, hk.1.1.1.1.2.2.2.2.2⟩⟩⟩⟩))⟩, ⟨Sm (Kd.S_mono HO_582002.out (fun _ hk => ⟨hk.1.1.1.1.1.2.1, ⟨hk.1.1.1.1.1.2.2.1, ⟨hk.1.1.1.1.1.2.2.2.1, ⟨hk.1.1.1.1.1.2.2.2.2.1, ⟨hk.1.1.1.1.1.2.2.2.2.2.1, ⟨hk.1.1.1.1.1.2.2.2.2.2.2.1, ⟨hk.1.1.1.1.1.2.2.2.2.2.2.2.1, hk.1.1.1.1.1.2.2.2.2.2.2.2.2⟩⟩⟩⟩⟩⟩⟩))⟩, ⟨Rm (Kd.R_mono HO_595000.out (fun _ hk => ⟨hk.1.1.1.1.2.1, ⟨hk.1.1.1.1.2.2.1, ⟨hk.1.1.1.1.2.2.2.1, ⟨hk.1.1.1.1.2.2.2.2.1, hk.1.1.1.1.2.2.2.2.2⟩⟩⟩⟩))⟩, ⟨Rm (Kd.R_mono HO_595001.out (fun _ hk => ⟨hk.1.1.1.1.2.1, ⟨hk.1.1.1.1.2.2.1, ⟨hk.1.1.1.1.2.2.2.1, ⟨hk.1.1.1.1.2.2.2.2.1, hk.1.1.1.1.2.2.2.2.2⟩⟩⟩⟩))⟩, ⟨Sm (Kd.S_mono HO_595002.out (fun _ hk => ⟨hk.1.1.1.1.1.2.1, ⟨hk.1.1.1.1.1.2.2.1, ⟨hk.1.1.1.1.1.2.2.2.1, ⟨hk.1.1.1.1.1.2.2.2.2.1, ⟨hk.1.1.1.1.1.2.2.2.2.2.1, ⟨hk.1.1.1.1.1.2.2.2.2.2.2.1, ⟨hk.1.1.1.1.1.2.2.2.2.2.2.2.1, hk.1.1.1.1.1.2.2.2.2.2.2.2.2⟩⟩⟩⟩⟩⟩⟩))⟩, ⟨Rm (Kd.R_mono HO_608000.out (fun _ hk => ⟨hk.1.1.1.1.2.1, ⟨hk.1.1.1.1.2.2.1, ⟨hk.1.1.1.1.2.2.2.1, ⟨hk.1.1.1.1.2.2.2.2.1, hk.1.1.1.1.2.2.2.2.2⟩⟩⟩⟩))⟩, ⟨Rm (Kd.R_mono HO_608001.out (fun _ hk => ⟨hk.1.1.1.1.2.1, ⟨hk.1.1.1.1.2.2.1, ⟨hk.1.1.1.1.2.2.2.1, ⟨hk.1.1.1.1.2.2.2.2.1, hk.1.1.1.1.2.2.2.2.2⟩⟩⟩⟩))⟩, ⟨Sm (Kd.S_mono HO_608002.out (fun _ hk => ⟨hk.1.1.1.1.1.2.1, ⟨hk.1.1.1.1.1.2.2.1, ⟨hk.1.1.1.1.1.2.2.2.1, ⟨hk.1.1.1.1.1.2.2.2.2.1, ⟨hk.1.1.1.1.1.2.2.2.2.2.1, ⟨hk.1.1.1.1.1.2.2.2.2.2.2.1, ⟨hk.1.1.1.1.1.2.2.2.2.2.2.2.1, hk.1.1.1.1.1.2.2.2.2.2.2.2.2⟩⟩⟩⟩⟩⟩⟩))⟩, ⟨Kl BK570⟩, ⟨Kl BK581⟩, ⟨Kl BK594⟩, ⟨Kl BK607⟩, ⟨by repeat first | exact Bl HB | refine Bp (below_set ?_ GE570.out) | refine Bp (below_set ?_ GE581.out) | refine Bp (below_set ?_ GE594.out) | refine Bp (below_set ?_ GE607.out) | refine Bp (below_set ?_ GE630.out)⟩⟩
                  ·replace c86 := Bool.eq_false_iff.mpr c86
                   subst c86
                   have H1 : (none) = some r := by rw [if_neg (show ¬ (false = true) by decide)] at H; exact H
                   clear H
                   have H := H1
                   clear H1
                   exact absurd H (by simp)
                 ·replace c84 := Bool.eq_false_iff.mpr c84
                  subst c84
                  have H1 : (none) = some r := by rw [if_neg (show ¬ (false = true) by decide)] at H; exact H
                  clear H
                  have H := H1
                  clear H1
                  exact absurd H (by simp)
                ·rw [if_neg c83] at H
                 exact absurd H (by simp)
            ·rw [if_neg c70] at H
             exact absurd H (by simp)
           ·rw [if_neg c69] at H
            exact absurd H (by simp)
          ·rw [if_neg c68] at H
           have c68b0 : decide (x91_3 < (l2.length : Int)) = false := decide_eq_false c68
           clear c68
           replace H := Option.bind_eq_some_iff.mp H
           obtain ⟨t611, A1070, H⟩ := H
           replace H : (some t611) = some r := H
           have A107 := Am A1070
           clear A1070
           obtain rfl := Option.some.inj H
           go_wp2_with (first | ((with_reducible refine gate_callee (f := 15) rfl ?_); refine goesL_ (some 137) rfl rfl Try.func15 (by kernel_rfl) rfl #[] rfl (by (try simp only [List.map_toArray, List.map_cons, List.map_nil]); first | done | rfl | (simp only [List.length_drop, List.length_take]; rfl)) ?_; (with_reducible refine (examboardlaw24_awake.calls k3  t611 _ A107.out).mono ?_); rintro e w108 ⟨rfl, hb⟩; refine ⟨_, rfl, ?_⟩; have n0_ := Am (Kd.R_below (Rl HO_582000) hb); have n1_ := Am (Kd.R_below (Rl HO_582001) hb); have n2_ := Am (Kd.S_below (Sl HO_582002) hb); have n3_ := Am (Kd.R_below (Rl HO_595000) hb); have n4_ := Am (Kd.R_below (Rl HO_595001) hb); have n5_ := Am (Kd.S_below (Sl HO_595002) hb); have n6_ := Am (Kd.R_below (Rl HO_608000) hb); have n7_ := Am (Kd.R_below (Rl HO_608001) hb); have n8_ := Am (Kd.S_below (Sl HO_608002) hb); have n9_ := Am (blk_below (Kl BK570) hb); have n10_ := Am (blk_below (Kl BK581) hb); have n11_ := Am (blk_below (Kl BK594) hb); have n12_ := Am (blk_below (Kl BK607) hb); have n13_ := Am (below_step (by repeat first | exact Bl HB | refine Bp (below_set ?_ GE570.out) | refine Bp (below_set ?_ GE581.out) | refine Bp (below_set ?_ GE594.out) | refine Bp (below_set ?_ GE607.out)) hb); clear HO_582000 HO_582001 HO_582002 HO_595000 HO_595001 HO_595002 HO_608000 HO_608001 HO_608002 BK570 BK581 BK594 BK607 HB; have HO_582000 := n0_; have HO_582001 := n1_; have HO_582002 := n2_; have HO_595000 := n3_; have HO_595001 := n4_; have HO_595002 := n5_; have HO_608000 := n6_; have HO_608001 := n7_; have HO_608002 := n8_; have BK570 := n9_; have BK581 := n10_; have BK594 := n11_; have BK607 := n12_; have HB := n13_; clear n0_ n1_ n2_ n3_ n4_ n5_ n6_ n7_ n8_ n9_ n10_ n11_ n12_ n13_; (try clear hb); (try clear hb2); (try clear hk); (try clear hi)))
           go_ret
           exact ⟨by first | rfl | (simp [errW_none, errW_some] <;> rfl) | (simp [*, errW_none, errW_some] <;> rfl), by repeat first | exact Bl HB | refine Bp (below_set ?_ GE570.out) | refine Bp (below_set ?_ GE581.out) | refine Bp (below_set ?_ GE594.out) | refine Bp (below_set ?_ GE607.out)⟩
    ·rw [if_neg c30] at H
     have c30b0 : (t593 == 0) = false := beq_eq_false_iff_ne.mpr c30
     have c30b1 : (t593 != 0) = true := bne_iff_ne.mpr c30
     replace H := Option.bind_eq_some_iff.mp H
     obtain ⟨t595, A1090, H⟩ := H
     replace H : (if t595 = true then ((examboardlaw24_awake.f kj4).bind fun t596 => (some t596)) else (none)) = some r := H
     have A109 := Am A1090
     clear A1090
     by_cases c110 : t595 = true
     ·subst c110
      have H1 : ((examboardlaw24_awake.f kj4).bind fun t596 => (some t596)) = some r := by rw [if_pos rfl] at H; exact H
      clear H
      have H := H1
      clear H1
      replace H := Option.bind_eq_some_iff.mp H
      obtain ⟨t596, A1110, H⟩ := H
      replace H : (some t596) = some r := H
      have A111 := Am A1110
      clear A1110
      obtain rfl := Option.some.inj H
      have hnb112 := NB570_581.out
      have hnc112 := NB581_570.out
      have hcz113_0 : wc.cell? ⟨gb570, 0, none⟩ = some (.slice A0_0 l0_0.length c0_0) := (blk_cell BK570.out 0).trans rfl
      have hcz113_1 : wc.cell? ⟨gb570, 1, none⟩ = some (.slice A0_1 l0_1.length c0_1) := (blk_cell BK570.out 1).trans rfl
      have hcz113_2 : wc.cell? ⟨gb570, 2, none⟩ = some (.slice A0_2 l0_2.length c0_2) := (blk_cell BK570.out 2).trans rfl
      have hfz113_0 := blk_frozen BK570.out 0
      have hfz113_1 := blk_frozen BK570.out 1
      have hfz113_2 := blk_frozen BK570.out 2
      go_wp2_with (first | ((with_reducible refine gate_callee (f := 16) rfl ?_); refine goesL_ (some 49) rfl rfl Try.func16 (by kernel_rfl) rfl #[.agg #[.slice A0_0 l0_0.length c0_0, .slice A0_1 l0_1.length c0_1, .slice A0_2 l0_2.length c0_2], .slice A1 l1.length c1, .slice A2 l2.length c2] rfl (by (try simp only [List.map_toArray, List.map_cons, List.map_nil]); first | done | rfl | (simp only [List.length_drop, List.length_take]; rfl)) ?_; (with_reducible refine (matrix_Select.calls kj4 _ _ l0_0 _ _ l0_1 _ _ l0_2 _ _ l1 _ _ l2 t584 t587 t590 t593 _ ?side1 ?side2 ?side3 ?side4 ?side5 ?side6 ?side7 ?side8 ?side9 ?side10 A29.out).mono ?_); (case side1 => repeat (first | exact (Kd.C_below HR0_0.out HB.out) | (with_reducible refine Kd.C_alloc ?_ _) | (with_reducible refine Kd.C_drewN ?_ _) | (with_reducible refine Kd.C_drew ?_))); (case side2 => exact HC0_0.out); (case side3 => repeat (first | exact (Kd.C_below HR0_1.out HB.out) | (with_reducible refine Kd.C_alloc ?_ _) | (with_reducible refine Kd.C_drewN ?_ _) | (with_reducible refine Kd.C_drew ?_))); (case side4 => exact HC0_1.out); (case side5 => repeat (first | exact (Kd.C_below HR0_2.out HB.out) | (with_reducible refine Kd.C_alloc ?_ _) | (with_reducible refine Kd.C_drewN ?_ _) | (with_reducible refine Kd.C_drew ?_))); (case side6 => exact HC0_2.out); (case side7 => repeat (first | exact (Kd.C_below HR1.out HB.out) | (with_reducible refine Kd.C_alloc ?_ _) | (with_reducible refine Kd.C_drewN ?_ _) | (with_reducible refine Kd.C_drew ?_))); (case side8 => exact HC1.out); (case side9 => repeat (first | exact (Kd.C_below HR2.out HB.out) | (with_reducible refine Kd.C_alloc ?_ _) | (with_reducible refine Kd.C_drewN ?_ _) | (with_reducible refine Kd.C_drew ?_))); (case side10 => exact HC2.out); rintro e w114 ⟨v585, v588, v591, rfl, ho0, ho1, ho2, hb⟩; refine ⟨_, rfl, ?_⟩; have n0_ := Am (Kd.R_mono (Kd.R_told (Kd.R_told (Kd.R_old (Rl HO_582000) hb) (Kd.R_base ho0)) (Kd.R_base ho1)) (fun _ h_ => h_.1)); have n1_ := Am (Kd.R_mono (Kd.R_told (Kd.R_told (Kd.R_old (Rl HO_582001) hb) (Kd.R_base ho0)) (Kd.R_base ho1)) (fun _ h_ => h_.1)); have n2_ := Am (Kd.S_mono (Kd.S_told (Kd.S_told (Kd.S_told (Kd.S_old (Sl HO_582002) hb) (Kd.R_base ho0)) (Kd.R_base ho1)) (Kd.S_base ho2)) (fun _ h_ => h_.1)); have n3_ := Am (Kd.R_lower (Kd.R_new' (Kd.R_new' ho0 (Rb HO_582000)) (Rb HO_582001)) (below_size (by repeat first | exact Bl HB | refine Bp (below_set ?_ GE570.out) | refine Bp (below_set ?_ GE581.out)))); have n4_ := Am (Kd.R_lower (Kd.R_new' (Kd.R_new' ho1 (Rb HO_582000)) (Rb HO_582001)) (below_size (by repeat first | exact Bl HB | refine Bp (below_set ?_ GE570.out) | refine Bp (below_set ?_ GE581.out)))); have n5_ := Am (Kd.S_lower (Kd.S_new' (Kd.S_new' (Kd.S_new' ho2 (Rb HO_582000)) (Rb HO_582001)) (Sb HO_582002)) (below_size (by repeat first | exact Bl HB | refine Bp (below_set ?_ GE570.out) | refine Bp (below_set ?_ GE581.out)))); have n6_ := Am (blk_below (Kl BK570) hb); have n7_ := Am (blk_below (Kl BK581) hb); have n8_ := Am (below_step (by repeat first | exact Bl HB | refine Bp (below_set ?_ GE570.out) | refine Bp (below_set ?_ GE581.out)) hb); clear HO_582000 HO_582001 HO_582002 BK570 BK581 HB; have HO_582000 := n0_; have HO_582001 := n1_; have HO_582002 := n2_; have HO586 := n3_; have HO589 := n4_; have HO592 := n5_; have BK570 := n6_; have BK581 := n7_; have HB := n8_; clear n0_ n1_ n2_ n3_ n4_ n5_ n6_ n7_ n8_; (try clear hb); (try clear hb2); (try clear hk); (try clear hi); (try clear ho0); (try clear ho1); (try clear ho2)) | ((with_reducible refine gate_dst (N := 9) rfl ?_); (try (refine gate_guard (by rfl) ?_; dsimp only)); refine box_event ?hg (N := 9) ?hd (cs := #[.slice none 0 0, .slice none 0 0, .slice none 0 0]) (t := 39) ?hr ?_; (case hd => rfl); (case hg => rfl); (case hr => first | (go_simp; done) | (go_simp; rfl)); intro gb594 hg w115 hbox hb; have n0_ := Am (Kd.R_below (Rl HO_582000) hb); have n1_ := Am (Kd.R_below (Rl HO_582001) hb); have n2_ := Am (Kd.S_below (Sl HO_582002) hb); have n3_ := Am (Kd.R_below (Rl HO586) hb); have n4_ := Am (Kd.R_below (Rl HO589) hb); have n5_ := Am (Kd.S_below (Sl HO592) hb); have n6_ := Am (blk_below (Kl BK570) hb); have n7_ := Am (blk_below (Kl BK581) hb); have n8_ := Am (below_step (by repeat first | exact Bl HB | refine Bp (below_set ?_ GE570.out) | refine Bp (below_set ?_ GE581.out)) hb); have n9_ := Am (hbox); have n10_ := Am ((by rw [hg]; exact (below_size (by repeat first | exact Bl HB | refine Bp (below_set ?_ GE570.out) | refine Bp (below_set ?_ GE581.out))) : w.heap.size ≤ gb594)); have n11_ := Am ((by rw [hg]; exact (below_size (by repeat first | exact Bl HB | refine Bp (below_set ?_ GE570.out) | refine Bp (below_set ?_ GE581.out))) : w.heap.size ≤ gb594)); have n12_ := Am ((by rw [hg]; exact Nat.ne_of_lt (blk_lt (Kl BK570)) : gb570 ≠ gb594)); have n13_ := Am ((by rw [hg]; exact Nat.ne_of_gt (blk_lt (Kl BK570)) : gb594 ≠ gb570)); have n14_ := Am ((by rw [hg]; exact Nat.ne_of_lt (blk_lt (Kl BK581)) : gb581 ≠ gb594)); have n15_ := Am ((by rw [hg]; exact Nat.ne_of_gt (blk_lt (Kl BK581)) : gb594 ≠ gb581)); clear HO_582000 HO_582001 HO_582002 HO586 HO589 HO592 BK570 BK581 HB; have HO_582000 := n0_; have HO_582001 := n1_; have HO_582002 := n2_; have HO586 := n3_; have HO589 := n4_; have HO592 := n5_; have BK570 := n6_; have BK581 := n7_; have HB := n8_; have BK594 := n9_; have GW594 := n10_; have GE594 := n11_; have NB570_594 := n12_; have NB594_570 := n13_; have NB581_594 := n14_; have NB594_581 := n15_; clear n0_ n1_ n2_ n3_ n4_ n5_ n6_ n7_ n8_ n9_ n10_ n11_ n12_ n13_ n14_ n15_; clear hb hbox hg; obtain ⟨Ao116, co116, eo116⟩ := Kd.R_slice HO586.out; subst eo116; have hnb117 := NB594_570.out; have hnc117 := NB570_594.out; have hnb118 := NB594_581.out; have hnc118 := NB581_594.out; have hcz119_0 : w115.cell? ⟨gb594, 0, none⟩ = some (.slice none 0 0) := (blk_cell BK594.out 0).trans rfl; have hcz119_1 : w115.cell? ⟨gb594, 1, none⟩ = some (.slice none 0 0) := (blk_cell BK594.out 1).trans rfl; have hcz119_2 : w115.cell? ⟨gb594, 2, none⟩ = some (.slice none 0 0) := (blk_cell BK594.out 2).trans rfl; have hfz119_0 := blk_frozen BK594.out 0; have hfz119_1 := blk_frozen BK594.out 1; have hfz119_2 := blk_frozen BK594.out 2; obtain ⟨Ao120, co120, eo120⟩ := Kd.R_slice HO589.out; subst eo120; obtain ⟨Ao121, co121, eo121⟩ := Kd.S_slice HO592.out; subst eo121) | ((with_reducible refine gate_callee (f := 18) rfl ?_); refine goesL_ (some 56) rfl rfl Try.func18 (by kernel_rfl) rfl #[.agg #[.slice Ao116 t584.length co116, .slice Ao120 t587.length co120, .slice Ao121 t590.length co121], .agg #[.slice none 0 0, .slice none 0 0, .slice none 0 0]] rfl (by (try simp only [List.map_toArray, List.map_cons, List.map_nil]); first | done | rfl | (simp only [List.length_drop, List.length_take]; rfl)) ?_; (refine (examboardlaw24_same.calls kj4 _ _ t584 _ _ t587 _ _ t590 _ _ ([] : List Int) _ _ ([] : List Int) _ _ ([] : List (List Int)) true _ ?side1 ?side2 ?side3 ?side4 ?side5 ?side6 ?side7 ?side8 ?side9 ?side10 ?side11 ?side12 A109.out).mono ?_); (case side1 => refine (Kd.R_reads' (e := 3) (base := w.heap.size) (ok := fun k_ => ((some k_ ≠ (.slice Ao120 t587.length co120 : Value).ownBlock ∧ some k_ ≠ (.slice Ao10 t571.length co10 : Value).ownBlock) ∧ some k_ ≠ (.slice Ao13 t574.length co13 : Value).ownBlock)) (n := t584.length) (c := co116) ?_).2.2; exact (Rm (Kd.R_mono (Kd.R_far (p := ⟨gb594, 2, none⟩) (Kd.R_far (p := ⟨gb594, 1, none⟩) (Kd.R_far (p := ⟨gb594, 0, none⟩) (Kd.R_types HO586.out BK594.out (by decide)) (fun _ hk => hk.2) (.slice Ao116 t584.length co116)) (fun _ hk => hk.2) (.slice Ao120 t587.length co120)) (fun _ hk => hk.2) (.slice Ao121 t590.length co121)) (fun _ h_ => h_.1)))); (case side2 => exact (Kd.R_reads' HO586.out).2.1); (case side3 => refine (Kd.R_reads' (e := 3) (base := w.heap.size) (ok := fun k_ => ((some k_ ≠ (.slice Ao116 t584.length co116 : Value).ownBlock ∧ some k_ ≠ (.slice Ao10 t571.length co10 : Value).ownBlock) ∧ some k_ ≠ (.slice Ao13 t574.length co13 : Value).ownBlock)) (n := t587.length) (c := co120) ?_).2.2; exact (Rm (Kd.R_mono (Kd.R_far (p := ⟨gb594, 2, none⟩) (Kd.R_far (p := ⟨gb594, 1, none⟩) (Kd.R_far (p := ⟨gb594, 0, none⟩) (Kd.R_types HO589.out BK594.out (by decide)) (fun _ hk => hk.2) (.slice Ao116 t584.length co116)) (fun _ hk => hk.2) (.slice Ao120 t587.length co120)) (fun _ hk => hk.2) (.slice Ao121 t590.length co121)) (fun _ h_ => h_.1)))); (case side4 => exact (Kd.R_reads' HO589.out).2.1); (case side5 => refine (Kd.S_reads' (e := 36) (base := w.heap.size) (ok := fun k_ => ((((some k_ ≠ (.slice Ao116 t584.length co116 : Value).ownBlock ∧ some k_ ≠ (.slice Ao120 t587.length co120 : Value).ownBlock) ∧ some k_ ≠ (.slice Ao10 t571.length co10 : Value).ownBlock) ∧ some k_ ≠ (.slice Ao13 t574.length co13 : Value).ownBlock) ∧ some k_ ≠ (.slice Ao14 t577.length co14 : Value).ownBlock)) (n := t590.length) (c := co121) ?_).2.2; exact (Sm (Kd.S_mono (Kd.S_far (p := ⟨gb594, 2, none⟩) (Kd.S_far (p := ⟨gb594, 1, none⟩) (Kd.S_far (p := ⟨gb594, 0, none⟩) (Kd.S_types HO592.out BK594.out (by decide)) (fun _ hk => hk.2) (.slice Ao116 t584.length co116)) (fun _ hk => hk.2) (.slice Ao120 t587.length co120)) (fun _ hk => hk.2) (.slice Ao121 t590.length co121)) (fun _ h_ => h_.1)))); (case side6 => exact (Kd.S_reads' HO592.out).2.1); (case side7 => exact Kd.C_nil _ _); (case side8 => exact Nat.le_refl _); (case side9 => exact Kd.C_nil _ _); (case side10 => exact Nat.le_refl _); (case side11 => exact Kd.C_nil _ _); (case side12 => exact Nat.le_refl _); rintro e w122 ⟨rfl, hb⟩; refine ⟨_, rfl, ?_⟩; have n0_ := Am (Kd.R_below (Rm (Kd.R_mono (Kd.R_far (p := ⟨gb594, 2, none⟩) (Kd.R_far (p := ⟨gb594, 1, none⟩) (Kd.R_far (p := ⟨gb594, 0, none⟩) (Kd.R_types HO_582000.out BK594.out (by decide)) (fun _ hk => hk.2) (.slice Ao116 t584.length co116)) (fun _ hk => hk.2) (.slice Ao120 t587.length co120)) (fun _ hk => hk.2) (.slice Ao121 t590.length co121)) (fun _ h_ => h_.1))) hb); have n1_ := Am (Kd.R_below (Rm (Kd.R_mono (Kd.R_far (p := ⟨gb594, 2, none⟩) (Kd.R_far (p := ⟨gb594, 1, none⟩) (Kd.R_far (p := ⟨gb594, 0, none⟩) (Kd.R_types HO_582001.out BK594.out (by decide)) (fun _ hk => hk.2) (.slice Ao116 t584.length co116)) (fun _ hk => hk.2) (.slice Ao120 t587.length co120)) (fun _ hk => hk.2) (.slice Ao121 t590.length co121)) (fun _ h_ => h_.1))) hb); have n2_ := Am (Kd.S_below (Sm (Kd.S_mono (Kd.S_far (p := ⟨gb594, 2, none⟩) (Kd.S_far (p := ⟨gb594, 1, none⟩) (Kd.S_far (p := ⟨gb594, 0, none⟩) (Kd.S_types HO_582002.out BK594.out (by decide)) (fun _ hk => hk.2) (.slice Ao116 t584.length co116)) (fun _ hk => hk.2) (.slice Ao120 t587.length co120)) (fun _ hk => hk.2) (.slice Ao121 t590.length co121)) (fun _ h_ => h_.1))) hb); have n3_ := Am (Kd.R_below (Rm (Kd.R_mono (Kd.R_far (p := ⟨gb594, 2, none⟩) (Kd.R_far (p := ⟨gb594, 1, none⟩) (Kd.R_far (p := ⟨gb594, 0, none⟩) (Kd.R_types HO586.out BK594.out (by decide)) (fun _ hk => hk.2) (.slice Ao116 t584.length co116)) (fun _ hk => hk.2) (.slice Ao120 t587.length co120)) (fun _ hk => hk.2) (.slice Ao121 t590.length co121)) (fun _ h_ => h_.1))) hb); have n4_ := Am (Kd.R_below (Rm (Kd.R_mono (Kd.R_far (p := ⟨gb594, 2, none⟩) (Kd.R_far (p := ⟨gb594, 1, none⟩) (Kd.R_far (p := ⟨gb594, 0, none⟩) (Kd.R_types HO589.out BK594.out (by decide)) (fun _ hk => hk.2) (.slice Ao116 t584.length co116)) (fun _ hk => hk.2) (.slice Ao120 t587.length co120)) (fun _ hk => hk.2) (.slice Ao121 t590.length co121)) (fun _ h_ => h_.1))) hb); have n5_ := Am (Kd.S_below (Sm (Kd.S_mono (Kd.S_far (p := ⟨gb594, 2, none⟩) (Kd.S_far (p := ⟨gb594, 1, none⟩) (Kd.S_far (p := ⟨gb594, 0, none⟩) (Kd.S_types HO592.out BK594.out (by decide)) (fun _ hk => hk.2) (.slice Ao116 t584.length co116)) (fun _ hk => hk.2) (.slice Ao120 t587.length co120)) (fun _ hk => hk.2) (.slice Ao121 t590.length co121)) (fun _ h_ => h_.1))) hb); have n6_ := Am (blk_below (g := gb570) (o := .cells #[.slice A0_0 l0_0.length c0_0, .slice A0_1 l0_1.length c0_1, .slice A0_2 l0_2.length c0_2] 39 (0, 0)) (by refine Kp ?_; refine blk_far ?_ NB570_594.out _; refine Kp ?_; refine blk_far ?_ NB570_594.out _; refine Kp ?_; refine blk_far ?_ NB570_594.out _; refine Kp ?_; exact BK570.out) hb); have n7_ := Am (blk_below (g := gb581) (o := .cells #[.slice Ao10 t571.length co10, .slice Ao13 t574.length co13, .slice Ao14 t577.length co14] 39 (0, 0)) (by refine Kp ?_; refine blk_far ?_ NB581_594.out _; refine Kp ?_; refine blk_far ?_ NB581_594.out _; refine Kp ?_; refine blk_far ?_ NB581_594.out _; refine Kp ?_; exact BK581.out) hb); have n8_ := Am (blk_below (g := gb594) (o := .cells #[.slice Ao116 t584.length co116, .slice Ao120 t587.length co120, .slice Ao121 t590.length co121] 39 (0, 0)) (by refine Kp ?_; refine blk_put (cs := #[.slice Ao116 t584.length co116, .slice Ao120 t587.length co120, .slice none 0 0]) ?_ 2 _ rfl; refine Kp ?_; refine blk_put (cs := #[.slice Ao116 t584.length co116, .slice none 0 0, .slice none 0 0]) ?_ 1 _ rfl; refine Kp ?_; refine blk_put (cs := #[.slice none 0 0, .slice none 0 0, .slice none 0 0]) ?_ 0 _ rfl; refine Kp ?_; exact BK594.out) hb); have n9_ := Am (below_step (by repeat first | exact Bl HB | refine Bp (below_set ?_ GE570.out) | refine Bp (below_set ?_ GE581.out) | refine Bp (below_set ?_ GE594.out)) hb); clear HO_582000 HO_582001 HO_582002 HO586 HO589 HO592 BK570 BK581 BK594 HB; have HO_582000 := n0_; have HO_582001 := n1_; have HO_582002 := n2_; have HO586 := n3_; have HO589 := n4_; have HO592 := n5_; have BK570 := n6_; have BK581 := n7_; have BK594 := n8_; have HB := n9_; clear n0_ n1_ n2_ n3_ n4_ n5_ n6_ n7_ n8_ n9_; (try clear hb); (try clear hb2); (try clear hk); (try clear hi)) | (go_at_call 15; (with_reducible refine (examboardlaw24_awake.calls kj4  t596 _ A111.out).mono ?_); rintro e w123 ⟨rfl, hb⟩; have n0_ := Am (Kd.R_below (Rl HO_582000) hb); have n1_ := Am (Kd.R_below (Rl HO_582001) hb); have n2_ := Am (Kd.S_below (Sl HO_582002) hb); have n3_ := Am (Kd.R_below (Rl HO586) hb); have n4_ := Am (Kd.R_below (Rl HO589) hb); have n5_ := Am (Kd.S_below (Sl HO592) hb); have n6_ := Am (blk_below (Kl BK570) hb); have n7_ := Am (blk_below (Kl BK581) hb); have n8_ := Am (blk_below (Kl BK594) hb); have n9_ := Am (below_step (by repeat first | exact Bl HB | refine Bp (below_set ?_ GE570.out) | refine Bp (below_set ?_ GE581.out) | refine Bp (below_set ?_ GE594.out)) hb); clear HO_582000 HO_582001 HO_582002 HO586 HO589 HO592 BK570 BK581 BK594 HB; have HO_582000 := n0_; have HO_582001 := n1_; have HO_582002 := n2_; have HO586 := n3_; have HO589 := n4_; have HO592 := n5_; have BK570 := n6_; have BK581 := n7_; have BK594 := n8_; have HB := n9_; clear n0_ n1_ n2_ n3_ n4_ n5_ n6_ n7_ n8_ n9_; (try clear hb); (try clear hb2); (try clear hk); (try clear hi)))
      go_ret
      exact ⟨by first | rfl | (simp [errW_none, errW_some] <;> rfl) | (simp [*, errW_none, errW_some] <;> rfl), by repeat first | exact Bl HB | refine Bp (below_set ?_ GE570.out) | refine Bp (below_set ?_ GE581.out) | refine Bp (below_set ?_ GE594.out)⟩
     ·replace c110 := Bool.eq_false_iff.mpr c110
      subst c110
      have H1 : (none) = some r := by rw [if_neg (show ¬ (false = true) by decide)] at H; exact H
      clear H
      have H := H1
      clear H1
      exact absurd H (by simp)

end Go.Proofs.Ytgeplglggcoaiab.Matrix
