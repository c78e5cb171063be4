/- Lean functions and walks for Go functions of this seat, written by this claim's own program (wip/tools/xprint.py) over the kit's print. -/
import Derived.Test.YtgeplglggcoaiabMatrixx0
import Derived.Test.YtgeplglggcoaiabMatrixx10
import Derived.Test.YtgeplglggcoaiabMatrixx22
import Derived.Test.YtgeplglggcoaiabMatrixx28
import Derived.Test.YtgeplglggcoaiabMatrixx34
import Derived.Test.YtgeplglggcoaiabMatrixx42
namespace Go.Proofs.Ytgeplglggcoaiab.Matrix
open Go.RowKit Go.Sort Go.Proofs.YtgeplglggcoaiabMakec Go.Proofs.YtgeplglggcoaiabW.PrintWords Go.Proofs.YtgeplglggcoaiabW.PrintLast Go.Proofs.YtgeplglggcoaiabW.PrintMore
attribute [local go_sem] max2_int min2_int max_two min_two max_three min_three max_four min_four   -- for this text's walks alone
set_option linter.unusedVariables false
set_option linter.unusedSimpArgs false

/-! ### examboardlaw24_MatrixUnion: function 9 -/
mutual
def examboardlaw24_MatrixUnion.j0 : Nat → Int → Bool → List Int → List Int → List (List Int) → List Int → List Int → List (List Int) → List Int → List Int → List (List Int) → Option (Bool)
 | 0, _, _, _, _, _, _, _, _, _, _, _ => none
 | k + 1, x6, x7, x637000, x637001, x637002, x638000, x638001, x638002, x649000, x649001, x649002 => (examboardlaw24_fits.f k x637000 x637001 x637002).bind fun t649 => (if t649 = true then (if ((x6 == 0) != x7) = true then (none) else (if x6 = 0 then ((examboardlaw24_same.f k x649000 x649001 x649002 x637000 x637001 x637002).bind fun t650 => (examboardlaw24_MatrixUnion.j1 k (!t650) x637000 x637001 x637002 x638000 x638001 x638002)) else (examboardlaw24_MatrixUnion.j1 k false x637000 x637001 x637002 x638000 x638001 x638002))) else (if ((x6 == 0) != false) = true then (none) else (if x6 = 0 then ((examboardlaw24_same.f k x649000 x649001 x649002 x637000 x637001 x637002).bind fun t651 => (examboardlaw24_MatrixUnion.j1 k (!t651) x637000 x637001 x637002 x638000 x638001 x638002)) else (examboardlaw24_MatrixUnion.j1 k false x637000 x637001 x637002 x638000 x638001 x638002))))
def examboardlaw24_MatrixUnion.j1 : Nat → Bool → List Int → List Int → List (List Int) → List Int → List Int → List (List Int) → Option (Bool)
 | 0, _, _, _, _, _, _, _ => none
 | k + 1, x49, x637000, x637001, x637002, x638000, x638001, x638002 => if x49 = true then (none) else ((matrix_Merge.f k x637000 x637001 x637002 x638000 x638001 x638002).bind fun bt652 => ((matrix_Merge.f k x638000 x638001 x638002 x637000 x637001 x637002).bind fun bt663 => (if bt652.2.2.2 = bt663.2.2.2 then ((examboardlaw24_same.f k bt652.1 bt652.2.1 bt652.2.2.1 bt663.1 bt663.2.1 bt663.2.2.1).bind fun t674 => (examboardlaw24_MatrixUnion.j2 k bt652.2.2.2 (!t674) x637000 x637001 x637002 x638000 x638001 x638002 bt652.1 bt652.2.1 bt652.2.2.1)) else (none))))
def examboardlaw24_MatrixUnion.j2 : Nat → Int → Bool → List Int → List Int → List (List Int) → List Int → List Int → List (List Int) → List Int → List Int → List (List Int) → Option (Bool)
 | 0, _, _, _, _, _, _, _, _, _, _, _ => none
 | k + 1, x9, x70, x637000, x637001, x637002, x638000, x638001, x638002, x663000, x663001, x663002 => if x70 = true then (none) else (if x9 = 0 then ((matrix_Select.f k x663000 x663001 x663002 x637000 x637001).bind fun bt676 => ((matrix_Select.f k x663000 x663001 x663002 x638000 x638001).bind fun bt687 => (if bt676.2.2.2 = 0 then (if bt687.2.2.2 = 0 then ((examboardlaw24_same.f k bt676.1 bt676.2.1 bt676.2.2.1 x637000 x637001 x637002).bind fun t698 => (if t698 = true then ((examboardlaw24_same.f k bt687.1 bt687.2.1 bt687.2.2.1 x638000 x638001 x638002).bind fun t699 => (if t699 = true then ((examboardlaw24_awake.f k).bind fun t700 => (some t700)) else (none))) else (none))) else (none)) else (none)))) else ((examboardlaw24_awake.f k).bind fun t675 => (some t675)))
end
def examboardlaw24_MatrixUnion.f (k : Nat) (l0_0 : List Int) (l0_1 : List Int) (l0_2 : List (List Int)) (l1_0 : List Int) (l1_1 : List Int) (l1_2 : List (List Int)) : Option (Bool) := (matrix_Merge.f k l0_0 l0_1 l0_2 l0_0 l0_1 l0_2).bind fun bt638 => (if (l0_0.length : Int) ≤ 200 then (examboardlaw24_MatrixUnion.j0 k bt638.2.2.2 (decide ((l0_1.length : Int) ≤ 60)) l0_0 l0_1 l0_2 l1_0 l1_1 l1_2 bt638.1 bt638.2.1 bt638.2.2.1) else (examboardlaw24_MatrixUnion.j0 k bt638.2.2.2 false l0_0 l0_1 l0_2 l1_0 l1_1 l1_2 bt638.1 bt638.2.1 bt638.2.2.1))
theorem examboardlaw24_MatrixUnion.mono_l : ∀ k, (∀ y0 y1 y2 y3 y4 y5 y6 y7 y8 y9 y10, LeO (examboardlaw24_MatrixUnion.j0 k y0 y1 y2 y3 y4 y5 y6 y7 y8 y9 y10) (examboardlaw24_MatrixUnion.j0 (k + 1) y0 y1 y2 y3 y4 y5 y6 y7 y8 y9 y10)) ∧ (∀ y0 y1 y2 y3 y4 y5 y6, LeO (examboardlaw24_MatrixUnion.j1 k y0 y1 y2 y3 y4 y5 y6) (examboardlaw24_MatrixUnion.j1 (k + 1) y0 y1 y2 y3 y4 y5 y6)) ∧ (∀ y0 y1 y2 y3 y4 y5 y6 y7 y8 y9 y10, LeO (examboardlaw24_MatrixUnion.j2 k y0 y1 y2 y3 y4 y5 y6 y7 y8 y9 y10) (examboardlaw24_MatrixUnion.j2 (k + 1) y0 y1 y2 y3 y4 y5 y6 y7 y8 y9 y10))
 | 0 => ⟨fun _ _ _ _ _ _ _ _ _ _ _ r h => by simp [examboardlaw24_MatrixUnion.j0] at h, fun _ _ _ _ _ _ _ r h => by simp [examboardlaw24_MatrixUnion.j1] at h, fun _ _ _ _ _ _ _ _ _ _ _ r h => by simp [examboardlaw24_MatrixUnion.j2] at h⟩
 | k + 1 => by
  obtain ⟨ih0, ih1, ih2⟩ := examboardlaw24_MatrixUnion.mono_l k
  refine ⟨?_, ?_, ?_⟩
  ·intro y0 y1 y2 y3 y4 y5 y6 y7 y8 y9 y10
   unfold examboardlaw24_MatrixUnion.j0
   repeat' first
   | (with_reducible exact ih0 _ _ _ _ _ _ _ _ _ _ _)
   | (with_reducible exact ih1 _ _ _ _ _ _ _)
   | (with_reducible exact ih2 _ _ _ _ _ _ _ _ _ _ _)
   | (with_reducible exact examboardlaw24_awake.mono _)
   | (with_reducible exact examboardlaw24_fits.mono _ _ _ _)
   | (with_reducible exact examboardlaw24_same.mono _ _ _ _ _ _ _)
   | (with_reducible exact matrix_Merge.mono _ _ _ _ _ _ _)
   | (with_reducible exact matrix_Select.mono _ _ _ _ _ _)
   | (with_reducible exact LeO.refl _)
   | (with_reducible exact LeO.none _)
   | (with_reducible refine LeO.ite ?_ ?_)
   | (with_reducible refine LeO.bind ?_ (fun _ => ?_))
   | exact ih0 _ _ _ _ _ _ _ _ _ _ _
   | exact ih1 _ _ _ _ _ _ _
   | exact ih2 _ _ _ _ _ _ _ _ _ _ _
   | exact examboardlaw24_awake.mono _
   | exact examboardlaw24_fits.mono _ _ _ _
   | exact examboardlaw24_same.mono _ _ _ _ _ _ _
   | exact matrix_Merge.mono _ _ _ _ _ _ _
   | exact matrix_Select.mono _ _ _ _ _ _
   | exact LeO.none _
   | refine LeO.ite ?_ ?_
   | refine LeO.bind ?_ (fun _ => ?_)
  ·intro y0 y1 y2 y3 y4 y5 y6
   unfold examboardlaw24_MatrixUnion.j1
   repeat' first
   | (with_reducible exact ih0 _ _ _ _ _ _ _ _ _ _ _)
   | (with_reducible exact ih1 _ _ _ _ _ _ _)
   | (with_reducible exact ih2 _ _ _ _ _ _ _ _ _ _ _)
   | (with_reducible exact examboardlaw24_awake.mono _)
   | (with_reducible exact examboardlaw24_fits.mono _ _ _ _)
   | (with_reducible exact examboardlaw24_same.mono _ _ _ _ _ _ _)
   | (with_reducible exact matrix_Merge.mono _ _ _ _ _ _ _)
   | (with_reducible exact matrix_Select.mono _ _ _ _ _ _)
   | (with_reducible exact LeO.refl _)
   | (with_reducible exact LeO.none _)
   | (with_reducible refine LeO.ite ?_ ?_)
   | (with_reducible refine LeO.bind ?_ (fun _ => ?_))
   | exact ih0 _ _ _ _ _ _ _ _ _ _ _
   | exact ih1 _ _ _ _ _ _ _
   | exact ih2 _ _ _ _ _ _ _ _ _ _ _
   | exact examboardlaw24_awake.mono _
   | exact examboardlaw24_fits.mono _ _ _ _
   | exact examboardlaw24_same.mono _ _ _ _ _ _ _
   | exact matrix_Merge.mono _ _ _ _ _ _ _
   | exact matrix_Select.mono _ _ _ _ _ _
   | exact LeO.none _
   | refine LeO.ite ?_ ?_
   | refine LeO.bind ?_ (fun _ => ?_)
  ·intro y0 y1 y2 y3 y4 y5 y6 y7 y8 y9 y10
   unfold examboardlaw24_MatrixUnion.j2
   repeat' first
   | (with_reducible exact ih0 _ _ _ _ _ _ _ _ _ _ _)
   | (with_reducible exact ih1 _ _ _ _ _ _ _)
   | (with_reducible exact ih2 _ _ _ _ _ _ _ _ _ _ _)
   | (with_reducible exact examboardlaw24_awake.mono _)
   | (with_reducible exact examboardlaw24_fits.mono _ _ _ _)
   | (with_reducible exact examboardlaw24_same.mono _ _ _ _ _ _ _)
   | (with_reducible exact matrix_Merge.mono _ _ _ _ _ _ _)
   | (with_reducible exact matrix_Select.mono _ _ _ _ _ _)
   | (with_reducible exact LeO.refl _)
   | (with_reducible exact LeO.none _)
   | (with_reducible refine LeO.ite ?_ ?_)
   | (with_reducible refine LeO.bind ?_ (fun _ => ?_))
   | exact ih0 _ _ _ _ _ _ _ _ _ _ _
   | exact ih1 _ _ _ _ _ _ _
   | exact ih2 _ _ _ _ _ _ _ _ _ _ _
   | exact examboardlaw24_awake.mono _
   | exact examboardlaw24_fits.mono _ _ _ _
   | exact examboardlaw24_same.mono _ _ _ _ _ _ _
   | exact matrix_Merge.mono _ _ _ _ _ _ _
   | exact matrix_Select.mono _ _ _ _ _ _
   | exact LeO.none _
   | refine LeO.ite ?_ ?_
   | refine LeO.bind ?_ (fun _ => ?_)
theorem examboardlaw24_MatrixUnion.mono : ∀ a0 a1 a2 a3 a4 a5 k, LeO (examboardlaw24_MatrixUnion.f k a0 a1 a2 a3 a4 a5) (examboardlaw24_MatrixUnion.f (k + 1) a0 a1 a2 a3 a4 a5) := by
 intro a0 a1 a2 a3 a4 a5 k
 obtain ⟨ih0, ih1, ih2⟩ := examboardlaw24_MatrixUnion.mono_l k
 unfold examboardlaw24_MatrixUnion.f
 repeat' first
   | (with_reducible exact ih0 _ _ _ _ _ _ _ _ _ _ _)
   | (with_reducible exact ih1 _ _ _ _ _ _ _)
   | (with_reducible exact ih2 _ _ _ _ _ _ _ _ _ _ _)
   | (with_reducible exact examboardlaw24_awake.mono _)
   | (with_reducible exact examboardlaw24_fits.mono _ _ _ _)
   | (with_reducible exact examboardlaw24_same.mono _ _ _ _ _ _ _)
   | (with_reducible exact matrix_Merge.mono _ _ _ _ _ _ _)
   | (with_reducible exact matrix_Select.mono _ _ _ _ _ _)
   | (with_reducible exact LeO.refl _)
   | (with_reducible exact LeO.none _)
   | (with_reducible refine LeO.ite ?_ ?_)
   | (with_reducible refine LeO.bind ?_ (fun _ => ?_))
   | exact ih0 _ _ _ _ _ _ _ _ _ _ _
   | exact ih1 _ _ _ _ _ _ _
   | exact ih2 _ _ _ _ _ _ _ _ _ _ _
   | exact examboardlaw24_awake.mono _
   | exact examboardlaw24_fits.mono _ _ _ _
   | exact examboardlaw24_same.mono _ _ _ _ _ _ _
   | exact matrix_Merge.mono _ _ _ _ _ _ _
   | exact matrix_Select.mono _ _ _ _ _ _
   | exact LeO.none _
   | refine LeO.ite ?_ ?_
   | refine LeO.bind ?_ (fun _ => ?_)
set_option maxHeartbeats 8000000 in
set_option maxRecDepth 100000 in
theorem examboardlaw24_MatrixUnion.calls (k : Nat) (A0_0 : Option Addr) (c0_0 : Nat) (l0_0 : List Int) (A0_1 : Option Addr) (c0_1 : Nat) (l0_1 : List Int) (A0_2 : Option Addr) (c0_2 : Nat) (l0_2 : List (List Int)) (A1_0 : Option Addr) (c1_0 : Nat) (l1_0 : List Int) (A1_1 : Option Addr) (c1_1 : Nat) (l1_1 : List Int) (A1_2 : Option Addr) (c1_2 : Nat) (l1_2 : List (List Int)) (r : Bool) (w : World) (hr0_0 : Kd.C (Kd.int .i64) w A0_0 l0_0.length l0_0) (hc0_0 : l0_0.length ≤ c0_0) (hr0_1 : Kd.C (Kd.int .i64) w A0_1 l0_1.length l0_1) (hc0_1 : l0_1.length ≤ c0_1) (hr0_2 : Kd.C (Kd.slice 3 (Kd.int .i64)) w A0_2 l0_2.length l0_2) (hc0_2 : l0_2.length ≤ c0_2) (hr1_0 : Kd.C (Kd.int .i64) w A1_0 l1_0.length l1_0) (hc1_0 : l1_0.length ≤ c1_0) (hr1_1 : Kd.C (Kd.int .i64) w A1_1 l1_1.length l1_1) (hc1_1 : l1_1.length ≤ c1_1) (hr1_2 : Kd.C (Kd.slice 3 (Kd.int .i64)) w A1_2 l1_2.length l1_2) (hc1_2 : l1_2.length ≤ c1_2) (h : examboardlaw24_MatrixUnion.f k l0_0 l0_1 l0_2 l1_0 l1_1 l1_2 = some r) :
  Calls Try.prog 9 #[.agg #[.slice A0_0 l0_0.length c0_0, .slice A0_1 l0_1.length c0_1, .slice A0_2 l0_2.length c0_2], .agg #[.slice A1_0 l1_0.length c1_0, .slice A1_1 l1_1.length c1_1, .slice A1_2 l1_2.length c1_2]] w fun e w' => e = .returned (.bool r) ∧ Below w.heap.size w w' := by
 have hu39 := Try.underlying39
 have HR0_0 := Am hr0_0
 have HC0_0 := Am hc0_0
 clear hr0_0 hc0_0
 have HR0_1 := Am hr0_1
 have HC0_1 := Am hc0_1
 clear hr0_1 hc0_1
 have HR0_2 := Am hr0_2
 have HC0_2 := Am hc0_2
 clear hr0_2 hc0_2
 have HR1_0 := Am hr1_0
 have HC1_0 := Am hc1_0
 clear hr1_0 hc1_0
 have HR1_1 := Am hr1_1
 have HC1_1 := Am hc1_1
 clear hr1_1 hc1_1
 have HR1_2 := Am hr1_2
 have HC1_2 := Am hc1_2
 clear hr1_2 hc1_2
 have HB := Am (Below.refl w.heap.size w)
 have H : ((matrix_Merge.f k l0_0 l0_1 l0_2 l0_0 l0_1 l0_2).bind fun bt638 => (if (l0_0.length : Int) ≤ 200 then (examboardlaw24_MatrixUnion.j0 k bt638.2.2.2 (decide ((l0_1.length : Int) ≤ 60)) l0_0 l0_1 l0_2 l1_0 l1_1 l1_2 bt638.1 bt638.2.1 bt638.2.2.1) else (examboardlaw24_MatrixUnion.j0 k bt638.2.2.2 false l0_0 l0_1 l0_2 l1_0 l1_1 l1_2 bt638.1 bt638.2.1 bt638.2.2.1))) = some r := h
 clear h
 replace H := Option.bind_eq_some_iff.mp H
 obtain ⟨⟨t638, t641, t644, t647⟩, A30, H⟩ := H
 replace H : (if (l0_0.length : Int) ≤ 200 then (examboardlaw24_MatrixUnion.j0 k t647 (decide ((l0_1.length : Int) ≤ 60)) l0_0 l0_1 l0_2 l1_0 l1_1 l1_2 t638 t641 t644) else (examboardlaw24_MatrixUnion.j0 k t647 false l0_0 l0_1 l0_2 l1_0 l1_1 l1_2 t638 t641 t644)) = some r := H
 have A3 := Am A30
 clear A30
 have HC4 := Am H
 clear H
 go_enter Try.func9, Try.ntmps9
 go_upto_region 2 with (first | ((with_reducible refine gate_dst (N := 2) rfl ?_); (try (refine gate_guard (by rfl) ?_; dsimp only)); refine box_event ?hg (N := 2) ?hd (cs := #[.slice A0_0 l0_0.length c0_0, .slice A0_1 l0_1.length c0_1, .slice A0_2 l0_2.length c0_2]) (t := 39) ?hr ?_; (case hd => rfl); (case hg => rfl); (case hr => first | (go_simp; done) | (go_simp; rfl)); intro gb636 hg w5 hbox hb; have n0_ := Am (below_step (Bl HB) hb); have n1_ := Am (hbox); have n2_ := Am ((by rw [hg]; exact (below_size (Bl HB)) : w.heap.size ≤ gb636)); have n3_ := Am ((by rw [hg]; exact (below_size (Bl HB)) : w.heap.size ≤ gb636)); clear HB; have HB := n0_; have BK636 := n1_; have GW636 := n2_; have GE636 := n3_; clear n0_ n1_ n2_ n3_; clear hb hbox hg) | ((with_reducible refine gate_dst (N := 3) rfl ?_); (try (refine gate_guard (by rfl) ?_; dsimp only)); refine box_event ?hg (N := 3) ?hd (cs := #[.slice A1_0 l1_0.length c1_0, .slice A1_1 l1_1.length c1_1, .slice A1_2 l1_2.length c1_2]) (t := 39) ?hr ?_; (case hd => rfl); (case hg => rfl); (case hr => first | (go_simp; done) | (go_simp; rfl)); intro gb637 hg w6 hbox hb; have n0_ := Am (blk_below (Kl BK636) hb); have n1_ := Am (below_step (by repeat first | exact Bl HB | refine Bp (below_set ?_ GE636.out)) hb); have n2_ := Am (hbox); have n3_ := Am ((by rw [hg]; exact (below_size (by repeat first | exact Bl HB | refine Bp (below_set ?_ GE636.out))) : w.heap.size ≤ gb637)); have n4_ := Am ((by rw [hg]; exact (below_size (by repeat first | exact Bl HB | refine Bp (below_set ?_ GE636.out))) : w.heap.size ≤ gb637)); have n5_ := Am ((by rw [hg]; exact Nat.ne_of_lt (blk_lt (Kl BK636)) : gb636 ≠ gb637)); have n6_ := Am ((by rw [hg]; exact Nat.ne_of_gt (blk_lt (Kl BK636)) : gb637 ≠ gb636)); clear BK636 HB; have BK636 := n0_; have HB := n1_; have BK637 := n2_; have GW637 := n3_; have GE637 := n4_; have NB636_637 := n5_; have NB637_636 := n6_; clear n0_ n1_ n2_ n3_ n4_ n5_ n6_; clear hb hbox hg; have hnb7 := NB636_637.out; have hnc7 := NB637_636.out; have hcz8_0 : w6.cell? ⟨gb636, 0, none⟩ = some (.slice A0_0 l0_0.length c0_0) := (blk_cell BK636.out 0).trans rfl; have hcz8_1 : w6.cell? ⟨gb636, 1, none⟩ = some (.slice A0_1 l0_1.length c0_1) := (blk_cell BK636.out 1).trans rfl; have hcz8_2 : w6.cell? ⟨gb636, 2, none⟩ = some (.slice A0_2 l0_2.length c0_2) := (blk_cell BK636.out 2).trans rfl; have hfz8_0 := blk_frozen BK636.out 0; have hfz8_1 := blk_frozen BK636.out 1; have hfz8_2 := blk_frozen BK636.out 2) | ((with_reducible refine gate_callee (f := 19) rfl ?_); refine goesL_ (some 19) rfl rfl Try.func19 (by kernel_rfl) rfl #[.agg #[.slice A0_0 l0_0.length c0_0, .slice A0_1 l0_1.length c0_1, .slice A0_2 l0_2.length c0_2], .agg #[.slice A0_0 l0_0.length c0_0, .slice A0_1 l0_1.length c0_1, .slice A0_2 l0_2.length c0_2]] rfl (by (try simp only [List.map_toArray, List.map_cons, List.map_nil]); first | done | rfl | (simp only [List.length_drop, List.length_take]; rfl)) ?_; (with_reducible refine (matrix_Merge.calls k _ _ l0_0 _ _ l0_1 _ _ l0_2 _ _ l0_0 _ _ l0_1 _ _ l0_2 t638 t641 t644 t647 _ ?side1 ?side2 ?side3 ?side4 ?side5 ?side6 ?side7 ?side8 ?side9 ?side10 ?side11 ?side12 A3.out).mono ?_); (case side1 => repeat (first | exact (Kd.C_below HR0_0.out HB.out) | (with_reducible refine Kd.C_alloc ?_ _) | (with_reducible refine Kd.C_drewN ?_ _) | (with_reducible refine Kd.C_drew ?_))); (case side2 => exact HC0_0.out); (case side3 => repeat (first | exact (Kd.C_below HR0_1.out HB.out) | (with_reducible refine Kd.C_alloc ?_ _) | (with_reducible refine Kd.C_drewN ?_ _) | (with_reducible refine Kd.C_drew ?_))); (case side4 => exact HC0_1.out); (case side5 => repeat (first | exact (Kd.C_below HR0_2.out HB.out) | (with_reducible refine Kd.C_alloc ?_ _) | (with_reducible refine Kd.C_drewN ?_ _) | (with_reducible refine Kd.C_drew ?_))); (case side6 => exact HC0_2.out); (case side7 => repeat (first | exact (Kd.C_below HR0_0.out HB.out) | (with_reducible refine Kd.C_alloc ?_ _) | (with_reducible refine Kd.C_drewN ?_ _) | (with_reducible refine Kd.C_drew ?_))); (case side8 => exact HC0_0.out); (case side9 => repeat (first | exact (Kd.C_below HR0_1.out HB.out) | (with_reducible refine Kd.C_alloc ?_ _) | (with_reducible refine Kd.C_drewN ?_ _) | (with_reducible refine Kd.C_drew ?_))); (case side10 => exact HC0_1.out); (case side11 => repeat (first | exact (Kd.C_below HR0_2.out HB.out) | (with_reducible refine Kd.C_alloc ?_ _) | (with_reducible refine Kd.C_drewN ?_ _) | (with_reducible refine Kd.C_drew ?_))); (case side12 => exact HC0_2.out); rintro e w9 ⟨v639, v642, v645, rfl, ho0, ho1, ho2, hb⟩; refine ⟨_, rfl, ?_⟩; have n0_ := Am (Kd.R_lower ho0 (below_size (by repeat first | exact Bl HB | refine Bp (below_set ?_ GE636.out) | refine Bp (below_set ?_ GE637.out)))); have n1_ := Am (Kd.R_lower ho1 (below_size (by repeat first | exact Bl HB | refine Bp (below_set ?_ GE636.out) | refine Bp (below_set ?_ GE637.out)))); have n2_ := Am (Kd.S_lower ho2 (below_size (by repeat first | exact Bl HB | refine Bp (below_set ?_ GE636.out) | refine Bp (below_set ?_ GE637.out)))); have n3_ := Am (blk_below (Kl BK636) hb); have n4_ := Am (blk_below (Kl BK637) hb); have n5_ := Am (below_step (by repeat first | exact Bl HB | refine Bp (below_set ?_ GE636.out) | refine Bp (below_set ?_ GE637.out)) hb); clear BK636 BK637 HB; have HO640 := n0_; have HO643 := n1_; have HO646 := n2_; have BK636 := n3_; have BK637 := n4_; have HB := n5_; clear n0_ n1_ n2_ n3_ n4_ n5_; (try clear hb); (try clear hb2); (try clear hk); (try clear hi); (try clear ho0); (try clear ho1); (try clear ho2)) | ((with_reducible refine gate_dst (N := 5) rfl ?_); (try (refine gate_guard (by rfl) ?_; dsimp only)); refine box_event ?hg (N := 5) ?hd (cs := #[.slice none 0 0, .slice none 0 0, .slice none 0 0]) (t := 39) ?hr ?_; (case hd => rfl); (case hg => rfl); (case hr => first | (go_simp; done) | (go_simp; rfl)); intro gb648 hg w10 hbox hb; have n0_ := Am (Kd.R_below (Rl HO640) hb); have n1_ := Am (Kd.R_below (Rl HO643) hb); have n2_ := Am (Kd.S_below (Sl HO646) hb); have n3_ := Am (blk_below (Kl BK636) hb); have n4_ := Am (blk_below (Kl BK637) hb); have n5_ := Am (below_step (by repeat first | exact Bl HB | refine Bp (below_set ?_ GE636.out) | refine Bp (below_set ?_ GE637.out)) hb); have n6_ := Am (hbox); have n7_ := Am ((by rw [hg]; exact (below_size (by repeat first | exact Bl HB | refine Bp (below_set ?_ GE636.out) | refine Bp (below_set ?_ GE637.out))) : w.heap.size ≤ gb648)); have n8_ := Am ((by rw [hg]; exact (below_size (by repeat first | exact Bl HB | refine Bp (below_set ?_ GE636.out) | refine Bp (below_set ?_ GE637.out))) : w.heap.size ≤ gb648)); have n9_ := Am ((by rw [hg]; exact Nat.ne_of_lt (blk_lt (Kl BK636)) : gb636 ≠ gb648)); have n10_ := Am ((by rw [hg]; exact Nat.ne_of_gt (blk_lt (Kl BK636)) : gb648 ≠ gb636)); have n11_ := Am ((by rw [hg]; exact Nat.ne_of_lt (blk_lt (Kl BK637)) : gb637 ≠ gb648)); have n12_ := Am ((by rw [hg]; exact Nat.ne_of_gt (blk_lt (Kl BK637)) : gb648 ≠ gb637)); clear HO640 HO643 HO646 BK636 BK637 HB; have HO640 := n0_; have HO643 := n1_; have HO646 := n2_; have BK636 := n3_; have BK637 := n4_; have HB := n5_; have BK648 := n6_; have GW648 := n7_; have GE648 := n8_; have NB636_648 := n9_; have NB648_636 := n10_; have NB637_648 := n11_; have NB648_637 := n12_; clear n0_ n1_ n2_ n3_ n4_ n5_ n6_ n7_ n8_ n9_ n10_ n11_ n12_; clear hb hbox hg; obtain ⟨Ao11, co11, eo11⟩ := Kd.R_slice HO640.out; subst eo11; have hnb12 := NB648_636.out; have hnc12 := NB636_648.out; have hnb13 := NB648_637.out; have hnc13 := NB637_648.out; have hcz14_0 : w10.cell? ⟨gb648, 0, none⟩ = some (.slice none 0 0) := (blk_cell BK648.out 0).trans rfl; have hcz14_1 : w10.cell? ⟨gb648, 1, none⟩ = some (.slice none 0 0) := (blk_cell BK648.out 1).trans rfl; have hcz14_2 : w10.cell? ⟨gb648, 2, none⟩ = some (.slice none 0 0) := (blk_cell BK648.out 2).trans rfl; have hfz14_0 := blk_frozen BK648.out 0; have hfz14_1 := blk_frozen BK648.out 1; have hfz14_2 := blk_frozen BK648.out 2; obtain ⟨Ao15, co15, eo15⟩ := Kd.R_slice HO643.out; subst eo15; obtain ⟨Ao16, co16, eo16⟩ := Kd.S_slice HO646.out; subst eo16))
 (try simp only [Act.put, List.setIfInBounds_toArray, List.set_cons_zero, List.set_cons_succ])
 go_cut [7] (fun v7 wc => ∃ (kq : Nat) (x7_3 : Bool), v7 = .bool x7_3 ∧ Aside0 (examboardlaw24_MatrixUnion.j0 kq t647 x7_3 l0_0 l0_1 l0_2 l1_0 l1_1 l1_2 t638 t641 t644 = some r) ∧ Aside0 (kq ≤ k) ∧ Aside0 (Kd.R (Kd.int .i64) 3 wc w.heap.size (fun k_ => some k_ ≠ ((.slice Ao15 t641.length co15) : Value).ownBlock) (.slice Ao11 t638.length co11) t638) ∧ Aside0 (Kd.R (Kd.int .i64) 3 wc w.heap.size (fun k_ => some k_ ≠ ((.slice Ao11 t638.length co11) : Value).ownBlock) (.slice Ao15 t641.length co15) t641) ∧ Aside0 (Kd.S (Kd.slice 3 (Kd.int .i64)) 36 wc w.heap.size (fun k_ => some k_ ≠ ((.slice Ao11 t638.length co11) : Value).ownBlock ∧ some k_ ≠ ((.slice Ao15 t641.length co15) : Value).ownBlock) (.slice Ao16 t644.length co16) t644) ∧ Aside0 (wc.heap[gb636]? = some (.cells #[(.slice A0_0 l0_0.length c0_0), (.slice A0_1 l0_1.length c0_1), (.slice A0_2 l0_2.length c0_2)] 39 (0, 0))) ∧ Aside0 (wc.heap[gb637]? = some (.cells #[(.slice A1_0 l1_0.length c1_0), (.slice A1_1 l1_1.length c1_1), (.slice A1_2 l1_2.length c1_2)] 39 (0, 0))) ∧ Aside0 (wc.heap[gb648]? = some (.cells #[(.slice Ao11 t638.length co11), (.slice Ao15 t641.length co15), (.slice Ao16 t644.length co16)] 39 (0, 0))) ∧ Aside0 (Below w.heap.size w wc))
 case first =>
  have H := HC4.out
  clear HC4
  by_cases c17 : (l0_0.length : Int) ≤ 200
  ·rw [if_pos c17] at H
   have c17b0 : decide ((l0_0.length : Int) ≤ 200) = true := decide_eq_true c17
   have c17b1 : decide (l0_0.length ≤ 200) = true := decide_eq_true (by omega)
   clear c17
   (first | rw [c17b0] | (simp only [i64_w, i32_w]; rw [c17b0]) | skip)
   have H' := Am H
   clear H
   have hnb18 := NB636_637.out
   have hnc18 := NB637_636.out
   have hnb19 := NB636_648.out
   have hnc19 := NB648_636.out
   have hcz20_0 : w10.cell? ⟨gb636, 0, none⟩ = some (.slice A0_0 l0_0.length c0_0) := (blk_cell BK636.out 0).trans rfl
   have hcz20_1 : w10.cell? ⟨gb636, 1, none⟩ = some (.slice A0_1 l0_1.length c0_1) := (blk_cell BK636.out 1).trans rfl
   have hcz20_2 : w10.cell? ⟨gb636, 2, none⟩ = some (.slice A0_2 l0_2.length c0_2) := (blk_cell BK636.out 2).trans rfl
   have hfz20_0 := blk_frozen BK636.out 0
   have hfz20_1 := blk_frozen BK636.out 1
   have hfz20_2 := blk_frozen BK636.out 2
   go_wp2
   go_meet
   case rel => exact ⟨_, (decide ((l0_1.length : Int) ≤ 60)), (by first | rfl | (simp; done) | (simp [*]; done)), H', ⟨by first | omega | exact Nat.le_refl _⟩, ⟨Rm (Kd.R_mono (Kd.R_far (p := ⟨gb648, 2, none⟩) (Kd.R_far (p := ⟨gb648, 1, none⟩) (Kd.R_far (p := ⟨gb648, 0, none⟩) (Kd.R_types HO640.out BK648.out (by decide)) (fun _ hk => hk.2) (.slice Ao11 t638.length co11)) (fun _ hk => hk.2) (.slice Ao15 t641.length co15)) (fun _ hk => hk.2) (.slice Ao16 t644.length co16)) (fun _ hk => hk.1))⟩, ⟨Rm (Kd.R_mono (Kd.R_far (p := ⟨gb648, 2, none⟩) (Kd.R_far (p := ⟨gb648, 1, none⟩) (Kd.R_far (p := ⟨gb648, 0, none⟩) (Kd.R_types HO643.out BK648.out (by decide)) (fun _ hk => hk.2) (.slice Ao11 t638.length co11)) (fun _ hk => hk.2) (.slice Ao15 t641.length co15)) (fun _ hk => hk.2) (.slice Ao16 t644.length co16)) (fun _ hk => hk.1))⟩, ⟨Sm (Kd.S_mono (Kd.S_far (p := ⟨gb648, 2, none⟩) (Kd.S_far (p := ⟨gb648, 1, none⟩) (Kd.S_far (p := ⟨gb648, 0, none⟩) (Kd.S_types HO646.out BK648.out (by decide)) (fun _ hk => hk.2) (.slice Ao11 t638.length co11)) (fun _ hk => hk.2) (.slice Ao15 t641.length co15)) (fun _ hk => hk.2) (.slice Ao16 t644.length co16)) (fun _ hk => ⟨hk.1.1, hk.1.2⟩))⟩, ⟨by refine Kp ?_; refine blk_far ?_ NB636_648.out _; refine Kp ?_; refine blk_far ?_ NB636_648.out _; refine Kp ?_; refine blk_far ?_ NB636_648.out _; refine Kp ?_; exact BK636.out⟩, ⟨by refine Kp ?_; refine blk_far ?_ NB637_648.out _; refine Kp ?_; refine blk_far ?_ NB637_648.out _; refine Kp ?_; refine blk_far ?_ NB637_648.out _; refine Kp ?_; exact BK637.out⟩, ⟨by refine Kp ?_; refine blk_put (cs := #[.slice Ao11 t638.length co11, .slice Ao15 t641.length co15, .slice none 0 0]) ?_ 2 _ rfl; refine Kp ?_; refine blk_put (cs := #[.slice Ao11 t638.length co11, .slice none 0 0, .slice none 0 0]) ?_ 1 _ rfl; refine Kp ?_; refine blk_put (cs := #[.slice none 0 0, .slice none 0 0, .slice none 0 0]) ?_ 0 _ rfl; refine Kp ?_; exact BK648.out⟩, ⟨by repeat first | exact Bl HB | refine Bp (below_set ?_ GE636.out) | refine Bp (below_set ?_ GE637.out) | refine Bp (below_set ?_ GE648.out)⟩⟩
  ·rw [if_neg c17] at H
   have c17b0 : decide ((l0_0.length : Int) ≤ 200) = false := decide_eq_false c17
   have c17b1 : decide (l0_0.length ≤ 200) = false := decide_eq_false (by omega)
   clear c17
   (first | rw [c17b0] | (simp only [i64_w, i32_w]; rw [c17b0]) | skip)
   have H' := Am H
   clear H
   have hnb21 := NB636_637.out
   have hnc21 := NB637_636.out
   have hnb22 := NB636_648.out
   have hnc22 := NB648_636.out
   have hcz23_0 : w10.cell? ⟨gb636, 0, none⟩ = some (.slice A0_0 l0_0.length c0_0) := (blk_cell BK636.out 0).trans rfl
   have hcz23_1 : w10.cell? ⟨gb636, 1, none⟩ = some (.slice A0_1 l0_1.length c0_1) := (blk_cell BK636.out 1).trans rfl
   have hcz23_2 : w10.cell? ⟨gb636, 2, none⟩ = some (.slice A0_2 l0_2.length c0_2) := (blk_cell BK636.out 2).trans rfl
   have hfz23_0 := blk_frozen BK636.out 0
   have hfz23_1 := blk_frozen BK636.out 1
   have hfz23_2 := blk_frozen BK636.out 2
   go_wp2
   go_meet
   case rel => exact ⟨_, (false), (by first | rfl | (simp; done) | (simp [*]; done)), H', ⟨by first | omega | exact Nat.le_refl _⟩, ⟨Rm (Kd.R_mono (Kd.R_far (p := ⟨gb648, 2, none⟩) (Kd.R_far (p := ⟨gb648, 1, none⟩) (Kd.R_far (p := ⟨gb648, 0, none⟩) (Kd.R_types HO640.out BK648.out (by decide)) (fun _ hk => hk.2) (.slice Ao11 t638.length co11)) (fun _ hk => hk.2) (.slice Ao15 t641.length co15)) (fun _ hk => hk.2) (.slice Ao16 t644.length co16)) (fun _ hk => hk.1))⟩, ⟨Rm (Kd.R_mono (Kd.R_far (p := ⟨gb648, 2, none⟩) (Kd.R_far (p := ⟨gb648, 1, none⟩) (Kd.R_far (p := ⟨gb648, 0, none⟩) (Kd.R_types HO643.out BK648.out (by decide)) (fun _ hk => hk.2) (.slice Ao11 t638.length co11)) (fun _ hk => hk.2) (.slice Ao15 t641.length co15)) (fun _ hk => hk.2) (.slice Ao16 t644.length co16)) (fun _ hk => hk.1))⟩, ⟨Sm (Kd.S_mono (Kd.S_far (p := ⟨gb648, 2, none⟩) (Kd.S_far (p := ⟨gb648, 1, none⟩) (Kd.S_far (p := ⟨gb648, 0, none⟩) (Kd.S_types HO646.out BK648.out (by decide)) (fun _ hk => hk.2) (.slice Ao11 t638.length co11)) (fun _ hk => hk.2) (.slice Ao15 t641.length co15)) (fun _ hk => hk.2) (.slice Ao16 t644.length co16)) (fun _ hk => ⟨hk.1.1, hk.1.2⟩))⟩, ⟨by refine Kp ?_; refine blk_far ?_ NB636_648.out _; refine Kp ?_; refine blk_far ?_ NB636_648.out _; refine Kp ?_; refine blk_far ?_ NB636_648.out _; refine Kp ?_; exact BK636.out⟩, ⟨by refine Kp ?_; refine blk_far ?_ NB637_648.out _; refine Kp ?_; refine blk_far ?_ NB637_648.out _; refine Kp ?_; refine blk_far ?_ NB637_648.out _; refine Kp ?_; exact BK637.out⟩, ⟨by refine Kp ?_; refine blk_put (cs := #[.slice Ao11 t638.length co11, .slice Ao15 t641.length co15, .slice none 0 0]) ?_ 2 _ rfl; refine Kp ?_; refine blk_put (cs := #[.slice Ao11 t638.length co11, .slice none 0 0, .slice none 0 0]) ?_ 1 _ rfl; refine Kp ?_; refine blk_put (cs := #[.slice none 0 0, .slice none 0 0, .slice none 0 0]) ?_ 0 _ rfl; refine Kp ?_; exact BK648.out⟩, ⟨by repeat first | exact Bl HB | refine Bp (below_set ?_ GE636.out) | refine Bp (below_set ?_ GE637.out) | refine Bp (below_set ?_ GE648.out)⟩⟩
 case rest =>
  clear HC4
  try clear c1
  try clear c2
  try clear p2
  try clear c7
  try clear c9
  try clear c12
  try clear c13
  try clear c17
  try clear c17b0
  try clear c17b1
  try clear c18
  try clear c19
  try clear c21
  try clear c22
  try clear hcz14_0
  try clear hcz14_1
  try clear hcz14_2
  try clear hcz20_0
  try clear hcz20_1
  try clear hcz20_2
  try clear hcz23_0
  try clear hcz23_1
  try clear hcz23_2
  try clear hcz8_0
  try clear hcz8_1
  try clear hcz8_2
  try clear hfz14_0
  try clear hfz14_1
  try clear hfz14_2
  try clear hfz20_0
  try clear hfz20_1
  try clear hfz20_2
  try clear hfz23_0
  try clear hfz23_1
  try clear hfz23_2
  try clear hfz8_0
  try clear hfz8_1
  try clear hfz8_2
  obtain ⟨kq, x7_3, rfl, HA, HJ3, HO_649000, HO_649001, HO_649002, BK636, BK637, BK648, HB⟩ := hcut
  cases kq with
  | zero => exact absurd HA.out (by simp [examboardlaw24_MatrixUnion.j0])
  | succ kj3 =>
   have H := HA.out
   clear HA
   simp only [examboardlaw24_MatrixUnion.j0] at H
   have HC24 := Am H
   clear H
   go_upto_region 3 with (fail)
   go_cut [49] (fun v49 wc => ∃ (kq : Nat) (x49_23 : Bool), v49 = .bool x49_23 ∧ Aside0 (examboardlaw24_MatrixUnion.j1 kq x49_23 l0_0 l0_1 l0_2 l1_0 l1_1 l1_2 = some r) ∧ Aside0 (kq ≤ kj3) ∧ Aside0 (Kd.R (Kd.int .i64) 3 wc w.heap.size (fun k_ => some k_ ≠ ((.slice Ao15 t641.length co15) : Value).ownBlock) (.slice Ao11 t638.length co11) t638) ∧ Aside0 (Kd.R (Kd.int .i64) 3 wc w.heap.size (fun k_ => some k_ ≠ ((.slice Ao11 t638.length co11) : Value).ownBlock) (.slice Ao15 t641.length co15) t641) ∧ Aside0 (Kd.S (Kd.slice 3 (Kd.int .i64)) 36 wc w.heap.size (fun k_ => some k_ ≠ ((.slice Ao11 t638.length co11) : Value).ownBlock ∧ some k_ ≠ ((.slice Ao15 t641.length co15) : Value).ownBlock) (.slice Ao16 t644.length co16) t644) ∧ Aside0 (wc.heap[gb636]? = some (.cells #[(.slice A0_0 l0_0.length c0_0), (.slice A0_1 l0_1.length c0_1), (.slice A0_2 l0_2.length c0_2)] 39 (0, 0))) ∧ Aside0 (wc.heap[gb637]? = some (.cells #[(.slice A1_0 l1_0.length c1_0), (.slice A1_1 l1_1.length c1_1), (.slice A1_2 l1_2.length c1_2)] 39 (0, 0))) ∧ Aside0 (wc.heap[gb648]? = some (.cells #[(.slice Ao11 t638.length co11), (.slice Ao15 t641.length co15), (.slice Ao16 t644.length co16)] 39 (0, 0))) ∧ Aside0 (Below w.heap.size w wc))
   case first =>
    have H := HC24.out
    clear HC24
    replace H := Option.bind_eq_some_iff.mp H
    obtain ⟨t649, A250, H⟩ := H
    replace H : (if t649 = true then (if ((t647 == 0) != x7_3) = true then (none) else (if t647 = 0 then ((examboardlaw24_same.f kj3 t638 t641 t644 l0_0 l0_1 l0_2).bind fun t650 => (examboardlaw24_MatrixUnion.j1 kj3 (!t650) l0_0 l0_1 l0_2 l1_0 l1_1 l1_2)) else (examboardlaw24_MatrixUnion.j1 kj3 false l0_0 l0_1 l0_2 l1_0 l1_1 l1_2))) else (if ((t647 == 0) != false) = true then (none) else (if t647 = 0 then ((examboardlaw24_same.f kj3 t638 t641 t644 l0_0 l0_1 l0_2).bind fun t651 => (examboardlaw24_MatrixUnion.j1 kj3 (!t651) l0_0 l0_1 l0_2 l1_0 l1_1 l1_2)) else (examboardlaw24_MatrixUnion.j1 kj3 false l0_0 l0_1 l0_2 l1_0 l1_1 l1_2)))) = some r := H
    have A25 := Am A250
    clear A250
    by_cases c26 : t649 = true
    ·subst c26
     have H1 : (if ((t647 == 0) != x7_3) = true then (none) else (if t647 = 0 then ((examboardlaw24_same.f kj3 t638 t641 t644 l0_0 l0_1 l0_2).bind fun t650 => (examboardlaw24_MatrixUnion.j1 kj3 (!t650) l0_0 l0_1 l0_2 l1_0 l1_1 l1_2)) else (examboardlaw24_MatrixUnion.j1 kj3 false l0_0 l0_1 l0_2 l1_0 l1_1 l1_2))) = some r := by rw [if_pos rfl] at H; exact H
     clear H
     have H := H1
     clear H1
     by_cases c27 : ((t647 == 0) != x7_3) = true
     ·rw [if_pos c27] at H
      exact absurd H (by simp)
     ·rw [if_neg c27] at H
      have c27b0 : ((t647 == 0) != x7_3) = false := by simpa using c27
      (try (have c27b1 : decide ((t647 == 0) = x7_3) = true := by simpa using c27))
      (try (have c27b2 : ((t647 == 0) == x7_3) = true := by simpa using c27))
      clear c27
      (first | rw [c27b0] | (simp only [i64_w, i32_w]; rw [c27b0]) | skip)
      by_cases c28 : t647 = 0
      ·rw [if_pos c28] at H
       have c28b0 : (t647 == 0) = true := beq_iff_eq.mpr c28
       have c28b1 : (t647 != 0) = false := bne_eq_false_iff_eq.mpr c28
       clear c28
       obtain rfl : x7_3 = true := by have h_ := c27b0; rw [c28b0] at h_; revert h_; cases x7_3 <;> decide
       replace H := Option.bind_eq_some_iff.mp H
       obtain ⟨t650, A290, H⟩ := H
       replace H : (examboardlaw24_MatrixUnion.j1 kj3 (!t650) l0_0 l0_1 l0_2 l1_0 l1_1 l1_2) = some r := H
       have A29 := Am A290
       clear A290
       have H' := Am H
       clear H
       have hnb30 := NB636_637.out
       have hnc30 := NB637_636.out
       have hnb31 := NB636_648.out
       have hnc31 := NB648_636.out
       have hcz32_0 : wc.cell? ⟨gb636, 0, none⟩ = some (.slice A0_0 l0_0.length c0_0) := (blk_cell BK636.out 0).trans rfl
       have hcz32_1 : wc.cell? ⟨gb636, 1, none⟩ = some (.slice A0_1 l0_1.length c0_1) := (blk_cell BK636.out 1).trans rfl
       have hcz32_2 : wc.cell? ⟨gb636, 2, none⟩ = some (.slice A0_2 l0_2.length c0_2) := (blk_cell BK636.out 2).trans rfl
       have hfz32_0 := blk_frozen BK636.out 0
       have hfz32_1 := blk_frozen BK636.out 1
       have hfz32_2 := blk_frozen BK636.out 2
       go_wp2_with (first | ((with_reducible refine gate_callee (f := 24) rfl ?_); refine goesL_ (some 35) rfl rfl Try.func24 (by kernel_rfl) rfl #[.agg #[.slice A0_0 l0_0.length c0_0, .slice A0_1 l0_1.length c0_1, .slice A0_2 l0_2.length c0_2]] rfl (by (try simp only [List.map_toArray, List.map_cons, List.map_nil]); first | done | rfl | (simp only [List.length_drop, List.length_take]; rfl)) ?_; (with_reducible refine (examboardlaw24_fits.calls kj3 _ _ l0_0 _ _ l0_1 _ _ l0_2 true _ ?side1 ?side2 ?side3 ?side4 ?side5 ?side6 A25.out).mono ?_); (case side1 => repeat (first | exact (Kd.C_below HR0_0.out HB.out) | (with_reducible refine Kd.C_alloc ?_ _) | (with_reducible refine Kd.C_drewN ?_ _) | (with_reducible refine Kd.C_drew ?_))); (case side2 => exact HC0_0.out); (case side3 => repeat (first | exact (Kd.C_below HR0_1.out HB.out) | (with_reducible refine Kd.C_alloc ?_ _) | (with_reducible refine Kd.C_drewN ?_ _) | (with_reducible refine Kd.C_drew ?_))); (case side4 => exact HC0_1.out); (case side5 => repeat (first | exact (Kd.C_below HR0_2.out HB.out) | (with_reducible refine Kd.C_alloc ?_ _) | (with_reducible refine Kd.C_drewN ?_ _) | (with_reducible refine Kd.C_drew ?_))); (case side6 => exact HC0_2.out); rintro e w33 ⟨rfl, hb⟩; refine ⟨_, rfl, ?_⟩; have n0_ := Am (Kd.R_below (Rl HO_649000) hb); have n1_ := Am (Kd.R_below (Rl HO_649001) hb); have n2_ := Am (Kd.S_below (Sl HO_649002) hb); have n3_ := Am (blk_below (Kl BK636) hb); have n4_ := Am (blk_below (Kl BK637) hb); have n5_ := Am (blk_below (Kl BK648) hb); have n6_ := Am (below_step (by repeat first | exact Bl HB | refine Bp (below_set ?_ GE636.out) | refine Bp (below_set ?_ GE637.out) | refine Bp (below_set ?_ GE648.out)) hb); clear HO_649000 HO_649001 HO_649002 BK636 BK637 BK648 HB; have HO_649000 := n0_; have HO_649001 := n1_; have HO_649002 := n2_; have BK636 := n3_; have BK637 := n4_; have BK648 := n5_; have HB := n6_; clear n0_ n1_ n2_ n3_ n4_ n5_ n6_; (try clear hb); (try clear hb2); (try clear hk); (try clear hi); have hnb34 := NB648_637.out; have hnc34 := NB637_648.out; have hcz35_0 : w33.cell? ⟨gb648, 0, none⟩ = some (.slice Ao11 t638.length co11) := (blk_cell BK648.out 0).trans rfl; have hcz35_1 : w33.cell? ⟨gb648, 1, none⟩ = some (.slice Ao15 t641.length co15) := (blk_cell BK648.out 1).trans rfl; have hcz35_2 : w33.cell? ⟨gb648, 2, none⟩ = some (.slice Ao16 t644.length co16) := (blk_cell BK648.out 2).trans rfl; have hfz35_0 := blk_frozen BK648.out 0; have hfz35_1 := blk_frozen BK648.out 1; have hfz35_2 := blk_frozen BK648.out 2; have hcz36_0 : w33.cell? ⟨gb636, 0, none⟩ = some (.slice A0_0 l0_0.length c0_0) := (blk_cell BK636.out 0).trans rfl; have hcz36_1 : w33.cell? ⟨gb636, 1, none⟩ = some (.slice A0_1 l0_1.length c0_1) := (blk_cell BK636.out 1).trans rfl; have hcz36_2 : w33.cell? ⟨gb636, 2, none⟩ = some (.slice A0_2 l0_2.length c0_2) := (blk_cell BK636.out 2).trans rfl; have hfz36_0 := blk_frozen BK636.out 0; have hfz36_1 := blk_frozen BK636.out 1; have hfz36_2 := blk_frozen BK636.out 2) | (go_at_call 18; (with_reducible refine (examboardlaw24_same.calls kj3 _ _ t638 _ _ t641 _ _ t644 _ _ l0_0 _ _ l0_1 _ _ l0_2 t650 _ ?side1 ?side2 ?side3 ?side4 ?side5 ?side6 ?side7 ?side8 ?side9 ?side10 ?side11 ?side12 A29.out).mono ?_); (case side1 => exact Cm (Kd.R_reads' HO_649000.out).2.2); (case side2 => exact (Kd.R_reads' HO_649000.out).2.1); (case side3 => exact Cm (Kd.R_reads' HO_649001.out).2.2); (case side4 => exact (Kd.R_reads' HO_649001.out).2.1); (case side5 => repeat (first | exact (Kd.S_reads' HO_649002.out).2.2 | (with_reducible refine Kd.C_alloc ?_ _) | (with_reducible refine Kd.C_drewN ?_ _) | (with_reducible refine Kd.C_drew ?_))); (case side6 => exact (Kd.S_reads' HO_649002.out).2.1); (case side7 => repeat (first | exact (Kd.C_below HR0_0.out HB.out) | (with_reducible refine Kd.C_alloc ?_ _) | (with_reducible refine Kd.C_drewN ?_ _) | (with_reducible refine Kd.C_drew ?_))); (case side8 => exact HC0_0.out); (case side9 => repeat (first | exact (Kd.C_below HR0_1.out HB.out) | (with_reducible refine Kd.C_alloc ?_ _) | (with_reducible refine Kd.C_drewN ?_ _) | (with_reducible refine Kd.C_drew ?_))); (case side10 => exact HC0_1.out); (case side11 => repeat (first | exact (Kd.C_below HR0_2.out HB.out) | (with_reducible refine Kd.C_alloc ?_ _) | (with_reducible refine Kd.C_drewN ?_ _) | (with_reducible refine Kd.C_drew ?_))); (case side12 => exact HC0_2.out); rintro e w37 ⟨rfl, hb⟩; have n0_ := Am (Kd.R_below (Rl HO_649000) hb); have n1_ := Am (Kd.R_below (Rl HO_649001) hb); have n2_ := Am (Kd.S_below (Sl HO_649002) hb); have n3_ := Am (blk_below (Kl BK636) hb); have n4_ := Am (blk_below (Kl BK637) hb); have n5_ := Am (blk_below (Kl BK648) hb); have n6_ := Am (below_step (by repeat first | exact Bl HB | refine Bp (below_set ?_ GE636.out) | refine Bp (below_set ?_ GE637.out) | refine Bp (below_set ?_ GE648.out)) hb); clear HO_649000 HO_649001 HO_649002 BK636 BK637 BK648 HB; have HO_649000 := n0_; have HO_649001 := n1_; have HO_649002 := n2_; have BK636 := n3_; have BK637 := n4_; have BK648 := n5_; have HB := n6_; clear n0_ n1_ n2_ n3_ n4_ n5_ n6_; (try clear hb); (try clear hb2); (try clear hk); (try clear hi)))
       go_meet
       case rel => exact ⟨_, (!t650), (by first | rfl | (simp; done) | (simp [*]; done)), H', ⟨by have := HJ3.out; first | omega | exact Nat.le_refl _⟩, ⟨Rl HO_649000⟩, ⟨Rl HO_649001⟩, ⟨Sl HO_649002⟩, ⟨Kl BK636⟩, ⟨Kl BK637⟩, ⟨Kl BK648⟩, ⟨by repeat first | exact Bl HB | refine Bp (below_set ?_ GE636.out) | refine Bp (below_set ?_ GE637.out) | refine Bp (below_set ?_ GE648.out)⟩⟩
      ·rw [if_neg c28] at H
       have c28b0 : (t647 == 0) = false := beq_eq_false_iff_ne.mpr c28
       have c28b1 : (t647 != 0) = true := bne_iff_ne.mpr c28
       obtain rfl : x7_3 = false := by have h_ := c27b0; rw [c28b0] at h_; revert h_; cases x7_3 <;> decide
       have H' := Am H
       clear H
       have hnb38 := NB636_637.out
       have hnc38 := NB637_636.out
       have hnb39 := NB636_648.out
       have hnc39 := NB648_636.out
       have hcz40_0 : wc.cell? ⟨gb636, 0, none⟩ = some (.slice A0_0 l0_0.length c0_0) := (blk_cell BK636.out 0).trans rfl
       have hcz40_1 : wc.cell? ⟨gb636, 1, none⟩ = some (.slice A0_1 l0_1.length c0_1) := (blk_cell BK636.out 1).trans rfl
       have hcz40_2 : wc.cell? ⟨gb636, 2, none⟩ = some (.slice A0_2 l0_2.length c0_2) := (blk_cell BK636.out 2).trans rfl
       have hfz40_0 := blk_frozen BK636.out 0
       have hfz40_1 := blk_frozen BK636.out 1
       have hfz40_2 := blk_frozen BK636.out 2
       go_wp2_with (first | ((with_reducible refine gate_callee (f := 24) rfl ?_); refine goesL_ (some 35) rfl rfl Try.func24 (by kernel_rfl) rfl #[.agg #[.slice A0_0 l0_0.length c0_0, .slice A0_1 l0_1.length c0_1, .slice A0_2 l0_2.length c0_2]] rfl (by (try simp only [List.map_toArray, List.map_cons, List.map_nil]); first | done | rfl | (simp only [List.length_drop, List.length_take]; rfl)) ?_; (with_reducible refine (examboardlaw24_fits.calls kj3 _ _ l0_0 _ _ l0_1 _ _ l0_2 true _ ?side1 ?side2 ?side3 ?side4 ?side5 ?side6 A25.out).mono ?_); (case side1 => repeat (first | exact (Kd.C_below HR0_0.out HB.out) | (with_reducible refine Kd.C_alloc ?_ _) | (with_reducible refine Kd.C_drewN ?_ _) | (with_reducible refine Kd.C_drew ?_))); (case side2 => exact HC0_0.out); (case side3 => repeat (first | exact (Kd.C_below HR0_1.out HB.out) | (with_reducible refine Kd.C_alloc ?_ _) | (with_reducible refine Kd.C_drewN ?_ _) | (with_reducible refine Kd.C_drew ?_))); (case side4 => exact HC0_1.out); (case side5 => repeat (first | exact (Kd.C_below HR0_2.out HB.out) | (with_reducible refine Kd.C_alloc ?_ _) | (with_reducible refine Kd.C_drewN ?_ _) | (with_reducible refine Kd.C_drew ?_))); (case side6 => exact HC0_2.out); rintro e w41 ⟨rfl, hb⟩; refine ⟨_, rfl, ?_⟩; have n0_ := Am (Kd.R_below (Rl HO_649000) hb); have n1_ := Am (Kd.R_below (Rl HO_649001) hb); have n2_ := Am (Kd.S_below (Sl HO_649002) hb); have n3_ := Am (blk_below (Kl BK636) hb); have n4_ := Am (blk_below (Kl BK637) hb); have n5_ := Am (blk_below (Kl BK648) hb); have n6_ := Am (below_step (by repeat first | exact Bl HB | refine Bp (below_set ?_ GE636.out) | refine Bp (below_set ?_ GE637.out) | refine Bp (below_set ?_ GE648.out)) hb); clear HO_649000 HO_649001 HO_649002 BK636 BK637 BK648 HB; have HO_649000 := n0_; have HO_649001 := n1_; have HO_649002 := n2_; have BK636 := n3_; have BK637 := n4_; have BK648 := n5_; have HB := n6_; clear n0_ n1_ n2_ n3_ n4_ n5_ n6_; (try clear hb); (try clear hb2); (try clear hk); (try clear hi)))
       go_meet
       case rel => exact ⟨_, (false), (by first | rfl | (simp; done) | (simp [*]; done)), H', ⟨by have := HJ3.out; first | omega | exact Nat.le_refl _⟩, ⟨Rl HO_649000⟩, ⟨Rl HO_649001⟩, ⟨Sl HO_649002⟩, ⟨Kl BK636⟩, ⟨Kl BK637⟩, ⟨Kl BK648⟩, ⟨by repeat first | exact Bl HB | refine Bp (below_set ?_ GE636.out) | refine Bp (below_set ?_ GE637.out) | refine Bp (below_set ?_ GE648.out)⟩⟩
    ·replace c26 := Bool.eq_false_iff.mpr c26
     subst c26
     have H1 : (if ((t647 == 0) != false) = true then (none) else (if t647 = 0 then ((examboardlaw24_same.f kj3 t638 t641 t644 l0_0 l0_1 l0_2).bind fun t651 => (examboardlaw24_MatrixUnion.j1 kj3 (!t651) l0_0 l0_1 l0_2 l1_0 l1_1 l1_2)) else (examboardlaw24_MatrixUnion.j1 kj3 false l0_0 l0_1 l0_2 l1_0 l1_1 l1_2))) = some r := by rw [if_neg (show ¬ (false = true) by decide)] at H; exact H
     clear H
     have H := H1
     clear H1
     by_cases c42 : ((t647 == 0) != false) = true
     ·rw [if_pos c42] at H
      exact absurd H (by simp)
     ·rw [if_neg c42] at H
      have c42b0 : ((t647 == 0) != false) = false := by simpa using c42
      (try (have c42b1 : decide ((t647 == 0) = false) = true := by simpa using c42))
      (try (have c42b2 : ((t647 == 0) == false) = true := by simpa using c42))
      clear c42
      by_cases c43 : t647 = 0
      ·rw [if_pos c43] at H
       have c43b0 : (t647 == 0) = true := beq_iff_eq.mpr c43
       have c43b1 : (t647 != 0) = false := bne_eq_false_iff_eq.mpr c43
       clear c43
       exact absurd c42b0 (by rw [c43b0]; decide)
      ·rw [if_neg c43] at H
       have c43b0 : (t647 == 0) = false := beq_eq_false_iff_ne.mpr c43
       have c43b1 : (t647 != 0) = true := bne_iff_ne.mpr c43
       have H' := Am H
       clear H
       have hnb53 := NB636_637.out
       have hnc53 := NB637_636.out
       have hnb54 := NB636_648.out
       have hnc54 := NB648_636.out
       have hcz55_0 : wc.cell? ⟨gb636, 0, none⟩ = some (.slice A0_0 l0_0.length c0_0) := (blk_cell BK636.out 0).trans rfl
       have hcz55_1 : wc.cell? ⟨gb636, 1, none⟩ = some (.slice A0_1 l0_1.length c0_1) := (blk_cell BK636.out 1).trans rfl
       have hcz55_2 : wc.cell? ⟨gb636, 2, none⟩ = some (.slice A0_2 l0_2.length c0_2) := (blk_cell BK636.out 2).trans rfl
       have hfz55_0 := blk_frozen BK636.out 0
       have hfz55_1 := blk_frozen BK636.out 1
       have hfz55_2 := blk_frozen BK636.out 2
       go_wp2_with (first | ((with_reducible refine gate_callee (f := 24) rfl ?_); refine goesL_ (some 35) rfl rfl Try.func24 (by kernel_rfl) rfl #[.agg #[.slice A0_0 l0_0.length c0_0, .slice A0_1 l0_1.length c0_1, .slice A0_2 l0_2.length c0_2]] rfl (by (try simp only [List.map_toArray, List.map_cons, List.map_nil]); first | done | rfl | (simp only [List.length_drop, List.length_take]; rfl)) ?_; (with_reducible refine (examboardlaw24_fits.calls kj3 _ _ l0_0 _ _ l0_1 _ _ l0_2 false _ ?side1 ?side2 ?side3 ?side4 ?side5 ?side6 A25.out).mono ?_); (case side1 => repeat (first | exact (Kd.C_below HR0_0.out HB.out) | (with_reducible refine Kd.C_alloc ?_ _) | (with_reducible refine Kd.C_drewN ?_ _) | (with_reducible refine Kd.C_drew ?_))); (case side2 => exact HC0_0.out); (case side3 => repeat (first | exact (Kd.C_below HR0_1.out HB.out) | (with_reducible refine Kd.C_alloc ?_ _) | (with_reducible refine Kd.C_drewN ?_ _) | (with_reducible refine Kd.C_drew ?_))); (case side4 => exact HC0_1.out); (case side5 => repeat (first | exact (Kd.C_below HR0_2.out HB.out) | (with_reducible refine Kd.C_alloc ?_ _) | (with_reducible refine Kd.C_drewN ?_ _) | (with_reducible refine Kd.C_drew ?_))); (case side6 => exact HC0_2.out); rintro e w56 ⟨rfl, hb⟩; refine ⟨_, rfl, ?_⟩; have n0_ := Am (Kd.R_below (Rl HO_649000) hb); have n1_ := Am (Kd.R_below (Rl HO_649001) hb); have n2_ := Am (Kd.S_below (Sl HO_649002) hb); have n3_ := Am (blk_below (Kl BK636) hb); have n4_ := Am (blk_below (Kl BK637) hb); have n5_ := Am (blk_below (Kl BK648) hb); have n6_ := Am (below_step (by repeat first | exact Bl HB | refine Bp (below_set ?_ GE636.out) | refine Bp (below_set ?_ GE637.out) | refine Bp (below_set ?_ GE648.out)) hb); clear HO_649000 HO_649001 HO_649002 BK636 BK637 BK648 HB; have HO_649000 := n0_; have HO_649001 := n1_; have HO_649002 := n2_; have BK636 := n3_; have BK637 := n4_; have BK648 := n5_; have HB := n6_; clear n0_ n1_ n2_ n3_ n4_ n5_ n6_; (try clear hb); (try clear hb2); (try clear hk); (try clear hi)))
       go_meet
       case rel => exact ⟨_, (false), (by first | rfl | (simp; done) | (simp [*]; done)), H', ⟨by have := HJ3.out; first | omega | exact Nat.le_refl _⟩, ⟨Rl HO_649000⟩, ⟨Rl HO_649001⟩, ⟨Sl HO_649002⟩, ⟨Kl BK636⟩, ⟨Kl BK637⟩, ⟨Kl BK648⟩, ⟨by repeat first | exact Bl HB | refine Bp (below_set ?_ GE636.out) | refine Bp (below_set ?_ GE637.out) | refine Bp (below_set ?_ GE648.out)⟩⟩
   case rest =>
    clear HC24
    try clear c1
    try clear c2
    try clear p2
    try clear c3
    try clear c4
    try clear c5
    try clear c7
    try clear c9
    try clear c12
    try clear c13
    try clear c17
    try clear c17b0
    try clear c17b1
    try clear c18
    try clear c19
    try clear c21
    try clear c22
    try clear c24
    try clear c26
    try clear c27
    try clear c27b0
    try clear c27b1
    try clear c27b2
    try clear c28
    try clear c28b0
    try clear c28b1
    try clear c30
    try clear c31
    try clear c34
    try clear c38
    try clear c39
    try clear c42
    try clear c42b0
    try clear c42b1
    try clear c42b2
    try clear c43
    try clear c43b0
    try clear c43b1
    try clear c45
    try clear c46
    try clear c49
    try clear c53
    try clear c54
    try clear hcz14_0
    try clear hcz14_1
    try clear hcz14_2
    try clear hcz20_0
    try clear hcz20_1
    try clear hcz20_2
    try clear hcz23_0
    try clear hcz23_1
    try clear hcz23_2
    try clear hcz32_0
    try clear hcz32_1
    try clear hcz32_2
    try clear hcz35_0
    try clear hcz35_1
    try clear hcz35_2
    try clear hcz36_0
    try clear hcz36_1
    try clear hcz36_2
    try clear hcz40_0
    try clear hcz40_1
    try clear hcz40_2
    try clear hcz47_0
    try clear hcz47_1
    try clear hcz47_2
    try clear hcz50_0
    try clear hcz50_1
    try clear hcz50_2
    try clear hcz51_0
    try clear hcz51_1
    try clear hcz51_2
    try clear hcz55_0
    try clear hcz55_1
    try clear hcz55_2
    try clear hcz8_0
    try clear hcz8_1
    try clear hcz8_2
    try clear hfz14_0
    try clear hfz14_1
    try clear hfz14_2
    try clear hfz20_0
    try clear hfz20_1
    try clear hfz20_2
    try clear hfz23_0
    try clear hfz23_1
    try clear hfz23_2
    try clear hfz32_0
    try clear hfz32_1
    try clear hfz32_2
    try clear hfz35_0
    try clear hfz35_1
    try clear hfz35_2
    try clear hfz36_0
    try clear hfz36_1
    try clear hfz36_2
    try clear hfz40_0
    try clear hfz40_1
    try clear hfz40_2
    try clear hfz47_0
    try clear hfz47_1
    try clear hfz47_2
    try clear hfz50_0
    try clear hfz50_1
    try clear hfz50_2
    try clear hfz51_0
    try clear hfz51_1
    try clear hfz51_2
    try clear hfz55_0
    try clear hfz55_1
    try clear hfz55_2
    try clear hfz8_0
    try clear hfz8_1
    try clear hfz8_2
    try clear p2
    obtain ⟨kq, x49_23, rfl, HA, HJ23, HO_649000, HO_649001, HO_649002, BK636, BK637, BK648, HB⟩ := hcut
    cases kq with
    | zero => exact absurd HA.out (by simp [examboardlaw24_MatrixUnion.j1])
    | succ kj23 =>
     have H := HA.out
     clear HA
     simp only [examboardlaw24_MatrixUnion.j1] at H
     by_cases c57 : x49_23 = true
     ·subst c57
      have H1 : (none) = some r := by rw [if_pos rfl] at H; exact H
      clear H
      have H := H1
      clear H1
      exact absurd H (by simp)
     ·replace c57 := Bool.eq_false_iff.mpr c57
      subst c57
      have H1 : ((matrix_Merge.f kj23 l0_0 l0_1 l0_2 l1_0 l1_1 l1_2).bind fun bt652 => ((matrix_Merge.f kj23 l1_0 l1_1 l1_2 l0_0 l0_1 l0_2).bind fun bt663 => (if bt652.2.2.2 = bt663.2.2.2 then ((examboardlaw24_same.f kj23 bt652.1 bt652.2.1 bt652.2.2.1 bt663.1 bt663.2.1 bt663.2.2.1).bind fun t674 => (examboardlaw24_MatrixUnion.j2 kj23 bt652.2.2.2 (!t674) l0_0 l0_1 l0_2 l1_0 l1_1 l1_2 bt652.1 bt652.2.1 bt652.2.2.1)) else (none)))) = some r := by rw [if_neg (show ¬ (false = true) by decide)] at H; exact H
      clear H
      have H := H1
      clear H1
      replace H := Option.bind_eq_some_iff.mp H
      obtain ⟨⟨t652, t655, t658, t661⟩, A580, H⟩ := H
      replace H : ((matrix_Merge.f kj23 l1_0 l1_1 l1_2 l0_0 l0_1 l0_2).bind fun bt663 => (if t661 = bt663.2.2.2 then ((examboardlaw24_same.f kj23 t652 t655 t658 bt663.1 bt663.2.1 bt663.2.2.1).bind fun t674 => (examboardlaw24_MatrixUnion.j2 kj23 t661 (!t674) l0_0 l0_1 l0_2 l1_0 l1_1 l1_2 t652 t655 t658)) else (none))) = some r := H
      have A58 := Am A580
      clear A580
      replace H := Option.bind_eq_some_iff.mp H
      obtain ⟨⟨t663, t666, t669, t672⟩, A590, H⟩ := H
      replace H : (if t661 = t672 then ((examboardlaw24_same.f kj23 t652 t655 t658 t663 t666 t669).bind fun t674 => (examboardlaw24_MatrixUnion.j2 kj23 t661 (!t674) l0_0 l0_1 l0_2 l1_0 l1_1 l1_2 t652 t655 t658)) else (none)) = some r := H
      have A59 := Am A590
      clear A590
      have HC60 := Am H
      clear H
      have hnb61 := NB636_637.out
      have hnc61 := NB637_636.out
      have hnb62 := NB636_648.out
      have hnc62 := NB648_636.out
      have hcz63_0 : wc.cell? ⟨gb636, 0, none⟩ = some (.slice A0_0 l0_0.length c0_0) := (blk_cell BK636.out 0).trans rfl
      have hcz63_1 : wc.cell? ⟨gb636, 1, none⟩ = some (.slice A0_1 l0_1.length c0_1) := (blk_cell BK636.out 1).trans rfl
      have hcz63_2 : wc.cell? ⟨gb636, 2, none⟩ = some (.slice A0_2 l0_2.length c0_2) := (blk_cell BK636.out 2).trans rfl
      have hfz63_0 := blk_frozen BK636.out 0
      have hfz63_1 := blk_frozen BK636.out 1
      have hfz63_2 := blk_frozen BK636.out 2
      have hnb64 := NB637_648.out
      have hnc64 := NB648_637.out
      have hcz65_0 : wc.cell? ⟨gb637, 0, none⟩ = some (.slice A1_0 l1_0.length c1_0) := (blk_cell BK637.out 0).trans rfl
      have hcz65_1 : wc.cell? ⟨gb637, 1, none⟩ = some (.slice A1_1 l1_1.length c1_1) := (blk_cell BK637.out 1).trans rfl
      have hcz65_2 : wc.cell? ⟨gb637, 2, none⟩ = some (.slice A1_2 l1_2.length c1_2) := (blk_cell BK637.out 2).trans rfl
      have hfz65_0 := blk_frozen BK637.out 0
      have hfz65_1 := blk_frozen BK637.out 1
      have hfz65_2 := blk_frozen BK637.out 2
      go_upto_region 7 with (first | ((with_reducible refine gate_callee (f := 19) rfl ?_); refine goesL_ (some 53) rfl rfl Try.func19 (by kernel_rfl) rfl #[.agg #[.slice A0_0 l0_0.length c0_0, .slice A0_1 l0_1.length c0_1, .slice A0_2 l0_2.length c0_2], .agg #[.slice A1_0 l1_0.length c1_0, .slice A1_1 l1_1.length c1_1, .slice A1_2 l1_2.length c1_2]] rfl (by (try simp only [List.map_toArray, List.map_cons, List.map_nil]); first | done | rfl | (simp only [List.length_drop, List.length_take]; rfl)) ?_; (with_reducible refine (matrix_Merge.calls kj23 _ _ l0_0 _ _ l0_1 _ _ l0_2 _ _ l1_0 _ _ l1_1 _ _ l1_2 t652 t655 t658 t661 _ ?side1 ?side2 ?side3 ?side4 ?side5 ?side6 ?side7 ?side8 ?side9 ?side10 ?side11 ?side12 A58.out).mono ?_); (case side1 => repeat (first | exact (Kd.C_below HR0_0.out HB.out) | (with_reducible refine Kd.C_alloc ?_ _) | (with_reducible refine Kd.C_drewN ?_ _) | (with_reducible refine Kd.C_drew ?_))); (case side2 => exact HC0_0.out); (case side3 => repeat (first | exact (Kd.C_below HR0_1.out HB.out) | (with_reducible refine Kd.C_alloc ?_ _) | (with_reducible refine Kd.C_drewN ?_ _) | (with_reducible refine Kd.C_drew ?_))); (case side4 => exact HC0_1.out); (case side5 => repeat (first | exact (Kd.C_below HR0_2.out HB.out) | (with_reducible refine Kd.C_alloc ?_ _) | (with_reducible refine Kd.C_drewN ?_ _) | (with_reducible refine Kd.C_drew ?_))); (case side6 => exact HC0_2.out); (case side7 => repeat (first | exact (Kd.C_below HR1_0.out HB.out) | (with_reducible refine Kd.C_alloc ?_ _) | (with_reducible refine Kd.C_drewN ?_ _) | (with_reducible refine Kd.C_drew ?_))); (case side8 => exact HC1_0.out); (case side9 => repeat (first | exact (Kd.C_below HR1_1.out HB.out) | (with_reducible refine Kd.C_alloc ?_ _) | (with_reducible refine Kd.C_drewN ?_ _) | (with_reducible refine Kd.C_drew ?_))); (case side10 => exact HC1_1.out); (case side11 => repeat (first | exact (Kd.C_below HR1_2.out HB.out) | (with_reducible refine Kd.C_alloc ?_ _) | (with_reducible refine Kd.C_drewN ?_ _) | (with_reducible refine Kd.C_drew ?_))); (case side12 => exact HC1_2.out); rintro e w66 ⟨v653, v656, v659, rfl, ho0, ho1, ho2, hb⟩; refine ⟨_, rfl, ?_⟩; have n0_ := Am (Kd.R_mono (Kd.R_told (Kd.R_told (Kd.R_old (Rl HO_649000) hb) (Kd.R_base ho0)) (Kd.R_base ho1)) (fun _ h_ => h_.1)); have n1_ := Am (Kd.R_mono (Kd.R_told (Kd.R_told (Kd.R_old (Rl HO_649001) hb) (Kd.R_base ho0)) (Kd.R_base ho1)) (fun _ h_ => h_.1)); have n2_ := Am (Kd.S_mono (Kd.S_told (Kd.S_told (Kd.S_told (Kd.S_old (Sl HO_649002) hb) (Kd.R_base ho0)) (Kd.R_base ho1)) (Kd.S_base ho2)) (fun _ h_ => h_.1)); have n3_ := Am (Kd.R_lower (Kd.R_new' (Kd.R_new' ho0 (Rb HO_649000)) (Rb HO_649001)) (below_size (by repeat first | exact Bl HB | refine Bp (below_set ?_ GE636.out) | refine Bp (below_set ?_ GE637.out) | refine Bp (below_set ?_ GE648.out)))); have n4_ := Am (Kd.R_lower (Kd.R_new' (Kd.R_new' ho1 (Rb HO_649000)) (Rb HO_649001)) (below_size (by repeat first | exact Bl HB | refine Bp (below_set ?_ GE636.out) | refine Bp (below_set ?_ GE637.out) | refine Bp (below_set ?_ GE648.out)))); have n5_ := Am (Kd.S_lower (Kd.S_new' (Kd.S_new' (Kd.S_new' ho2 (Rb HO_649000)) (Rb HO_649001)) (Sb HO_649002)) (below_size (by repeat first | exact Bl HB | refine Bp (below_set ?_ GE636.out) | refine Bp (below_set ?_ GE637.out) | refine Bp (below_set ?_ GE648.out)))); have n6_ := Am (blk_below (Kl BK636) hb); have n7_ := Am (blk_below (Kl BK637) hb); have n8_ := Am (blk_below (Kl BK648) hb); have n9_ := Am (below_step (by repeat first | exact Bl HB | refine Bp (below_set ?_ GE636.out) | refine Bp (below_set ?_ GE637.out) | refine Bp (below_set ?_ GE648.out)) hb); clear HO_649000 HO_649001 HO_649002 BK636 BK637 BK648 HB; have HO_649000 := n0_; have HO_649001 := n1_; have HO_649002 := n2_; have HO654 := n3_; have HO657 := n4_; have HO660 := n5_; have BK636 := n6_; have BK637 := n7_; have BK648 := n8_; have HB := n9_; clear n0_ n1_ n2_ n3_ n4_ n5_ n6_ n7_ n8_ n9_; (try clear hb); (try clear hb2); (try clear hk); (try clear hi); (try clear ho0); (try clear ho1); (try clear ho2)) | ((with_reducible refine gate_dst (N := 8) rfl ?_); (try (refine gate_guard (by rfl) ?_; dsimp only)); refine box_event ?hg (N := 8) ?hd (cs := #[.slice none 0 0, .slice none 0 0, .slice none 0 0]) (t := 39) ?hr ?_; (case hd => rfl); (case hg => rfl); (case hr => first | (go_simp; done) | (go_simp; rfl)); intro gb662 hg w67 hbox hb; have n0_ := Am (Kd.R_below (Rl HO_649000) hb); have n1_ := Am (Kd.R_below (Rl HO_649001) hb); have n2_ := Am (Kd.S_below (Sl HO_649002) hb); have n3_ := Am (Kd.R_below (Rl HO654) hb); have n4_ := Am (Kd.R_below (Rl HO657) hb); have n5_ := Am (Kd.S_below (Sl HO660) hb); have n6_ := Am (blk_below (Kl BK636) hb); have n7_ := Am (blk_below (Kl BK637) hb); have n8_ := Am (blk_below (Kl BK648) hb); have n9_ := Am (below_step (by repeat first | exact Bl HB | refine Bp (below_set ?_ GE636.out) | refine Bp (below_set ?_ GE637.out) | refine Bp (below_set ?_ GE648.out)) hb); have n10_ := Am (hbox); have n11_ := Am ((by rw [hg]; exact (below_size (by repeat first | exact Bl HB | refine Bp (below_set ?_ GE636.out) | refine Bp (below_set ?_ GE637.out) | refine Bp (below_set ?_ GE648.out))) : w.heap.size ≤ gb662)); have n12_ := Am ((by rw [hg]; exact (below_size (by repeat first | exact Bl HB | refine Bp (below_set ?_ GE636.out) | refine Bp (below_set ?_ GE637.out) | refine Bp (below_set ?_ GE648.out))) : w.heap.size ≤ gb662)); have n13_ := Am ((by rw [hg]; exact Nat.ne_of_lt (blk_lt (Kl BK636)) : gb636 ≠ gb662)); have n14_ := Am ((by rw [hg]; exact Nat.ne_of_gt (blk_lt (Kl BK636)) : gb662 ≠ gb636)); have n15_ := Am ((by rw [hg]; exact Nat.ne_of_lt (blk_lt (Kl BK637)) : gb637 ≠ gb662)); have n16_ := Am ((by rw [hg]; exact Nat.ne_of_gt (blk_lt (Kl BK637)) : gb662 ≠ gb637)); have n17_ := Am ((by rw [hg]; exact Nat.ne_of_lt (blk_lt (Kl BK648)) : gb648 ≠ gb662)); have n18_ := Am ((by rw [hg]; exact Nat.ne_of_gt (blk_lt (Kl BK648)) : gb662 ≠ gb648)); clear HO_649000 HO_649001 HO_649002 HO654 HO657 HO660 BK636 BK637 BK648 HB; have HO_649000 := n0_; have HO_649001 := n1_; have HO_649002 := n2_; have HO654 := n3_; have HO657 := n4_; have HO660 := n5_; have BK636 := n6_; have BK637 := n7_; have BK648 := n8_; have HB := n9_; have BK662 := n10_; have GW662 := n11_; have GE662 := n12_; have NB636_662 := n13_; have NB662_636 := n14_; have NB637_662 := n15_; have NB662_637 := n16_; have NB648_662 := n17_; have NB662_648 := n18_; clear n0_ n1_ n2_ n3_ n4_ n5_ n6_ n7_ n8_ n9_ n10_ n11_ n12_ n13_ n14_ n15_ n16_ n17_ n18_; clear hb hbox hg; obtain ⟨Ao68, co68, eo68⟩ := Kd.R_slice HO654.out; subst eo68; have hnb69 := NB662_636.out; have hnc69 := NB636_662.out; have hnb70 := NB662_637.out; have hnc70 := NB637_662.out; have hnb71 := NB662_648.out; have hnc71 := NB648_662.out; have hcz72_0 : w67.cell? ⟨gb662, 0, none⟩ = some (.slice none 0 0) := (blk_cell BK662.out 0).trans rfl; have hcz72_1 : w67.cell? ⟨gb662, 1, none⟩ = some (.slice none 0 0) := (blk_cell BK662.out 1).trans rfl; have hcz72_2 : w67.cell? ⟨gb662, 2, none⟩ = some (.slice none 0 0) := (blk_cell BK662.out 2).trans rfl; have hfz72_0 := blk_frozen BK662.out 0; have hfz72_1 := blk_frozen BK662.out 1; have hfz72_2 := blk_frozen BK662.out 2; obtain ⟨Ao73, co73, eo73⟩ := Kd.R_slice HO657.out; subst eo73; obtain ⟨Ao74, co74, eo74⟩ := Kd.S_slice HO660.out; subst eo74; have hcz75_0 : w67.cell? ⟨gb637, 0, none⟩ = some (.slice A1_0 l1_0.length c1_0) := (blk_cell BK637.out 0).trans rfl; have hcz75_1 : w67.cell? ⟨gb637, 1, none⟩ = some (.slice A1_1 l1_1.length c1_1) := (blk_cell BK637.out 1).trans rfl; have hcz75_2 : w67.cell? ⟨gb637, 2, none⟩ = some (.slice A1_2 l1_2.length c1_2) := (blk_cell BK637.out 2).trans rfl; have hfz75_0 := blk_frozen BK637.out 0; have hfz75_1 := blk_frozen BK637.out 1; have hfz75_2 := blk_frozen BK637.out 2; have hcz76_0 : w67.cell? ⟨gb636, 0, none⟩ = some (.slice A0_0 l0_0.length c0_0) := (blk_cell BK636.out 0).trans rfl; have hcz76_1 : w67.cell? ⟨gb636, 1, none⟩ = some (.slice A0_1 l0_1.length c0_1) := (blk_cell BK636.out 1).trans rfl; have hcz76_2 : w67.cell? ⟨gb636, 2, none⟩ = some (.slice A0_2 l0_2.length c0_2) := (blk_cell BK636.out 2).trans rfl; have hfz76_0 := blk_frozen BK636.out 0; have hfz76_1 := blk_frozen BK636.out 1; have hfz76_2 := blk_frozen BK636.out 2) | ((with_reducible refine gate_callee (f := 19) rfl ?_); refine goesL_ (some 59) rfl rfl Try.func19 (by kernel_rfl) rfl #[.agg #[.slice A1_0 l1_0.length c1_0, .slice A1_1 l1_1.length c1_1, .slice A1_2 l1_2.length c1_2], .agg #[.slice A0_0 l0_0.length c0_0, .slice A0_1 l0_1.length c0_1, .slice A0_2 l0_2.length c0_2]] rfl (by (try simp only [List.map_toArray, List.map_cons, List.map_nil]); first | done | rfl | (simp only [List.length_drop, List.length_take]; rfl)) ?_; (with_reducible refine (matrix_Merge.calls kj23 _ _ l1_0 _ _ l1_1 _ _ l1_2 _ _ l0_0 _ _ l0_1 _ _ l0_2 t663 t666 t669 t672 _ ?side1 ?side2 ?side3 ?side4 ?side5 ?side6 ?side7 ?side8 ?side9 ?side10 ?side11 ?side12 A59.out).mono ?_); (case side1 => exact Kd.C_below HR1_0.out (by repeat first | exact Bl HB | refine Bp (below_set ?_ GE636.out) | refine Bp (below_set ?_ GE637.out) | refine Bp (below_set ?_ GE648.out) | refine Bp (below_set ?_ GE662.out))); (case side2 => exact HC1_0.out); (case side3 => exact Kd.C_below HR1_1.out (by repeat first | exact Bl HB | refine Bp (below_set ?_ GE636.out) | refine Bp (below_set ?_ GE637.out) | refine Bp (below_set ?_ GE648.out) | refine Bp (below_set ?_ GE662.out))); (case side4 => exact HC1_1.out); (case side5 => exact Kd.C_below HR1_2.out (by repeat first | exact Bl HB | refine Bp (below_set ?_ GE636.out) | refine Bp (below_set ?_ GE637.out) | refine Bp (below_set ?_ GE648.out) | refine Bp (below_set ?_ GE662.out))); (case side6 => exact HC1_2.out); (case side7 => exact Kd.C_below HR0_0.out (by repeat first | exact Bl HB | refine Bp (below_set ?_ GE636.out) | refine Bp (below_set ?_ GE637.out) | refine Bp (below_set ?_ GE648.out) | refine Bp (below_set ?_ GE662.out))); (case side8 => exact HC0_0.out); (case side9 => exact Kd.C_below HR0_1.out (by repeat first | exact Bl HB | refine Bp (below_set ?_ GE636.out) | refine Bp (below_set ?_ GE637.out) | refine Bp (below_set ?_ GE648.out) | refine Bp (below_set ?_ GE662.out))); (case side10 => exact HC0_1.out); (case side11 => exact Kd.C_below HR0_2.out (by repeat first | exact Bl HB | refine Bp (below_set ?_ GE636.out) | refine Bp (below_set ?_ GE637.out) | refine Bp (below_set ?_ GE648.out) | refine Bp (below_set ?_ GE662.out))); (case side12 => exact HC0_2.out); rintro e w77 ⟨v664, v667, v670, rfl, ho0, ho1, ho2, hb⟩; refine ⟨_, rfl, ?_⟩; have n0_ := Am (Kd.R_mono (Kd.R_told (Kd.R_told (Kd.R_old (Rm (Kd.R_mono (Kd.R_far (p := ⟨gb662, 2, none⟩) (Kd.R_far (p := ⟨gb662, 1, none⟩) (Kd.R_far (p := ⟨gb662, 0, none⟩) (Kd.R_types HO_649000.out BK662.out (by decide)) (fun _ hk => hk.2) (.slice Ao68 t652.length co68)) (fun _ hk => hk.2) (.slice Ao73 t655.length co73)) (fun _ hk => hk.2) (.slice Ao74 t658.length co74)) (fun _ h_ => h_.1))) hb) (Kd.R_base ho0)) (Kd.R_base ho1)) (fun _ h_ => h_.1)); have n1_ := Am (Kd.R_mono (Kd.R_told (Kd.R_told (Kd.R_old (Rm (Kd.R_mono (Kd.R_far (p := ⟨gb662, 2, none⟩) (Kd.R_far (p := ⟨gb662, 1, none⟩) (Kd.R_far (p := ⟨gb662, 0, none⟩) (Kd.R_types HO_649001.out BK662.out (by decide)) (fun _ hk => hk.2) (.slice Ao68 t652.length co68)) (fun _ hk => hk.2) (.slice Ao73 t655.length co73)) (fun _ hk => hk.2) (.slice Ao74 t658.length co74)) (fun _ h_ => h_.1))) hb) (Kd.R_base ho0)) (Kd.R_base ho1)) (fun _ h_ => h_.1)); have n2_ := Am (Kd.S_mono (Kd.S_told (Kd.S_told (Kd.S_told (Kd.S_old (Sm (Kd.S_mono (Kd.S_far (p := ⟨gb662, 2, none⟩) (Kd.S_far (p := ⟨gb662, 1, none⟩) (Kd.S_far (p := ⟨gb662, 0, none⟩) (Kd.S_types HO_649002.out BK662.out (by decide)) (fun _ hk => hk.2) (.slice Ao68 t652.length co68)) (fun _ hk => hk.2) (.slice Ao73 t655.length co73)) (fun _ hk => hk.2) (.slice Ao74 t658.length co74)) (fun _ h_ => h_.1))) hb) (Kd.R_base ho0)) (Kd.R_base ho1)) (Kd.S_base ho2)) (fun _ h_ => h_.1)); have n3_ := Am (Kd.R_mono (Kd.R_told (Kd.R_told (Kd.R_old (Rm (Kd.R_mono (Kd.R_far (p := ⟨gb662, 2, none⟩) (Kd.R_far (p := ⟨gb662, 1, none⟩) (Kd.R_far (p := ⟨gb662, 0, none⟩) (Kd.R_types HO654.out BK662.out (by decide)) (fun _ hk => hk.2) (.slice Ao68 t652.length co68)) (fun _ hk => hk.2) (.slice Ao73 t655.length co73)) (fun _ hk => hk.2) (.slice Ao74 t658.length co74)) (fun _ h_ => h_.1))) hb) (Kd.R_base ho0)) (Kd.R_base ho1)) (fun _ h_ => h_.1)); have n4_ := Am (Kd.R_mono (Kd.R_told (Kd.R_told (Kd.R_old (Rm (Kd.R_mono (Kd.R_far (p := ⟨gb662, 2, none⟩) (Kd.R_far (p := ⟨gb662, 1, none⟩) (Kd.R_far (p := ⟨gb662, 0, none⟩) (Kd.R_types HO657.out BK662.out (by decide)) (fun _ hk => hk.2) (.slice Ao68 t652.length co68)) (fun _ hk => hk.2) (.slice Ao73 t655.length co73)) (fun _ hk => hk.2) (.slice Ao74 t658.length co74)) (fun _ h_ => h_.1))) hb) (Kd.R_base ho0)) (Kd.R_base ho1)) (fun _ h_ => h_.1)); have n5_ := Am (Kd.S_mono (Kd.S_told (Kd.S_told (Kd.S_told (Kd.S_old (Sm (Kd.S_mono (Kd.S_far (p := ⟨gb662, 2, none⟩) (Kd.S_far (p := ⟨gb662, 1, none⟩) (Kd.S_far (p := ⟨gb662, 0, none⟩) (Kd.S_types HO660.out BK662.out (by decide)) (fun _ hk => hk.2) (.slice Ao68 t652.length co68)) (fun _ hk => hk.2) (.slice Ao73 t655.length co73)) (fun _ hk => hk.2) (.slice Ao74 t658.length co74)) (fun _ h_ => h_.1))) hb) (Kd.R_base ho0)) (Kd.R_base ho1)) (Kd.S_base ho2)) (fun _ h_ => h_.1)); have n6_ := Am (Kd.R_lower (Kd.R_new' (Kd.R_new' (Kd.R_new' (Kd.R_new' ho0 (Kd.R_lt (Rm (Kd.R_mono (Kd.R_far (p := ⟨gb662, 2, none⟩) (Kd.R_far (p := ⟨gb662, 1, none⟩) (Kd.R_far (p := ⟨gb662, 0, none⟩) (Kd.R_types HO_649000.out BK662.out (by decide)) (fun _ hk => hk.2) (.slice Ao68 t652.length co68)) (fun _ hk => hk.2) (.slice Ao73 t655.length co73)) (fun _ hk => hk.2) (.slice Ao74 t658.length co74)) (fun _ h_ => h_.1))))) (Kd.R_lt (Rm (Kd.R_mono (Kd.R_far (p := ⟨gb662, 2, none⟩) (Kd.R_far (p := ⟨gb662, 1, none⟩) (Kd.R_far (p := ⟨gb662, 0, none⟩) (Kd.R_types HO_649001.out BK662.out (by decide)) (fun _ hk => hk.2) (.slice Ao68 t652.length co68)) (fun _ hk => hk.2) (.slice Ao73 t655.length co73)) (fun _ hk => hk.2) (.slice Ao74 t658.length co74)) (fun _ h_ => h_.1))))) (Kd.R_lt (Rm (Kd.R_mono (Kd.R_far (p := ⟨gb662, 2, none⟩) (Kd.R_far (p := ⟨gb662, 1, none⟩) (Kd.R_far (p := ⟨gb662, 0, none⟩) (Kd.R_types HO654.out BK662.out (by decide)) (fun _ hk => hk.2) (.slice Ao68 t652.length co68)) (fun _ hk => hk.2) (.slice Ao73 t655.length co73)) (fun _ hk => hk.2) (.slice Ao74 t658.length co74)) (fun _ h_ => h_.1))))) (Kd.R_lt (Rm (Kd.R_mono (Kd.R_far (p := ⟨gb662, 2, none⟩) (Kd.R_far (p := ⟨gb662, 1, none⟩) (Kd.R_far (p := ⟨gb662, 0, none⟩) (Kd.R_types HO657.out BK662.out (by decide)) (fun _ hk => hk.2) (.slice Ao68 t652.length co68)) (fun _ hk => hk.2) (.slice Ao73 t655.length co73)) (fun _ hk => hk.2) (.slice Ao74 t658.length co74)) (fun _ h_ => h_.1))))) (below_size (by repeat first | exact Bl HB | refine Bp (below_set ?_ GE636.out) | refine Bp (below_set ?_ GE637.out) | refine Bp (below_set ?_ GE648.out) | refine Bp (below_set ?_ GE662.out)))); have n7_ := Am (Kd.R_lower (Kd.R_new' (Kd.R_new' (Kd.R_new' (Kd.R_new' ho1 (Kd.R_lt (Rm (Kd.R_mono (Kd.R_far (p := ⟨gb662, 2, none⟩) (Kd.R_far (p := ⟨gb662, 1, none⟩) (Kd.R_far (p := ⟨gb662, 0, none⟩) (Kd.R_types HO_649000.out BK662.out (by decide)) (fun _ hk => hk.2) (.slice Ao68 t652.length co68)) (fun _ hk => hk.2) (.slice Ao73 t655.length co73)) (fun _ hk => hk.2) (.slice Ao74 t658.length co74)) (fun _ h_ => h_.1))))) (Kd.R_lt (Rm (Kd.R_mono (Kd.R_far (p := ⟨gb662, 2, none⟩) (Kd.R_far (p := ⟨gb662, 1, none⟩) (Kd.R_far (p := ⟨gb662, 0, none⟩) (Kd.R_types HO_649001.out BK662.out (by decide)) (fun _ hk => hk.2) (.slice Ao68 t652.length co68)) (fun _ hk => hk.2) (.slice Ao73 t655.length co73)) (fun _ hk => hk.2) (.slice Ao74 t658.length co74)) (fun _ h_ => h_.1))))) (Kd.R_lt (Rm (Kd.R_mono (Kd.R_far (p := ⟨gb662, 2, none⟩) (Kd.R_far (p := ⟨gb662, 1, none⟩) (Kd.R_far (p := ⟨gb662, 0, none⟩) (Kd.R_types HO654.out BK662.out (by decide)) (fun _ hk => hk.2) (.slice Ao68 t652.length co68)) (fun _ hk => hk.2) (.slice Ao73 t655.length co73)) (fun _ hk => hk.2) (.slice Ao74 t658.length co74)) (fun _ h_ => h_.1))))) (Kd.R_lt (Rm (Kd.R_mono (Kd.R_far (p := ⟨gb662, 2, none⟩) (Kd.R_far (p := ⟨gb662, 1, none⟩) (Kd.R_far (p := ⟨gb662, 0, none⟩) (Kd.R_types HO657.out BK662.out (by decide)) (fun _ hk => hk.2) (.slice Ao68 t652.length co68)) (fun _ hk => hk.2) (.slice Ao73 t655.length co73)) (fun _ hk => hk.2) (.slice Ao74 t658.length co74)) (fun _ h_ => h_.1))))) (below_size (by repeat first | exact Bl HB | refine Bp (below_set ?_ GE636.out) | refine Bp (below_set ?_ GE637.out) | refine Bp (below_set ?_ GE648.out) | refine Bp (below_set ?_ GE662.out)))); have n8_ := Am (Kd.S_lower (Kd.S_new' (Kd.S_new' (Kd.S_new' (Kd.S_new' (Kd.S_new' (Kd.S_new' ho2 (Kd.R_lt (Rm (Kd.R_mono (Kd.R_far (p := ⟨gb662, 2, none⟩) (Kd.R_far (p := ⟨gb662, 1, none⟩) (Kd.R_far (p := ⟨gb662, 0, none⟩) (Kd.R_types HO_649000.out BK662.out (by decide)) (fun _ hk => hk.2) (.slice Ao68 t652.length co68)) (fun _ hk => hk.2) (.slice Ao73 t655.length co73)) (fun _ hk => hk.2) (.slice Ao74 t658.length co74)) (fun _ h_ => h_.1))))) (Kd.R_lt (Rm (Kd.R_mono (Kd.R_far (p := ⟨gb662, 2, none⟩) (Kd.R_far (p := ⟨gb662, 1, none⟩) (Kd.R_far (p := ⟨gb662, 0, none⟩) (Kd.R_types HO_649001.out BK662.out (by decide)) (fun _ hk => hk.2) (.slice Ao68 t652.length co68)) (fun _ hk => hk.2) (.slice Ao73 t655.length co73)) (fun _ hk => hk.2) (.slice Ao74 t658.length co74)) (fun _ h_ => h_.1))))) (Kd.S_lt (Sm (Kd.S_mono (Kd.S_far (p := ⟨gb662, 2, none⟩) (Kd.S_far (p := ⟨gb662, 1, none⟩) (Kd.S_far (p := ⟨gb662, 0, none⟩) (Kd.S_types HO_649002.out BK662.out (by decide)) (fun _ hk => hk.2) (.slice Ao68 t652.length co68)) (fun _ hk => hk.2) (.slice Ao73 t655.length co73)) (fun _ hk => hk.2) (.slice Ao74 t658.length co74)) (fun _ h_ => h_.1))))) (Kd.R_lt (Rm (Kd.R_mono (Kd.R_far (p := ⟨gb662, 2, none⟩) (Kd.R_far (p := ⟨gb662, 1, none⟩) (Kd.R_far (p := ⟨gb662, 0, none⟩) (Kd.R_types HO654.out BK662.out (by decide)) (fun _ hk => hk.2) (.slice Ao68 t652.length co68)) (fun _ hk => hk.2) (.slice Ao73 t655.length co73)) (fun _ hk => hk.2) (.slice Ao74 t658.length co74)) (fun _ h_ => h_.1))))) (Kd.R_lt (Rm (Kd.R_mono (Kd.R_far (p := ⟨gb662, 2, none⟩) (Kd.R_far (p := ⟨gb662, 1, none⟩) (Kd.R_far (p := ⟨gb662, 0, none⟩) (Kd.R_types HO657.out BK662.out (by decide)) (fun _ hk => hk.2) (.slice Ao68 t652.length co68)) (fun _ hk => hk.2) (.slice Ao73 t655.length co73)) (fun _ hk => hk.2) (.slice Ao74 t658.length co74)) (fun _ h_ => h_.1))))) (Kd.S_lt (Sm (Kd.S_mono (Kd.S_far (p := ⟨gb662, 2, none⟩) (Kd.S_far (p := ⟨gb662, 1, none⟩) (Kd.S_far (p := ⟨gb662, 0, none⟩) (Kd.S_types HO660.out BK662.out (by decide)) (fun _ hk => hk.2) (.slice Ao68 t652.length co68)) (fun _ hk => hk.2) (.slice Ao73 t655.length co73)) (fun _ hk => hk.2) (.slice Ao74 t658.length co74)) (fun _ h_ => h_.1))))) (below_size (by repeat first | exact Bl HB | refine Bp (below_set ?_ GE636.out) | refine Bp (below_set ?_ GE637.out) | refine Bp (below_set ?_ GE648.out) | refine Bp (below_set ?_ GE662.out)))); have n9_ := Am (blk_below (g := gb636) (o := .cells #[.slice A0_0 l0_0.length c0_0, .slice A0_1 l0_1.length c0_1, .slice A0_2 l0_2.length c0_2] 39 (0, 0)) (by refine Kp ?_; refine blk_far ?_ NB636_662.out _; refine Kp ?_; refine blk_far ?_ NB636_662.out _; refine Kp ?_; refine blk_far ?_ NB636_662.out _; refine Kp ?_; exact BK636.out) hb); have n10_ := Am (blk_below (g := gb637) (o := .cells #[.slice A1_0 l1_0.length c1_0, .slice A1_1 l1_1.length c1_1, .slice A1_2 l1_2.length c1_2] 39 (0, 0)) (by refine Kp ?_; refine blk_far ?_ NB637_662.out _; refine Kp ?_; refine blk_far ?_ NB637_662.out _; refine Kp ?_; refine blk_far ?_ NB637_662.out _; refine Kp ?_; exact BK637.out) hb); have n11_ := Am (blk_below (g := gb648) (o := .cells #[.slice Ao11 t638.length co11, .slice Ao15 t641.length co15, .slice Ao16 t644.length co16] 39 (0, 0)) (by refine Kp ?_; refine blk_far ?_ NB648_662.out _; refine Kp ?_; refine blk_far ?_ NB648_662.out _; refine Kp ?_; refine blk_far ?_ NB648_662.out _; refine Kp ?_; exact BK648.out) hb); have n12_ := Am (blk_below (g := gb662) (o := .cells #[.slice Ao68 t652.length co68, .slice Ao73 t655.length co73, .slice Ao74 t658.length co74] 39 (0, 0)) (by refine Kp ?_; refine blk_put (cs := #[.slice Ao68 t652.length co68, .slice Ao73 t655.length co73, .slice none 0 0]) ?_ 2 _ rfl; refine Kp ?_; refine blk_put (cs := #[.slice Ao68 t652.length co68, .slice none 0 0, .slice none 0 0]) ?_ 1 _ rfl; refine Kp ?_; refine blk_put (cs := #[.slice none 0 0, .slice none 0 0, .slice none 0 0]) ?_ 0 _ rfl; refine Kp ?_; exact BK662.out) hb); have n13_ := Am (below_step (by repeat first | exact Bl HB | refine Bp (below_set ?_ GE636.out) | refine Bp (below_set ?_ GE637.out) | refine Bp (below_set ?_ GE648.out) | refine Bp (below_set ?_ GE662.out)) hb); clear HO_649000 HO_649001 HO_649002 HO654 HO657 HO660 BK636 BK637 BK648 BK662 HB; have HO_649000 := n0_; have HO_649001 := n1_; have HO_649002 := n2_; have HO654 := n3_; have HO657 := n4_; have HO660 := n5_; have HO665 := n6_; have HO668 := n7_; have HO671 := n8_; have BK636 := n9_; have BK637 := n10_; have BK648 := n11_; have BK662 := n12_; have HB := n13_; clear n0_ n1_ n2_ n3_ n4_ n5_ n6_ n7_ n8_ n9_ n10_ n11_ n12_ n13_; (try clear hb); (try clear hb2); (try clear hk); (try clear hi); (try clear ho0); (try clear ho1); (try clear ho2)) | ((with_reducible refine gate_dst (N := 10) rfl ?_); (try (refine gate_guard (by rfl) ?_; dsimp only)); refine box_event ?hg (N := 10) ?hd (cs := #[.slice none 0 0, .slice none 0 0, .slice none 0 0]) (t := 39) ?hr ?_; (case hd => rfl); (case hg => rfl); (case hr => first | (go_simp; done) | (go_simp; rfl)); intro gb673 hg w78 hbox hb; have n0_ := Am (Kd.R_below (Rl HO_649000) hb); have n1_ := Am (Kd.R_below (Rl HO_649001) hb); have n2_ := Am (Kd.S_below (Sl HO_649002) hb); have n3_ := Am (Kd.R_below (Rl HO654) hb); have n4_ := Am (Kd.R_below (Rl HO657) hb); have n5_ := Am (Kd.S_below (Sl HO660) hb); have n6_ := Am (Kd.R_below (Rl HO665) hb); have n7_ := Am (Kd.R_below (Rl HO668) hb); have n8_ := Am (Kd.S_below (Sl HO671) hb); have n9_ := Am (blk_below (Kl BK636) hb); have n10_ := Am (blk_below (Kl BK637) hb); have n11_ := Am (blk_below (Kl BK648) hb); have n12_ := Am (blk_below (Kl BK662) hb); have n13_ := Am (below_step (by repeat first | exact Bl HB | refine Bp (below_set ?_ GE636.out) | refine Bp (below_set ?_ GE637.out) | refine Bp (below_set ?_ GE648.out) | refine Bp (below_set ?_ GE662.out)) hb); have n14_ := Am (hbox); have n15_ := Am ((by rw [hg]; exact (below_size (by repeat first | exact Bl HB | refine Bp (below_set ?_ GE636.out) | refine Bp (below_set ?_ GE637.out) | refine Bp (below_set ?_ GE648.out) | refine Bp (below_set ?_ GE662.out))) : w.heap.size ≤ gb673)); have n16_ := Am ((by rw [hg]; exact (below_size (by repeat first | exact Bl HB | refine Bp (below_set ?_ GE636.out) | refine Bp (below_set ?_ GE637.out) | refine Bp (below_set ?_ GE648.out) | refine Bp (below_set ?_ GE662.out))) : w.heap.size ≤ gb673)); have n17_ := Am ((by rw [hg]; exact Nat.ne_of_lt (blk_lt (Kl BK636)) : gb636 ≠ gb673)); have n18_ := Am ((by rw [hg]; exact Nat.ne_of_gt (blk_lt (Kl BK636)) : gb673 ≠ gb636)); have n19_ := Am ((by rw [hg]; exact Nat.ne_of_lt (blk_lt (Kl BK637)) : gb637 ≠ gb673)); have n20_ := Am ((by rw [hg]; exact Nat.ne_of_gt (blk_lt (Kl BK637)) : gb673 ≠ gb637)); have n21_ := Am ((by rw [hg]; exact Nat.ne_of_lt (blk_lt (Kl BK648)) : gb648 ≠ gb673)); have n22_ := Am ((by rw [hg]; exact Nat.ne_of_gt (blk_lt (Kl BK648)) : gb673 ≠ gb648)); have n23_ := Am ((by rw [hg]; exact Nat.ne_of_lt (blk_lt (Kl BK662)) : gb662 ≠ gb673)); have n24_ := Am ((by rw [hg]; exact Nat.ne_of_gt (blk_lt (Kl BK662)) : gb673 ≠ gb662)); clear HO_649000 HO_649001 HO_649002 HO654 HO657 HO660 HO665 HO668 HO671 BK636 BK637 BK648 BK662 HB; have HO_649000 := n0_; have HO_649001 := n1_; have HO_649002 := n2_; have HO654 := n3_; have HO657 := n4_; have HO660 := n5_; have HO665 := n6_; have HO668 := n7_; have HO671 := n8_; have BK636 := n9_; have BK637 := n10_; have BK648 := n11_; have BK662 := n12_; have HB := n13_; have BK673 := n14_; have GW673 := n15_; have GE673 := n16_; have NB636_673 := n17_; have NB673_636 := n18_; have NB637_673 := n19_; have NB673_637 := n20_; have NB648_673 := n21_; have NB673_648 := n22_; have NB662_673 := n23_; have NB673_662 := n24_; clear n0_ n1_ n2_ n3_ n4_ n5_ n6_ n7_ n8_ n9_ n10_ n11_ n12_ n13_ n14_ n15_ n16_ n17_ n18_ n19_ n20_ n21_ n22_ n23_ n24_; clear hb hbox hg; obtain ⟨Ao79, co79, eo79⟩ := Kd.R_slice HO665.out; subst eo79; have hnb80 := NB673_636.out; have hnc80 := NB636_673.out; have hnb81 := NB673_637.out; have hnc81 := NB637_673.out; have hnb82 := NB673_648.out; have hnc82 := NB648_673.out; have hnb83 := NB673_662.out; have hnc83 := NB662_673.out; have hcz84_0 : w78.cell? ⟨gb673, 0, none⟩ = some (.slice none 0 0) := (blk_cell BK673.out 0).trans rfl; have hcz84_1 : w78.cell? ⟨gb673, 1, none⟩ = some (.slice none 0 0) := (blk_cell BK673.out 1).trans rfl; have hcz84_2 : w78.cell? ⟨gb673, 2, none⟩ = some (.slice none 0 0) := (blk_cell BK673.out 2).trans rfl; have hfz84_0 := blk_frozen BK673.out 0; have hfz84_1 := blk_frozen BK673.out 1; have hfz84_2 := blk_frozen BK673.out 2; obtain ⟨Ao85, co85, eo85⟩ := Kd.R_slice HO668.out; subst eo85; obtain ⟨Ao86, co86, eo86⟩ := Kd.S_slice HO671.out; subst eo86))
      (try simp only [Act.put, List.setIfInBounds_toArray, List.set_cons_zero, List.set_cons_succ])
      go_cut [70] (fun v70 wc => ∃ (kq : Nat) (x70_59 : Bool), v70 = .bool x70_59 ∧ Aside0 (examboardlaw24_MatrixUnion.j2 kq t661 x70_59 l0_0 l0_1 l0_2 l1_0 l1_1 l1_2 t652 t655 t658 = some r) ∧ Aside0 (kq ≤ kj23) ∧ Aside0 (Kd.R (Kd.int .i64) 3 wc w.heap.size (fun k_ => some k_ ≠ ((.slice Ao15 t641.length co15) : Value).ownBlock ∧ some k_ ≠ ((.slice Ao68 t652.length co68) : Value).ownBlock ∧ some k_ ≠ ((.slice Ao73 t655.length co73) : Value).ownBlock ∧ some k_ ≠ ((.slice Ao79 t663.length co79) : Value).ownBlock ∧ some k_ ≠ ((.slice Ao85 t666.length co85) : Value).ownBlock) (.slice Ao11 t638.length co11) t638) ∧ Aside0 (Kd.R (Kd.int .i64) 3 wc w.heap.size (fun k_ => some k_ ≠ ((.slice Ao11 t638.length co11) : Value).ownBlock ∧ some k_ ≠ ((.slice Ao68 t652.length co68) : Value).ownBlock ∧ some k_ ≠ ((.slice Ao73 t655.length co73) : Value).ownBlock ∧ some k_ ≠ ((.slice Ao79 t663.length co79) : Value).ownBlock ∧ some k_ ≠ ((.slice Ao85 t666.length co85) : Value).ownBlock) (.slice Ao15 t641.length co15) t641) ∧ Aside0 (Kd.S (Kd.slice 3 (Kd.int .i64)) 36 wc w.heap.size (fun k_ => some k_ ≠ ((.slice Ao11 t638.length co11) : Value).ownBlock ∧ some k_ ≠ ((.slice Ao15 t641.length co15) : Value).ownBlock ∧ some k_ ≠ ((.slice Ao68 t652.length co68) : Value).ownBlock ∧ some k_ ≠ ((.slice Ao73 t655.length co73) : Value).ownBlock ∧ some k_ ≠ ((.slice Ao74 t658.length co74) : Value).ownBlock ∧ some k_ ≠ ((.slice Ao79 t663.length co79) : Value).ownBlock ∧ some k_ ≠ ((.slice Ao85 t666.length co85) : Value).ownBlock ∧ some k_ ≠ ((.slice Ao86 t669.length co86) : Value).ownBlock) (.slice Ao16 t644.length co16) t644) ∧ Aside0 (Kd.R (Kd.int .i64) 3 wc w.heap.size (fun k_ => some k_ ≠ ((.slice Ao11 t638.length co11) : Value).ownBlock ∧ some k_ ≠ ((.slice Ao15 t641.length co15) : Value).ownBlock ∧ some k_ ≠ ((.slice Ao73 t655.length co73) : Value).ownBlock ∧ some k_ ≠ ((.slice Ao79 t663.length co79) : Value).ownBlock ∧ some k_ ≠ ((.slice Ao85 t666.length co85) : Value).ownBlock) (.slice Ao68 t652.length co68) t652) ∧ Aside0 (Kd.R (Kd.int .i64) 3 wc w.heap.size (fun k_ => some k_ ≠ ((.slice Ao11 t638.length co11) : Value).ownBlock ∧ some k_ ≠ ((.slice Ao15 t641.length co15) : Value).ownBlock ∧ some k_ ≠ ((.slice Ao68 t652.length co68) : Value).ownBlock ∧ some k_ ≠ ((.slice Ao79 t663.length co79) : Value).ownBlock ∧ some k_ ≠ ((.slice Ao85 t666.length co85) : Value).ownBlock) (.slice Ao73 t655.length co73) t655) ∧ Aside0 (Kd.S (Kd.slice 3 (Kd.int .i64)) 36 wc w.heap.size (fun k_ => some k_ ≠ ((.slice Ao11 t638.length co11) : Value).ownBlock ∧ some k_ ≠ ((.slice Ao15 t641.length co15) : Value).ownBlock ∧ some k_ ≠ ((.slice Ao16 t644.length co16) : Value).ownBlock ∧ some k_ ≠ ((.slice Ao68 t652.length co68) : Value).ownBlock ∧ some k_ ≠ ((.slice Ao73 t655.length co73) : Value).ownBlock ∧ some k_ ≠ ((.slice Ao79 t663.length co79) : Value).ownBlock ∧ some k_ ≠ ((.slice Ao85 t666.length co85) : Value).ownBlock ∧ some k_ ≠ ((.slice Ao86 t669.length co86) : Value).ownBlock) (.slice Ao74 t658.length co74) t658) ∧ Aside0 (Kd.R (Kd.int .i64) 3 wc w.heap.size (fun k_ => some k_ ≠ ((.slice Ao11 t638.length co11) : Value).ownBlock ∧ some k_ ≠ ((.slice Ao15 t641.length co15) : Value).ownBlock ∧ some k_ ≠ ((.slice Ao68 t652.length co68) : Value).ownBlock ∧ some k_ ≠ ((.slice Ao73 t655.length co73) : Value).ownBlock ∧ some k_ ≠ ((.slice Ao85 t666.length co85) : Value).ownBlock) (.slice Ao79 t663.length co79) t663) ∧ Aside0 (Kd.R (Kd.int .i64) 3 wc w.heap.size (fun k_ => some k_ ≠ ((.slice Ao11 t638.length co11) : Value).ownBlock ∧ some k_ ≠ ((.slice Ao15 t641.length co15) : Value).ownBlock ∧ some k_ ≠ ((.slice Ao68 t652.length co68) : Value).ownBlock ∧ some k_ ≠ ((.slice Ao73 t655.length co73) : Value).ownBlock ∧ some k_ ≠ ((.slice Ao79 t663.length co79) : Value).ownBlock) (.slice Ao85 t666.length co85) t666) ∧ Aside0 (Kd.S (Kd.slice 3 (Kd.int .i64)) 36 wc w.heap.size (fun k_ => some k_ ≠ ((.slice Ao11 t638.length co11) : Value).ownBlock ∧ some k_ ≠ ((.slice Ao15 t641.length co15) : Value).ownBlock ∧ some k_ ≠ ((.slice Ao16 t644.length co16) : Value).ownBlock ∧ some k_ ≠ ((.slice Ao68 t652.length co68) : Value).ownBlock ∧ some k_ ≠ ((.slice Ao73 t655.length co73) : Value).ownBlock ∧ some k_ ≠ ((.slice Ao74 t658.length co74) : Value).ownBlock ∧ some k_ ≠ ((.slice Ao79 t663.length co79) : Value).ownBlock ∧ some k_ ≠ ((.slice Ao85 t666.length co85) : Value).ownBlock) (.slice Ao86 t669.length co86) t669) ∧ Aside0 (wc.heap[gb636]? = some (.cells #[(.slice A0_0 l0_0.length c0_0), (.slice A0_1 l0_1.length c0_1), (.slice A0_2 l0_2.length c0_2)] 39 (0, 0))) ∧ Aside0 (wc.heap[gb637]? = some (.cells #[(.slice A1_0 l1_0.length c1_0), (.slice A1_1 l1_1.length c1_1), (.slice A1_2 l1_2.length c1_2)] 39 (0, 0))) ∧ Aside0 (wc.heap[gb648]? = some (.cells #[(.slice Ao11 t638.length co11), (.slice Ao15 t641.length co15), (.slice Ao16 t644.length co16)] 39 (0, 0))) ∧ Aside0 (wc.heap[gb662]? = some (.cells #[(.slice Ao68 t652.length co68), (.slice Ao73 t655.length co73), (.slice Ao74 t658.length co74)] 39 (0, 0))) ∧ Aside0 (wc.heap[gb673]? = some (.cells #[(.slice Ao79 t663.length co79), (.slice Ao85 t666.length co85), (.slice Ao86 t669.length co86)] 39 (0, 0))) ∧ Aside0 (Below w.heap.size w wc))
      case first =>
       have H := HC60.out
       clear HC60
       by_cases c87 : t661 = t672
       ·rw [if_pos c87] at H
        have c87b0 : (t661 == t672) = true := beq_iff_eq.mpr c87
        have c87b1 : (t661 != t672) = false := bne_eq_false_iff_eq.mpr c87
        clear c87
        (first | rw [c87b0] | (simp only [i64_w, i32_w]; rw [c87b0]) | skip)
        replace H := Option.bind_eq_some_iff.mp H
        obtain ⟨t674, A880, H⟩ := H
        replace H : (examboardlaw24_MatrixUnion.j2 kj23 t661 (!t674) l0_0 l0_1 l0_2 l1_0 l1_1 l1_2 t652 t655 t658) = some r := H
        have A88 := Am A880
        clear A880
        have H' := Am H
        clear H
        have hnb89 := NB662_636.out
        have hnc89 := NB636_662.out
        have hnb90 := NB662_637.out
        have hnc90 := NB637_662.out
        have hnb91 := NB662_648.out
        have hnc91 := NB648_662.out
        have hnb92 := NB662_673.out
        have hnc92 := NB673_662.out
        have hcz93_0 : w78.cell? ⟨gb662, 0, none⟩ = some (.slice Ao68 t652.length co68) := (blk_cell BK662.out 0).trans rfl
        have hcz93_1 : w78.cell? ⟨gb662, 1, none⟩ = some (.slice Ao73 t655.length co73) := (blk_cell BK662.out 1).trans rfl
        have hcz93_2 : w78.cell? ⟨gb662, 2, none⟩ = some (.slice Ao74 t658.length co74) := (blk_cell BK662.out 2).trans rfl
        have hfz93_0 := blk_frozen BK662.out 0
        have hfz93_1 := blk_frozen BK662.out 1
        have hfz93_2 := blk_frozen BK662.out 2
        have hnb94 := NB673_636.out
        have hnc94 := NB636_673.out
        have hnb95 := NB673_637.out
        have hnc95 := NB637_673.out
        have hnb96 := NB673_648.out
        have hnc96 := NB648_673.out
        have hcz97_0 : w78.cell? ⟨gb673, 0, none⟩ = some (.slice none 0 0) := (blk_cell BK673.out 0).trans rfl
        have hcz97_1 : w78.cell? ⟨gb673, 1, none⟩ = some (.slice none 0 0) := (blk_cell BK673.out 1).trans rfl
        have hcz97_2 : w78.cell? ⟨gb673, 2, none⟩ = some (.slice none 0 0) := (blk_cell BK673.out 2).trans rfl
        have hfz97_0 := blk_frozen BK673.out 0
        have hfz97_1 := blk_frozen BK673.out 1
        have hfz97_2 := blk_frozen BK673.out 2
        go_wp2_with (first | (go_at_call 18; (with_reducible refine (examboardlaw24_same.calls kj23 _ _ t652 _ _ t655 _ _ t658 _ _ t663 _ _ t666 _ _ t669 t674 _ ?side1 ?side2 ?side3 ?side4 ?side5 ?side6 ?side7 ?side8 ?side9 ?side10 ?side11 ?side12 A88.out).mono ?_); (case side1 => refine (Kd.R_reads' (e := 3) (base := w.heap.size) (ok := fun k_ => ((((some k_ ≠ (.slice Ao73 t655.length co73 : Value).ownBlock ∧ some k_ ≠ (.slice Ao11 t638.length co11 : Value).ownBlock) ∧ some k_ ≠ (.slice Ao15 t641.length co15 : Value).ownBlock) ∧ some k_ ≠ (.slice Ao79 t663.length co79 : Value).ownBlock) ∧ some k_ ≠ (.slice Ao85 t666.length co85 : Value).ownBlock)) (n := t652.length) (c := co68) ?_).2.2; exact (Rm (Kd.R_mono (Kd.R_far (p := ⟨gb673, 2, none⟩) (Kd.R_far (p := ⟨gb673, 1, none⟩) (Kd.R_far (p := ⟨gb673, 0, none⟩) (Kd.R_types HO654.out BK673.out (by decide)) (fun _ hk => hk.2) (.slice Ao79 t663.length co79)) (fun _ hk => hk.2) (.slice Ao85 t666.length co85)) (fun _ hk => hk.2) (.slice Ao86 t669.length co86)) (fun _ h_ => h_.1)))); (case side2 => exact (Kd.R_reads' HO654.out).2.1); (case side3 => refine (Kd.R_reads' (e := 3) (base := w.heap.size) (ok := fun k_ => ((((some k_ ≠ (.slice Ao68 t652.length co68 : Value).ownBlock ∧ some k_ ≠ (.slice Ao11 t638.length co11 : Value).ownBlock) ∧ some k_ ≠ (.slice Ao15 t641.length co15 : Value).ownBlock) ∧ some k_ ≠ (.slice Ao79 t663.length co79 : Value).ownBlock) ∧ some k_ ≠ (.slice Ao85 t666.length co85 : Value).ownBlock)) (n := t655.length) (c := co73) ?_).2.2; exact (Rm (Kd.R_mono (Kd.R_far (p := ⟨gb673, 2, none⟩) (Kd.R_far (p := ⟨gb673, 1, none⟩) (Kd.R_far (p := ⟨gb673, 0, none⟩) (Kd.R_types HO657.out BK673.out (by decide)) (fun _ hk => hk.2) (.slice Ao79 t663.length co79)) (fun _ hk => hk.2) (.slice Ao85 t666.length co85)) (fun _ hk => hk.2) (.slice Ao86 t669.length co86)) (fun _ h_ => h_.1)))); (case side4 => exact (Kd.R_reads' HO657.out).2.1); (case side5 => refine (Kd.S_reads' (e := 36) (base := w.heap.size) (ok := fun k_ => (((((((some k_ ≠ (.slice Ao68 t652.length co68 : Value).ownBlock ∧ some k_ ≠ (.slice Ao73 t655.length co73 : Value).ownBlock) ∧ some k_ ≠ (.slice Ao11 t638.length co11 : Value).ownBlock) ∧ some k_ ≠ (.slice Ao15 t641.length co15 : Value).ownBlock) ∧ some k_ ≠ (.slice Ao16 t644.length co16 : Value).ownBlock) ∧ some k_ ≠ (.slice Ao79 t663.length co79 : Value).ownBlock) ∧ some k_ ≠ (.slice Ao85 t666.length co85 : Value).ownBlock) ∧ some k_ ≠ (.slice Ao86 t669.length co86 : Value).ownBlock)) (n := t658.length) (c := co74) ?_).2.2; exact (Sm (Kd.S_mono (Kd.S_far (p := ⟨gb673, 2, none⟩) (Kd.S_far (p := ⟨gb673, 1, none⟩) (Kd.S_far (p := ⟨gb673, 0, none⟩) (Kd.S_types HO660.out BK673.out (by decide)) (fun _ hk => hk.2) (.slice Ao79 t663.length co79)) (fun _ hk => hk.2) (.slice Ao85 t666.length co85)) (fun _ hk => hk.2) (.slice Ao86 t669.length co86)) (fun _ h_ => h_.1)))); (case side6 => exact (Kd.S_reads' HO660.out).2.1); (case side7 => refine (Kd.R_reads' (e := 3) (base := w.heap.size) (ok := fun k_ => ((((some k_ ≠ (.slice Ao85 t666.length co85 : Value).ownBlock ∧ some k_ ≠ (.slice Ao11 t638.length co11 : Value).ownBlock) ∧ some k_ ≠ (.slice Ao15 t641.length co15 : Value).ownBlock) ∧ some k_ ≠ (.slice Ao68 t652.length co68 : Value).ownBlock) ∧ some k_ ≠ (.slice Ao73 t655.length co73 : Value).ownBlock)) (n := t663.length) (c := co79) ?_).2.2; exact (Rm (Kd.R_mono (Kd.R_far (p := ⟨gb673, 2, none⟩) (Kd.R_far (p := ⟨gb673, 1, none⟩) (Kd.R_far (p := ⟨gb673, 0, none⟩) (Kd.R_types HO665.out BK673.out (by decide)) (fun _ hk => hk.2) (.slice Ao79 t663.length co79)) (fun _ hk => hk.2) (.slice Ao85 t666.length co85)) (fun _ hk => hk.2) (.slice Ao86 t669.length co86)) (fun _ h_ => h_.1)))); (case side8 => exact (Kd.R_reads' HO665.out).2.1); (case side9 => refine (Kd.R_reads' (e := 3) (base := w.heap.size) (ok := fun k_ => ((((some k_ ≠ (.slice Ao79 t663.length co79 : Value).ownBlock ∧ some k_ ≠ (.slice Ao11 t638.length co11 : Value).ownBlock) ∧ some k_ ≠ (.slice Ao15 t641.length co15 : Value).ownBlock) ∧ some k_ ≠ (.slice Ao68 t652.length co68 : Value).ownBlock) ∧ some k_ ≠ (.slice Ao73 t655.length co73 : Value).ownBlock)) (n := t666.length) (c := co85) ?_).2.2; exact (Rm (Kd.R_mono (Kd.R_far (p := ⟨gb673, 2, none⟩) (Kd.R_far (p := ⟨gb673, 1, none⟩) (Kd.R_far (p := ⟨gb673, 0, none⟩) (Kd.R_types HO668.out BK673.out (by decide)) (fun _ hk => hk.2) (.slice Ao79 t663.length co79)) (fun _ hk => hk.2) (.slice Ao85 t666.length co85)) (fun _ hk => hk.2) (.slice Ao86 t669.length co86)) (fun _ h_ => h_.1)))); (case side10 => exact (Kd.R_reads' HO668.out).2.1); (case side11 => refine (Kd.S_reads' (e := 36) (base := w.heap.size) (ok := fun k_ => (((((((some k_ ≠ (.slice Ao79 t663.length co79 : Value).ownBlock ∧ some k_ ≠ (.slice Ao85 t666.length co85 : Value).ownBlock) ∧ some k_ ≠ (.slice Ao11 t638.length co11 : Value).ownBlock) ∧ some k_ ≠ (.slice Ao15 t641.length co15 : Value).ownBlock) ∧ some k_ ≠ (.slice Ao16 t644.length co16 : Value).ownBlock) ∧ some k_ ≠ (.slice Ao68 t652.length co68 : Value).ownBlock) ∧ some k_ ≠ (.slice Ao73 t655.length co73 : Value).ownBlock) ∧ some k_ ≠ (.slice Ao74 t658.length co74 : Value).ownBlock)) (n := t669.length) (c := co86) ?_).2.2; exact (Sm (Kd.S_mono (Kd.S_far (p := ⟨gb673, 2, none⟩) (Kd.S_far (p := ⟨gb673, 1, none⟩) (Kd.S_far (p := ⟨gb673, 0, none⟩) (Kd.S_types HO671.out BK673.out (by decide)) (fun _ hk => hk.2) (.slice Ao79 t663.length co79)) (fun _ hk => hk.2) (.slice Ao85 t666.length co85)) (fun _ hk => hk.2) (.slice Ao86 t669.length co86)) (fun _ h_ => h_.1)))); (case side12 => exact (Kd.S_reads' HO671.out).2.1); rintro e w98 ⟨rfl, hb⟩; have n0_ := Am (Kd.R_below (Rm (Kd.R_mono (Kd.R_far (p := ⟨gb673, 2, none⟩) (Kd.R_far (p := ⟨gb673, 1, none⟩) (Kd.R_far (p := ⟨gb673, 0, none⟩) (Kd.R_types HO_649000.out BK673.out (by decide)) (fun _ hk => hk.2) (.slice Ao79 t663.length co79)) (fun _ hk => hk.2) (.slice Ao85 t666.length co85)) (fun _ hk => hk.2) (.slice Ao86 t669.length co86)) (fun _ h_ => h_.1))) hb); have n1_ := Am (Kd.R_below (Rm (Kd.R_mono (Kd.R_far (p := ⟨gb673, 2, none⟩) (Kd.R_far (p := ⟨gb673, 1, none⟩) (Kd.R_far (p := ⟨gb673, 0, none⟩) (Kd.R_types HO_649001.out BK673.out (by decide)) (fun _ hk => hk.2) (.slice Ao79 t663.length co79)) (fun _ hk => hk.2) (.slice Ao85 t666.length co85)) (fun _ hk => hk.2) (.slice Ao86 t669.length co86)) (fun _ h_ => h_.1))) hb); have n2_ := Am (Kd.S_below (Sm (Kd.S_mono (Kd.S_far (p := ⟨gb673, 2, none⟩) (Kd.S_far (p := ⟨gb673, 1, none⟩) (Kd.S_far (p := ⟨gb673, 0, none⟩) (Kd.S_types HO_649002.out BK673.out (by decide)) (fun _ hk => hk.2) (.slice Ao79 t663.length co79)) (fun _ hk => hk.2) (.slice Ao85 t666.length co85)) (fun _ hk => hk.2) (.slice Ao86 t669.length co86)) (fun _ h_ => h_.1))) hb); have n3_ := Am (Kd.R_below (Rm (Kd.R_mono (Kd.R_far (p := ⟨gb673, 2, none⟩) (Kd.R_far (p := ⟨gb673, 1, none⟩) (Kd.R_far (p := ⟨gb673, 0, none⟩) (Kd.R_types HO654.out BK673.out (by decide)) (fun _ hk => hk.2) (.slice Ao79 t663.length co79)) (fun _ hk => hk.2) (.slice Ao85 t666.length co85)) (fun _ hk => hk.2) (.slice Ao86 t669.length co86)) (fun _ h_ => h_.1))) hb); have n4_ := Am (Kd.R_below (Rm (Kd.R_mono (Kd.R_far (p := ⟨gb673, 2, none⟩) (Kd.R_far (p := ⟨gb673, 1, none⟩) (Kd.R_far (p := ⟨gb673, 0, none⟩) (Kd.R_types HO657.out BK673.out (by decide)) (fun _ hk => hk.2) (.slice Ao79 t663.length co79)) (fun _ hk => hk.2) (.slice Ao85 t666.length co85)) (fun _ hk => hk.2) (.slice Ao86 t669.length co86)) (fun _ h_ => h_.1))) hb); have n5_ := Am (Kd.S_below (Sm (Kd.S_mono (Kd.S_far (p := ⟨gb673, 2, none⟩) (Kd.S_far (p := ⟨gb673, 1, none⟩) (Kd.S_far (p := ⟨gb673, 0, none⟩) (Kd.S_types HO660.out BK673.out (by decide)) (fun _ hk => hk.2) (.slice Ao79 t663.length co79)) (fun _ hk => hk.2) (.slice Ao85 t666.length co85)) (fun _ hk => hk.2) (.slice Ao86 t669.length co86)) (fun _ h_ => h_.1))) hb); have n6_ := Am (Kd.R_below (Rm (Kd.R_mono (Kd.R_far (p := ⟨gb673, 2, none⟩) (Kd.R_far (p := ⟨gb673, 1, none⟩) (Kd.R_far (p := ⟨gb673, 0, none⟩) (Kd.R_types HO665.out BK673.out (by decide)) (fun _ hk => hk.2) (.slice Ao79 t663.length co79)) (fun _ hk => hk.2) (.slice Ao85 t666.length co85)) (fun _ hk => hk.2) (.slice Ao86 t669.length co86)) (fun _ h_ => h_.1))) hb); have n7_ := Am (Kd.R_below (Rm (Kd.R_mono (Kd.R_far (p := ⟨gb673, 2, none⟩) (Kd.R_far (p := ⟨gb673, 1, none⟩) (Kd.R_far (p := ⟨gb673, 0, none⟩) (Kd.R_types HO668.out BK673.out (by decide)) (fun _ hk => hk.2) (.slice Ao79 t663.length co79)) (fun _ hk => hk.2) (.slice Ao85 t666.length co85)) (fun _ hk => hk.2) (.slice Ao86 t669.length co86)) (fun _ h_ => h_.1))) hb); have n8_ := Am (Kd.S_below (Sm (Kd.S_mono (Kd.S_far (p := ⟨gb673, 2, none⟩) (Kd.S_far (p := ⟨gb673, 1, none⟩) (Kd.S_far (p := ⟨gb673, 0, none⟩) (Kd.S_types HO671.out BK673.out (by decide)) (fun _ hk => hk.2) (.slice Ao79 t663.length co79)) (fun _ hk => hk.2) (.slice Ao85 t666.length co85)) (fun _ hk => hk.2) (.slice Ao86 t669.length co86)) (fun _ h_ => h_.1))) hb); have n9_ := Am (blk_below (g := gb636) (o := .cells #[.slice A0_0 l0_0.length c0_0, .slice A0_1 l0_1.length c0_1, .slice A0_2 l0_2.length c0_2] 39 (0, 0)) (by refine Kp ?_; refine blk_far ?_ NB636_673.out _; refine Kp ?_; refine blk_far ?_ NB636_673.out _; refine Kp ?_; refine blk_far ?_ NB636_673.out _; refine Kp ?_; exact BK636.out) hb); have n10_ := Am (blk_below (g := gb637) (o := .cells #[.slice A1_0 l1_0.length c1_0, .slice A1_1 l1_1.length c1_1, .slice A1_2 l1_2.length c1_2] 39 (0, 0)) (by refine Kp ?_; refine blk_far ?_ NB637_673.out _; refine Kp ?_; refine blk_far ?_ NB637_673.out _; refine Kp ?_; refine blk_far ?_ NB637_673.out _; refine Kp ?_; exact BK637.out) hb); have n11_ := Am (blk_below (g := gb648) (o := .cells #[.slice Ao11 t638.length co11, .slice Ao15 t641.length co15, .slice Ao16 t644.length co16] 39 (0, 0)) (by refine Kp ?_; refine blk_far ?_ NB648_673.out _; refine Kp ?_; refine blk_far ?_ NB648_673.out _; refine Kp ?_; refine blk_far ?_ NB648_673.out _; refine Kp ?_; exact BK648.out) hb); have n12_ := Am (blk_below (g := gb662) (o := .cells #[.slice Ao68 t652.length co68, .slice Ao73 t655.length co73, .slice Ao74 t658.length co74] 39 (0, 0)) (by refine Kp ?_; refine blk_far ?_ NB662_673.out _; refine Kp ?_; refine blk_far ?_ NB662_673.out _; refine Kp ?_; refine blk_far ?_ NB662_673.out _; refine Kp ?_; exact BK662.out) hb); have n13_ := Am (blk_below (g := gb673) (o := .cells #[.slice Ao79 t663.length co79, .slice Ao85 t666.length co85, .slice Ao86 t669.length co86] 39 (0, 0)) (by refine Kp ?_; refine blk_put (cs := #[.slice Ao79 t663.length co79, .slice Ao85 t666.length co85, .slice none 0 0]) ?_ 2 _ rfl; refine Kp ?_; refine blk_put (cs := #[.slice Ao79 t663.length co79, .slice none 0 0, .slice none 0 0]) ?_ 1 _ rfl; refine Kp ?_; refine blk_put (cs := #[.slice none 0 0, .slice none 0 0, .slice none 0 0]) ?_ 0 _ rfl; refine Kp ?_; exact BK673.out) hb); have n14_ := Am (below_step (by repeat first | exact Bl HB | refine Bp (below_set ?_ GE636.out) | refine Bp (below_set ?_ GE637.out) | refine Bp (below_set ?_ GE648.out) | refine Bp (below_set ?_ GE662.out) | refine Bp (below_set ?_ GE673.out)) hb); clear HO_649000 HO_649001 HO_649002 HO654 HO657 HO660 HO665 HO668 HO671 BK636 BK637 BK648 BK662 BK673 HB; have HO_649000 := n0_; have HO_649001 := n1_; have HO_649002 := n2_; have HO654 := n3_; have HO657 := n4_; have HO660 := n5_; have HO665 := n6_; have HO668 := n7_; have HO671 := n8_; have BK636 := n9_; have BK637 := n10_; have BK648 := n11_; have BK662 := n12_; have BK673 := n13_; have HB := n14_; clear n0_ n1_ n2_ n3_ n4_ n5_ n6_ n7_ n8_ n9_ n10_ n11_ n12_ n13_ n14_; (try clear hb); (try clear hb2); (try clear hk); (try clear hi)))
        go_meet
        case rel => exact ⟨_, (!t674), (by first | rfl | (simp; done) | (simp [*]; done)), H', ⟨by have := HJ3.out; have := HJ23.out; first | omega | exact Nat.le_refl _⟩, ⟨Rm (Kd.R_mono HO_649000.out (fun _ hk => ⟨hk.1.1.1.1, ⟨hk.1.1.1.2, ⟨hk.1.1.2, ⟨hk.1.2, hk.2⟩⟩⟩⟩))⟩, ⟨Rm (Kd.R_mono HO_649001.out (fun _ hk => ⟨hk.1.1.1.1, ⟨hk.1.1.1.2, ⟨hk.1.1.2, ⟨hk.1.2, hk.2⟩⟩⟩⟩))⟩, ⟨Sm (Kd.S_mono HO_649002.out (fun _ hk => ⟨hk.1.1.1.1.1.1.1, ⟨hk.1.1.1.1.1.1.2, ⟨hk.1.1.1.1.1.2, ⟨hk.1.1.1.1.2, ⟨hk.1.1.1.2, ⟨hk.1.1.2, ⟨hk.1.2, hk.2⟩⟩⟩⟩⟩⟩⟩))⟩, ⟨Rm (Kd.R_mono HO654.out (fun _ hk => ⟨hk.1.1.1.2, ⟨hk.1.1.2, ⟨hk.1.1.1.1, ⟨hk.1.2, hk.2⟩⟩⟩⟩))⟩, ⟨Rm (Kd.R_mono HO657.out (fun _ hk => ⟨hk.1.1.1.2, ⟨hk.1.1.2, ⟨hk.1.1.1.1, ⟨hk.1.2, hk.2⟩⟩⟩⟩))⟩, ⟨Sm (Kd.S_mono HO660.out (fun _ hk => ⟨hk.1.1.1.1.1.2, ⟨hk.1.1.1.1.2, ⟨hk.1.1.1.2, ⟨hk.1.1.1.1.1.1.1, ⟨hk.1.1.1.1.1.1.2, ⟨hk.1.1.2, ⟨hk.1.2, hk.2⟩⟩⟩⟩⟩⟩⟩))⟩, ⟨Rm (Kd.R_mono HO665.out (fun _ hk => ⟨hk.1.1.1.2, ⟨hk.1.1.2, ⟨hk.1.2, ⟨hk.2, hk.1.1.1.1⟩⟩⟩⟩))⟩, ⟨Rm (Kd.R_mono HO668.out (fun _ hk => ⟨hk.1.1.1.2, ⟨hk.1.1.2, ⟨hk.1.2, ⟨hk.2, hk.1.1.1.1⟩⟩⟩⟩))⟩, ⟨Sm (Kd.S_mono HO671.out (fun _ hk => ⟨hk.1.1.1.1.1.2, ⟨hk.1.1.1.1.2, ⟨hk.1.1.1.2, ⟨hk.1.1.2, ⟨hk.1.2, ⟨hk.2, ⟨hk.1.1.1.1.1.1.1, hk.1.1.1.1.1.1.2⟩⟩⟩⟩⟩⟩⟩))⟩, ⟨Kl BK636⟩, ⟨Kl BK637⟩, ⟨Kl BK648⟩, ⟨Kl BK662⟩, ⟨Kl BK673⟩, ⟨by repeat first | exact Bl HB | refine Bp (below_set ?_ GE636.out) | refine Bp (below_set ?_ GE637.out) | refine Bp (below_set ?_ GE648.out) | refine Bp (below_set ?_ GE662.out) | refine Bp (below_set ?_ GE673.out)⟩⟩
       ·rw [if_neg c87] at H
        exact absurd H (by simp)
      case rest =>
       clear HC60
       try clear c1
       try clear c2
       try clear p2
       try clear c3
       try clear c4
       try clear c5
       try clear c6
       try clear c7
       try clear c8
       try clear c9
       try clear c12
       try clear c13
       try clear c17
       try clear c17b0
       try clear c17b1
       try clear c18
       try clear c19
       try clear c21
       try clear c22
       try clear c24
       try clear c26
       try clear c27
       try clear c27b0
       try clear c27b1
       try clear c27b2
       try clear c28
       try clear c28b0
       try clear c28b1
       try clear c30
       try clear c31
       try clear c34
       try clear c38
       try clear c39
       try clear c42
       try clear c42b0
       try clear c42b1
       try clear c42b2
       try clear c43
       try clear c43b0
       try clear c43b1
       try clear c45
       try clear c46
       try clear c49
       try clear c53
       try clear c54
       try clear c57
       try clear c61
       try clear c62
       try clear c64
       try clear c69
       try clear c70
       try clear c71
       try clear c80
       try clear c81
       try clear c82
       try clear c83
       try clear c87
       try clear c87b0
       try clear c87b1
       try clear c89
       try clear c90
       try clear c91
       try clear c92
       try clear c94
       try clear c95
       try clear c96
       try clear hcz14_0
       try clear hcz14_1
       try clear hcz14_2
       try clear hcz20_0
       try clear hcz20_1
       try clear hcz20_2
       try clear hcz23_0
       try clear hcz23_1
       try clear hcz23_2
       try clear hcz32_0
       try clear hcz32_1
       try clear hcz32_2
       try clear hcz35_0
       try clear hcz35_1
       try clear hcz35_2
       try clear hcz36_0
       try clear hcz36_1
       try clear hcz36_2
       try clear hcz40_0
       try clear hcz40_1
       try clear hcz40_2
       try clear hcz47_0
       try clear hcz47_1
       try clear hcz47_2
       try clear hcz50_0
       try clear hcz50_1
       try clear hcz50_2
       try clear hcz51_0
       try clear hcz51_1
       try clear hcz51_2
       try clear hcz55_0
       try clear hcz55_1
       try clear hcz55_2
       try clear hcz63_0
       try clear hcz63_1
       try clear hcz63_2
       try clear hcz65_0
       try clear hcz65_1
       try clear hcz65_2
       try clear hcz72_0
       try clear hcz72_1
       try clear hcz72_2
       try clear hcz75_0
       try clear hcz75_1
       try clear hcz75_2
       try clear hcz76_0
       try clear hcz76_1
       try clear hcz76_2
       try clear hcz84_0
       try clear hcz84_1
       try clear hcz84_2
       try clear hcz8_0
       try clear hcz8_1
       try clear hcz8_2
       try clear hcz93_0
       try clear hcz93_1
       try clear hcz93_2
       try clear hcz97_0
       try clear hcz97_1
       try clear hcz97_2
       try clear hfz14_0
       try clear hfz14_1
       try clear hfz14_2
       try clear hfz20_0
       try clear hfz20_1
       try clear hfz20_2
       try clear hfz23_0
       try clear hfz23_1
       try clear hfz23_2
       try clear hfz32_0
       try clear hfz32_1
       try clear hfz32_2
       try clear hfz35_0
       try clear hfz35_1
       try clear hfz35_2
       try clear hfz36_0
       try clear hfz36_1
       try clear hfz36_2
       try clear hfz40_0
       try clear hfz40_1
       try clear hfz40_2
       try clear hfz47_0
       try clear hfz47_1
       try clear hfz47_2
       try clear hfz50_0
       try clear hfz50_1
       try clear hfz50_2
       try clear hfz51_0
       try clear hfz51_1
       try clear hfz51_2
       try clear hfz55_0
       try clear hfz55_1
       try clear hfz55_2
       try clear hfz63_0
       try clear hfz63_1
       try clear hfz63_2
       try clear hfz65_0
       try clear hfz65_1
       try clear hfz65_2
       try clear hfz72_0
       try clear hfz72_1
       try clear hfz72_2
       try clear hfz75_0
       try clear hfz75_1
       try clear hfz75_2
       try clear hfz76_0
       try clear hfz76_1
       try clear hfz76_2
       try clear hfz84_0
       try clear hfz84_1
       try clear hfz84_2
       try clear hfz8_0
       try clear hfz8_1
       try clear hfz8_2
       try clear hfz93_0
       try clear hfz93_1
       try clear hfz93_2
       try clear hfz97_0
       try clear hfz97_1
       try clear hfz97_2
       try clear p2
       obtain ⟨kq, x70_59, rfl, HA, HJ59, HO_649000, HO_649001, HO_649002, HO_663000, HO_663001, HO_663002, HO_674000, HO_674001, HO_674002, BK636, BK637, BK648, BK662, BK673, HB⟩ := hcut
       cases kq with
       | zero => exact absurd HA.out (by simp [examboardlaw24_MatrixUnion.j2])
       | succ kj59 =>
        have H := HA.out
        clear HA
        simp only [examboardlaw24_MatrixUnion.j2] at H
        by_cases c99 : x70_59 = true
        ·subst c99
         have H1 : (none) = some r := by rw [if_pos rfl] at H; exact H
         clear H
         have H := H1
         clear H1
         exact absurd H (by simp)
        ·replace c99 := Bool.eq_false_iff.mpr c99
         subst c99
         have H1 : (if t661 = 0 then ((matrix_Select.f kj59 t652 t655 t658 l0_0 l0_1).bind fun bt676 => ((matrix_Select.f kj59 t652 t655 t658 l1_0 l1_1).bind fun bt687 => (if bt676.2.2.2 = 0 then (if bt687.2.2.2 = 0 then ((examboardlaw24_same.f kj59 bt676.1 bt676.2.1 bt676.2.2.1 l0_0 l0_1 l0_2).bind fun t698 => (if t698 = true then ((examboardlaw24_same.f kj59 bt687.1 bt687.2.1 bt687.2.2.1 l1_0 l1_1 l1_2).bind fun t699 => (if t699 = true then ((examboardlaw24_awake.f kj59).bind fun t700 => (some t700)) else (none))) else (none))) else (none)) else (none)))) else ((examboardlaw24_awake.f kj59).bind fun t675 => (some t675))) = some r := by rw [if_neg (show ¬ (false = true) by decide)] at H; exact H
         clear H
         have H := H1
         clear H1
         by_cases c100 : t661 = 0
         ·rw [if_pos c100] at H
          have c100b0 : (t661 == 0) = true := beq_iff_eq.mpr c100
          have c100b1 : (t661 != 0) = false := bne_eq_false_iff_eq.mpr c100
          clear c100
          replace H := Option.bind_eq_some_iff.mp H
          obtain ⟨⟨t676, t679, t682, t685⟩, A1010, H⟩ := H
          replace H : ((matrix_Select.f kj59 t652 t655 t658 l1_0 l1_1).bind fun bt687 => (if t685 = 0 then (if bt687.2.2.2 = 0 then ((examboardlaw24_same.f kj59 t676 t679 t682 l0_0 l0_1 l0_2).bind fun t698 => (if t698 = true then ((examboardlaw24_same.f kj59 bt687.1 bt687.2.1 bt687.2.2.1 l1_0 l1_1 l1_2).bind fun t699 => (if t699 = true then ((examboardlaw24_awake.f kj59).bind fun t700 => (some t700)) else (none))) else (none))) else (none)) else (none))) = some r := H
          have A101 := Am A1010
          clear A1010
          replace H := Option.bind_eq_some_iff.mp H
          obtain ⟨⟨t687, t690, t693, t696⟩, A1020, H⟩ := H
          replace H : (if t685 = 0 then (if t696 = 0 then ((examboardlaw24_same.f kj59 t676 t679 t682 l0_0 l0_1 l0_2).bind fun t698 => (if t698 = true then ((examboardlaw24_same.f kj59 t687 t690 t693 l1_0 l1_1 l1_2).bind fun t699 => (if t699 = true then ((examboardlaw24_awake.f kj59).bind fun t700 => (some t700)) else (none))) else (none))) else (none)) else (none)) = some r := H
          have A102 := Am A1020
          clear A1020
          by_cases c103 : t685 = 0
          ·rw [if_pos c103] at H
           have c103b0 : (t685 == 0) = true := beq_iff_eq.mpr c103
           have c103b1 : (t685 != 0) = false := bne_eq_false_iff_eq.mpr c103
           clear c103
           by_cases c104 : t696 = 0
           ·rw [if_pos c104] at H
            have c104b0 : (t696 == 0) = true := beq_iff_eq.mpr c104
            have c104b1 : (t696 != 0) = false := bne_eq_false_iff_eq.mpr c104
            clear c104
            replace H := Option.bind_eq_some_iff.mp H
            obtain ⟨t698, A1050, H⟩ := H
            replace H : (if t698 = true then ((examboardlaw24_same.f kj59 t687 t690 t693 l1_0 l1_1 l1_2).bind fun t699 => (if t699 = true then ((examboardlaw24_awake.f kj59).bind fun t700 => (some t700)) else (none))) else (none)) = some r := H
            have A105 := Am A1050
            clear A1050
            by_cases c106 : t698 = true
            ·subst c106
             have H1 : ((examboardlaw24_same.f kj59 t687 t690 t693 l1_0 l1_1 l1_2).bind fun t699 => (if t699 = true then ((examboardlaw24_awake.f kj59).bind fun t700 => (some t700)) else (none))) = some r := by rw [if_pos rfl] at H; exact H
             clear H
             have H := H1
             clear H1
             replace H := Option.bind_eq_some_iff.mp H
             obtain ⟨t699, A1070, H⟩ := H
             replace H : (if t699 = true then ((examboardlaw24_awake.f kj59).bind fun t700 => (some t700)) else (none)) = some r := H
             have A107 := Am A1070
             clear A1070
             by_cases c108 : t699 = true
             ·subst c108
              have H1 : ((examboardlaw24_awake.f kj59).bind fun t700 => (some t700)) = some r := by rw [if_pos rfl] at H; exact H
              clear H
              have H := H1
              clear H1
              replace H := Option.bind_eq_some_iff.mp H
              obtain ⟨t700, A1090, H⟩ := H
              replace H : (some t700) = some r := H
              have A109 := Am A1090
              clear A1090
              obtain rfl := Option.some.inj H
              have hnb110 := NB662_636.out
              have hnc110 := NB636_662.out
              have hnb111 := NB662_637.out
              have hnc111 := NB637_662.out
              have hnb112 := NB662_648.out
              have hnc112 := NB648_662.out
              have hnb113 := NB662_673.out
              have hnc113 := NB673_662.out
              have hcz114_0 : wc.cell? ⟨gb662, 0, none⟩ = some (.slice Ao68 t652.length co68) := (blk_cell BK662.out 0).trans rfl
              have hcz114_1 : wc.cell? ⟨gb662, 1, none⟩ = some (.slice Ao73 t655.length co73) := (blk_cell BK662.out 1).trans rfl
              have hcz114_2 : wc.cell? ⟨gb662, 2, none⟩ = some (.slice Ao74 t658.length co74) := (blk_cell BK662.out 2).trans rfl
              have hfz114_0 := blk_frozen BK662.out 0
              have hfz114_1 := blk_frozen BK662.out 1
              have hfz114_2 := blk_frozen BK662.out 2
              have hnb115 := NB636_637.out
              have hnc115 := NB637_636.out
              have hnb116 := NB636_648.out
              have hnc116 := NB648_636.out
              have hnb117 := NB636_673.out
              have hnc117 := NB673_636.out
              have hcz118_0 : wc.cell? ⟨gb636, 0, none⟩ = some (.slice A0_0 l0_0.length c0_0) := (blk_cell BK636.out 0).trans rfl
              have hcz118_1 : wc.cell? ⟨gb636, 1, none⟩ = some (.slice A0_1 l0_1.length c0_1) := (blk_cell BK636.out 1).trans rfl
              have hcz118_2 : wc.cell? ⟨gb636, 2, none⟩ = some (.slice A0_2 l0_2.length c0_2) := (blk_cell BK636.out 2).trans rfl
              have hfz118_0 := blk_frozen BK636.out 0
              have hfz118_1 := blk_frozen BK636.out 1
              have hfz118_2 := blk_frozen BK636.out 2
              go_wp2_with (first | ((with_reducible refine gate_callee (f := 16) rfl ?_); refine goesL_ (some 80) rfl rfl Try.func16 (by kernel_rfl) rfl #[.agg #[.slice Ao68 t652.length co68, .slice Ao73 t655.length co73, .slice Ao74 t658.length co74], .slice A0_0 l0_0.length c0_0, .slice A0_1 l0_1.length c0_1] rfl (by (try simp only [List.map_toArray, List.map_cons, List.map_nil]); first | done | rfl | (simp only [List.length_drop, List.length_take]; rfl)) ?_; (with_reducible refine (matrix_Select.calls kj59 _ _ t652 _ _ t655 _ _ t658 _ _ l0_0 _ _ l0_1 t676 t679 t682 t685 _ ?side1 ?side2 ?side3 ?side4 ?side5 ?side6 ?side7 ?side8 ?side9 ?side10 A101.out).mono ?_); (case side1 => exact Cm (Kd.R_reads' HO_663000.out).2.2); (case side2 => exact (Kd.R_reads' HO_663000.out).2.1); (case side3 => exact Cm (Kd.R_reads' HO_663001.out).2.2); (case side4 => exact (Kd.R_reads' HO_663001.out).2.1); (case side5 => repeat (first | exact (Kd.S_reads' HO_663002.out).2.2 | (with_reducible refine Kd.C_alloc ?_ _) | (with_reducible refine Kd.C_drewN ?_ _) | (with_reducible refine Kd.C_drew ?_))); (case side6 => exact (Kd.S_reads' HO_663002.out).2.1); (case side7 => repeat (first | exact (Kd.C_below HR0_0.out HB.out) | (with_reducible refine Kd.C_alloc ?_ _) | (with_reducible refine Kd.C_drewN ?_ _) | (with_reducible refine Kd.C_drew ?_))); (case side8 => exact HC0_0.out); (case side9 => repeat (first | exact (Kd.C_below HR0_1.out HB.out) | (with_reducible refine Kd.C_alloc ?_ _) | (with_reducible refine Kd.C_drewN ?_ _) | (with_reducible refine Kd.C_drew ?_))); (case side10 => exact HC0_1.out); rintro e w119 ⟨v677, v680, v683, rfl, ho0, ho1, ho2, hb⟩; refine ⟨_, rfl, ?_⟩; have n0_ := Am (Kd.R_mono (Kd.R_told (Kd.R_told (Kd.R_old (Rl HO_649000) hb) (Kd.R_base ho0)) (Kd.R_base ho1)) (fun _ h_ => h_.1)); have n1_ := Am (Kd.R_mono (Kd.R_told (Kd.R_told (Kd.R_old (Rl HO_649001) hb) (Kd.R_base ho0)) (Kd.R_base ho1)) (fun _ h_ => h_.1)); have n2_ := Am (Kd.S_mono (Kd.S_told (Kd.S_told (Kd.S_told (Kd.S_old (Sl HO_649002) hb) (Kd.R_base ho0)) (Kd.R_base ho1)) (Kd.S_base ho2)) (fun _ h_ => h_.1)); have n3_ := Am (Kd.R_mono (Kd.R_told (Kd.R_told (Kd.R_old (Rl HO_663000) hb) (Kd.R_base ho0)) (Kd.R_base ho1)) (fun _ h_ => h_.1)); have n4_ := Am (Kd.R_mono (Kd.R_told (Kd.R_told (Kd.R_old (Rl HO_663001) hb) (Kd.R_base ho0)) (Kd.R_base ho1)) (fun _ h_ => h_.1)); have n5_ := Am (Kd.S_mono (Kd.S_told (Kd.S_told (Kd.S_told (Kd.S_old (Sl HO_663002) hb) (Kd.R_base ho0)) (Kd.R_base ho1)) (Kd.S_base ho2)) (fun _ h_ => h_.1)); have n6_ := Am (Kd.R_mono (Kd.R_told (Kd.R_told (Kd.R_old (Rl HO_674000) hb) (Kd.R_base ho0)) (Kd.R_base ho1)) (fun _ h_ => h_.1)); have n7_ := Am (Kd.R_mono (Kd.R_told (Kd.R_told (Kd.R_old (Rl HO_674001) hb) (Kd.R_base ho0)) (Kd.R_base ho1)) (fun _ h_ => h_.1)); have n8_ := Am (Kd.S_mono (Kd.S_told (Kd.S_told (Kd.S_told (Kd.S_old (Sl HO_674002) hb) (Kd.R_base ho0)) (Kd.R_base ho1)) (Kd.S_base ho2)) (fun _ h_ => h_.1)); have n9_ := Am (Kd.R_lower (Kd.R_new' (Kd.R_new' (Kd.R_new' (Kd.R_new' (Kd.R_new' (Kd.R_new' ho0 (Rb HO_649000)) (Rb HO_649001)) (Rb HO_663000)) (Rb HO_663001)) (Rb HO_674000)) (Rb HO_674001)) (below_size (by repeat first | exact Bl HB | refine Bp (below_set ?_ GE636.out) | refine Bp (below_set ?_ GE637.out) | refine Bp (below_set ?_ GE648.out) | refine Bp (below_set ?_ GE662.out) | refine Bp (below_set ?_ GE673.out)))); have n10_ := Am (Kd.R_lower (Kd.R_new' (Kd.R_new' (Kd.R_new' (Kd.R_new' (Kd.R_new' (Kd.R_new' ho1 (Rb HO_649000)) (Rb HO_649001)) (Rb HO_663000)) (Rb HO_663001)) (Rb HO_674000)) (Rb HO_674001)) (below_size (by repeat first | exact Bl HB | refine Bp (below_set ?_ GE636.out) | refine Bp (below_set ?_ GE637.out) | refine Bp (below_set ?_ GE648.out) | refine Bp (below_set ?_ GE662.out) | refine Bp (below_set ?_ GE673.out)))); have n11_ := Am (Kd.S_lower (Kd.S_new' (Kd.S_new' (Kd.S_new' (Kd.S_new' (Kd.S_new' (Kd.S_new' (Kd.S_new' (Kd.S_new' (Kd.S_new' ho2 (Rb HO_649000)) (Rb HO_649001)) (Sb HO_649002)) (Rb HO_663000)) (Rb HO_663001)) (Sb HO_663002)) (Rb HO_674000)) (Rb HO_674001)) (Sb HO_674002)) (below_size (by repeat first | exact Bl HB | refine Bp (below_set ?_ GE636.out) | refine Bp (below_set ?_ GE637.out) | refine Bp (below_set ?_ GE648.out) | refine Bp (below_set ?_ GE662.out) | refine Bp (below_set ?_ GE673.out)))); have n12_ := Am (blk_below (Kl BK636) hb); have n13_ := Am (blk_below (Kl BK637) hb); have n14_ := Am (blk_below (Kl BK648) hb); have n15_ := Am (blk_below (Kl BK662) hb); have n16_ := Am (blk_below (Kl BK673) hb); have n17_ := Am (below_step (by repeat first | exact Bl HB | refine Bp (below_set ?_ GE636.out) | refine Bp (below_set ?_ GE637.out) | refine Bp (below_set ?_ GE648.out) | refine Bp (below_set ?_ GE662.out) | refine Bp (below_set ?_ GE673.out)) hb); clear HO_649000 HO_649001 HO_649002 HO_663000 HO_663001 HO_663002 HO_674000 HO_674001 HO_674002 BK636 BK637 BK648 BK662 BK673 HB; have HO_649000 := n0_; have HO_649001 := n1_; have HO_649002 := n2_; have HO_663000 := n3_; have HO_663001 := n4_; have HO_663002 := n5_; have HO_674000 := n6_; have HO_674001 := n7_; have HO_674002 := n8_; have HO678 := n9_; have HO681 := n10_; have HO684 := n11_; have BK636 := n12_; have BK637 := n13_; have BK648 := n14_; have BK662 := n15_; have BK673 := n16_; have HB := n17_; clear n0_ n1_ n2_ n3_ n4_ n5_ n6_ n7_ n8_ n9_ n10_ n11_ n12_ n13_ n14_ n15_ n16_ n17_; (try clear hb); (try clear hb2); (try clear hk); (try clear hi); (try clear ho0); (try clear ho1); (try clear ho2)) | ((with_reducible refine gate_dst (N := 12) rfl ?_); (try (refine gate_guard (by rfl) ?_; dsimp only)); refine box_event ?hg (N := 12) ?hd (cs := #[.slice none 0 0, .slice none 0 0, .slice none 0 0]) (t := 39) ?hr ?_; (case hd => rfl); (case hg => rfl); (case hr => first | (go_simp; done) | (go_simp; rfl)); intro gb686 hg w120 hbox hb; have n0_ := Am (Kd.R_below (Rl HO_649000) hb); have n1_ := Am (Kd.R_below (Rl HO_649001) hb); have n2_ := Am (Kd.S_below (Sl HO_649002) hb); have n3_ := Am (Kd.R_below (Rl HO_663000) hb); have n4_ := Am (Kd.R_below (Rl HO_663001) hb); have n5_ := Am (Kd.S_below (Sl HO_663002) hb); have n6_ := Am (Kd.R_below (Rl HO_674000) hb); have n7_ := Am (Kd.R_below (Rl HO_674001) hb); have n8_ := Am (Kd.S_below (Sl HO_674002) hb); have n9_ := Am (Kd.R_below (Rl HO678) hb); have n10_ := Am (Kd.R_below (Rl HO681) hb); have n11_ := Am (Kd.S_below (Sl HO684) hb); have n12_ := Am (blk_below (Kl BK636) hb); have n13_ := Am (blk_below (Kl BK637) hb); have n14_ := Am (blk_below (Kl BK648) hb); have n15_ := Am (blk_below (Kl BK662) hb); have n16_ := Am (blk_below (Kl BK673) hb); have n17_ := Am (below_step (by repeat first | exact Bl HB | refine Bp (below_set ?_ GE636.out) | refine Bp (below_set ?_ GE637.out) | refine Bp (below_set ?_ GE648.out) | refine Bp (below_set ?_ GE662.out) | refine Bp (below_set ?_ GE673.out)) hb); have n18_ := Am (hbox); have n19_ := Am ((by rw [hg]; exact (below_size (by repeat first | exact Bl HB | refine Bp (below_set ?_ GE636.out) | refine Bp (below_set ?_ GE637.out) | refine Bp (below_set ?_ GE648.out) | refine Bp (below_set ?_ GE662.out) | refine Bp (below_set ?_ GE673.out))) : w.heap.size ≤ gb686)); have n20_ := Am ((by rw [hg]; exact (below_size (by repeat first | exact Bl HB | refine Bp (below_set ?_ GE636.out) | refine Bp (below_set ?_ GE637.out) | refine Bp (below_set ?_ GE648.out) | refine Bp (below_set ?_ GE662.out) | refine Bp (below_set ?_ GE673.out))) : w.heap.size ≤ gb686)); have n21_ := Am ((by rw [hg]; exact Nat.ne_of_lt (blk_lt (Kl BK636)) : gb636 ≠ gb686)); have n22_ := Am ((by rw [hg]; exact Nat.ne_of_gt (blk_lt (Kl BK636)) : gb686 ≠ gb636)); have n23_ := Am ((by rw [hg]; exact Nat.ne_of_lt (blk_lt (Kl BK637)) : gb637 ≠ gb686)); have n24_ := Am ((by rw [hg]; exact Nat.ne_of_gt (blk_lt (Kl BK637)) : gb686 ≠ gb637)); have n25_ := Am ((by rw [hg]; exact Nat.ne_of_lt (blk_lt (Kl BK648)) : gb648 ≠ gb686)); have n26_ := Am ((by rw [hg]; exact Nat.ne_of_gt (blk_lt (Kl BK648)) : gb686 ≠ gb648)); have n27_ := Am ((by rw [hg]; exact Nat.ne_of_lt (blk_lt (Kl BK662)) : gb662 ≠ gb686)); have n28_ := Am ((by rw [hg]; exact Nat.ne_of_gt (blk_lt (Kl BK662)) : gb686 ≠ gb662)); have n29_ := Am ((by rw [hg]; exact Nat.ne_of_lt (blk_lt (Kl BK673)) : gb673 ≠ gb686)); have n30_ := Am ((by rw [hg]; exact Nat.ne_of_gt (blk_lt (Kl BK673)) : gb686 ≠ gb673)); clear HO_649000 HO_649001 HO_649002 HO_663000 HO_663001 HO_663002 HO_674000 HO_674001 HO_674002 HO678 HO681 HO684 BK636 BK637 BK648 BK662 BK673 HB; have HO_649000 := n0_; have HO_649001 := n1_; have HO_649002 := n2_; have HO_663000 := n3_; have HO_663001 := n4_; have HO_663002 := n5_; have HO_674000 := n6_; have HO_674001 := n7_; have HO_674002 := n8_; have HO678 := n9_; have HO681 := n10_; have HO684 := n11_; have BK636 := n12_; have BK637 := n13_; have BK648 := n14_; have BK662 := n15_; have BK673 := n16_; have HB := n17_; have BK686 := n18_; have GW686 := n19_; have GE686 := n20_; have NB636_686 := n21_; have NB686_636 := n22_; have NB637_686 := n23_; have NB686_637 := n24_; have NB648_686 := n25_; have NB686_648 := n26_; have NB662_686 := n27_; have NB686_662 := n28_; have NB673_686 := n29_; have NB686_673 := n30_; clear n0_ n1_ n2_ n3_ n4_ n5_ n6_ n7_ n8_ n9_ n10_ n11_ n12_ n13_ n14_ n15_ n16_ n17_ n18_ n19_ n20_ n21_ n22_ n23_ n24_ n25_ n26_ n27_ n28_ n29_ n30_; clear hb hbox hg; obtain ⟨Ao121, co121, eo121⟩ := Kd.R_slice HO678.out; subst eo121; have hnb122 := NB686_636.out; have hnc122 := NB636_686.out; have hnb123 := NB686_637.out; have hnc123 := NB637_686.out; have hnb124 := NB686_648.out; have hnc124 := NB648_686.out; have hnb125 := NB686_662.out; have hnc125 := NB662_686.out; have hnb126 := NB686_673.out; have hnc126 := NB673_686.out; have hcz127_0 : w120.cell? ⟨gb686, 0, none⟩ = some (.slice none 0 0) := (blk_cell BK686.out 0).trans rfl; have hcz127_1 : w120.cell? ⟨gb686, 1, none⟩ = some (.slice none 0 0) := (blk_cell BK686.out 1).trans rfl; have hcz127_2 : w120.cell? ⟨gb686, 2, none⟩ = some (.slice none 0 0) := (blk_cell BK686.out 2).trans rfl; have hfz127_0 := blk_frozen BK686.out 0; have hfz127_1 := blk_frozen BK686.out 1; have hfz127_2 := blk_frozen BK686.out 2; obtain ⟨Ao128, co128, eo128⟩ := Kd.R_slice HO681.out; subst eo128; obtain ⟨Ao129, co129, eo129⟩ := Kd.S_slice HO684.out; subst eo129; have hcz130_0 : w120.cell? ⟨gb662, 0, none⟩ = some (.slice Ao68 t652.length co68) := (blk_cell BK662.out 0).trans rfl; have hcz130_1 : w120.cell? ⟨gb662, 1, none⟩ = some (.slice Ao73 t655.length co73) := (blk_cell BK662.out 1).trans rfl; have hcz130_2 : w120.cell? ⟨gb662, 2, none⟩ = some (.slice Ao74 t658.length co74) := (blk_cell BK662.out 2).trans rfl; have hfz130_0 := blk_frozen BK662.out 0; have hfz130_1 := blk_frozen BK662.out 1; have hfz130_2 := blk_frozen BK662.out 2; have hnb131 := NB637_648.out; have hnc131 := NB648_637.out; have hnb132 := NB637_673.out; have hnc132 := NB673_637.out; have hcz133_0 : w120.cell? ⟨gb637, 0, none⟩ = some (.slice A1_0 l1_0.length c1_0) := (blk_cell BK637.out 0).trans rfl; have hcz133_1 : w120.cell? ⟨gb637, 1, none⟩ = some (.slice A1_1 l1_1.length c1_1) := (blk_cell BK637.out 1).trans rfl; have hcz133_2 : w120.cell? ⟨gb637, 2, none⟩ = some (.slice A1_2 l1_2.length c1_2) := (blk_cell BK637.out 2).trans rfl; have hfz133_0 := blk_frozen BK637.out 0; have hfz133_1 := blk_frozen BK637.out 1; have hfz133_2 := blk_frozen BK637.out 2) | ((with_reducible refine gate_callee (f := 16) rfl ?_); refine goesL_ (some 89) rfl rfl Try.func16 (by kernel_rfl) rfl #[.agg #[.slice Ao68 t652.length co68, .slice Ao73 t655.length co73, .slice Ao74 t658.length co74], .slice A1_0 l1_0.length c1_0, .slice A1_1 l1_1.length c1_1] rfl (by (try simp only [List.map_toArray, List.map_cons, List.map_nil]); first | done | rfl | (simp only [List.length_drop, List.length_take]; rfl)) ?_; (with_reducible refine (matrix_Select.calls kj59 _ _ t652 _ _ t655 _ _ t658 _ _ l1_0 _ _ l1_1 t687 t690 t693 t696 _ ?side1 ?side2 ?side3 ?side4 ?side5 ?side6 ?side7 ?side8 ?side9 ?side10 A102.out).mono ?_); (case side1 => refine (Kd.R_reads' (e := 3) (base := w.heap.size) (ok := fun k_ => (((some k_ ≠ (.slice Ao11 t638.length co11 : Value).ownBlock ∧ (some k_ ≠ (.slice Ao15 t641.length co15 : Value).ownBlock ∧ (some k_ ≠ (.slice Ao73 t655.length co73 : Value).ownBlock ∧ (some k_ ≠ (.slice Ao79 t663.length co79 : Value).ownBlock ∧ some k_ ≠ (.slice Ao85 t666.length co85 : Value).ownBlock)))) ∧ some k_ ≠ (.slice Ao121 t676.length co121 : Value).ownBlock) ∧ some k_ ≠ (.slice Ao128 t679.length co128 : Value).ownBlock)) (n := t652.length) (c := co68) ?_).2.2; exact (Rm (Kd.R_mono (Kd.R_far (p := ⟨gb686, 2, none⟩) (Kd.R_far (p := ⟨gb686, 1, none⟩) (Kd.R_far (p := ⟨gb686, 0, none⟩) (Kd.R_types HO_663000.out BK686.out (by decide)) (fun _ hk => hk.2) (.slice Ao121 t676.length co121)) (fun _ hk => hk.2) (.slice Ao128 t679.length co128)) (fun _ hk => hk.2) (.slice Ao129 t682.length co129)) (fun _ h_ => h_.1)))); (case side2 => exact (Kd.R_reads' HO_663000.out).2.1); (case side3 => refine (Kd.R_reads' (e := 3) (base := w.heap.size) (ok := fun k_ => (((some k_ ≠ (.slice Ao11 t638.length co11 : Value).ownBlock ∧ (some k_ ≠ (.slice Ao15 t641.length co15 : Value).ownBlock ∧ (some k_ ≠ (.slice Ao68 t652.length co68 : Value).ownBlock ∧ (some k_ ≠ (.slice Ao79 t663.length co79 : Value).ownBlock ∧ some k_ ≠ (.slice Ao85 t666.length co85 : Value).ownBlock)))) ∧ some k_ ≠ (.slice Ao121 t676.length co121 : Value).ownBlock) ∧ some k_ ≠ (.slice Ao128 t679.length co128 : Value).ownBlock)) (n := t655.length) (c := co73) ?_).2.2; exact (Rm (Kd.R_mono (Kd.R_far (p := ⟨gb686, 2, none⟩) (Kd.R_far (p := ⟨gb686, 1, none⟩) (Kd.R_far (p := ⟨gb686, 0, none⟩) (Kd.R_types HO_663001.out BK686.out (by decide)) (fun _ hk => hk.2) (.slice Ao121 t676.length co121)) (fun _ hk => hk.2) (.slice Ao128 t679.length co128)) (fun _ hk => hk.2) (.slice Ao129 t682.length co129)) (fun _ h_ => h_.1)))); (case side4 => exact (Kd.R_reads' HO_663001.out).2.1); (case side5 => refine (Kd.S_reads' (e := 36) (base := w.heap.size) (ok := fun k_ => ((((some k_ ≠ (.slice Ao11 t638.length co11 : Value).ownBlock ∧ (some k_ ≠ (.slice Ao15 t641.length co15 : Value).ownBlock ∧ (some k_ ≠ (.slice Ao16 t644.length co16 : Value).ownBlock ∧ (some k_ ≠ (.slice Ao68 t652.length co68 : Value).ownBlock ∧ (some k_ ≠ (.slice Ao73 t655.length co73 : Value).ownBlock ∧ (some k_ ≠ (.slice Ao79 t663.length co79 : Value).ownBlock ∧ (some k_ ≠ (.slice Ao85 t666.length co85 : Value).ownBlock ∧ some k_ ≠ (.slice Ao86 t669.length co86 : Value).ownBlock))))))) ∧ some k_ ≠ (.slice Ao121 t676.length co121 : Value).ownBlock) ∧ some k_ ≠ (.slice Ao128 t679.length co128 : Value).ownBlock) ∧ some k_ ≠ (.slice Ao129 t682.length co129 : Value).ownBlock)) (n := t658.length) (c := co74) ?_).2.2; exact (Sm (Kd.S_mono (Kd.S_far (p := ⟨gb686, 2, none⟩) (Kd.S_far (p := ⟨gb686, 1, none⟩) (Kd.S_far (p := ⟨gb686, 0, none⟩) (Kd.S_types HO_663002.out BK686.out (by decide)) (fun _ hk => hk.2) (.slice Ao121 t676.length co121)) (fun _ hk => hk.2) (.slice Ao128 t679.length co128)) (fun _ hk => hk.2) (.slice Ao129 t682.length co129)) (fun _ h_ => h_.1)))); (case side6 => exact (Kd.S_reads' HO_663002.out).2.1); (case side7 => exact Kd.C_below HR1_0.out (by repeat first | exact Bl HB | refine Bp (below_set ?_ GE636.out) | refine Bp (below_set ?_ GE637.out) | refine Bp (below_set ?_ GE648.out) | refine Bp (below_set ?_ GE662.out) | refine Bp (below_set ?_ GE673.out) | refine Bp (below_set ?_ GE686.out))); (case side8 => exact HC1_0.out); (case side9 => exact Kd.C_below HR1_1.out (by repeat first | exact Bl HB | refine Bp (below_set ?_ GE636.out) | refine Bp (below_set ?_ GE637.out) | refine Bp (below_set ?_ GE648.out) | refine Bp (below_set ?_ GE662.out) | refine Bp (below_set ?_ GE673.out) | refine Bp (below_set ?_ GE686.out))); (case side10 => exact HC1_1.out); rintro e w134 ⟨v688, v691, v694, rfl, ho0, ho1, ho2, hb⟩; refine ⟨_, rfl, ?_⟩; have n0_ := Am (Kd.R_mono (Kd.R_told (Kd.R_told (Kd.R_old (Rm (Kd.R_mono (Kd.R_far (p := ⟨gb686, 2, none⟩) (Kd.R_far (p := ⟨gb686, 1, none⟩) (Kd.R_far (p := ⟨gb686, 0, none⟩) (Kd.R_types HO_649000.out BK686.out (by decide)) (fun _ hk => hk.2) (.slice Ao121 t676.length co121)) (fun _ hk => hk.2) (.slice Ao128 t679.length co128)) (fun _ hk => hk.2) (.slice Ao129 t682.length co129)) (fun _ h_ => h_.1))) hb) (Kd.R_base ho0)) (Kd.R_base ho1)) (fun _ h_ => h_.1)); have n1_ := Am (Kd.R_mono (Kd.R_told (Kd.R_told (Kd.R_old (Rm (Kd.R_mono (Kd.R_far (p := ⟨gb686, 2, none⟩) (Kd.R_far (p := ⟨gb686, 1, none⟩) (Kd.R_far (p := ⟨gb686, 0, none⟩) (Kd.R_types HO_649001.out BK686.out (by decide)) (fun _ hk => hk.2) (.slice Ao121 t676.length co121)) (fun _ hk => hk.2) (.slice Ao128 t679.length co128)) (fun _ hk => hk.2) (.slice Ao129 t682.length co129)) (fun _ h_ => h_.1))) hb) (Kd.R_base ho0)) (Kd.R_base ho1)) (fun _ h_ => h_.1)); have n2_ := Am (Kd.S_mono (Kd.S_told (Kd.S_told (Kd.S_told (Kd.S_old (Sm (Kd.S_mono (Kd.S_far (p := ⟨gb686, 2, none⟩) (Kd.S_far (p := ⟨gb686, 1, none⟩) (Kd.S_far (p := ⟨gb686, 0, none⟩) (Kd.S_types HO_649002.out BK686.out (by decide)) (fun _ hk => hk.2) (.slice Ao121 t676.length co121)) (fun _ hk => hk.2) (.slice Ao128 t679.length co128)) (fun _ hk => hk.2) (.slice Ao129 t682.length co129)) (fun _ h_ => h_.1))) hb) (Kd.R_base ho0)) (Kd.R_base ho1)) (Kd.S_base ho2)) (fun _ h_ => h_.1)); have n3_ := Am (Kd.R_mono (Kd.R_told (Kd.R_told (Kd.R_old (Rm (Kd.R_mono (Kd.R_far (p := ⟨gb686, 2, none⟩) (Kd.R_far (p := ⟨gb686, 1, none⟩) (Kd.R_far (p := ⟨gb686, 0, none⟩) (Kd.R_types HO_663000.out BK686.out (by decide)) (fun _ hk => hk.2) (.slice Ao121 t676.length co121)) (fun _ hk => hk.2) (.slice Ao128 t679.length co128)) (fun _ hk => hk.2) (.slice Ao129 t682.length co129)) (fun _ h_ => h_.1))) hb) (Kd.R_base ho0)) (Kd.R_base ho1)) (fun _ h_ => h_.1)); have n4_ := Am (Kd.R_mono (Kd.R_told (Kd.R_told (Kd.R_old (Rm (Kd.R_mono (Kd.R_far (p := ⟨gb686, 2, none⟩) (Kd.R_far (p := ⟨gb686, 1, none⟩) (Kd.R_far (p := ⟨gb686, 0, none⟩) (Kd.R_types HO_663001.out BK686.out (by decide)) (fun _ hk => hk.2) (.slice Ao121 t676.length co121)) (fun _ hk => hk.2) (.slice Ao128 t679.length co128)) (fun _ hk => hk.2) (.slice Ao129 t682.length co129)) (fun _ h_ => h_.1))) hb) (Kd.R_base ho0)) (Kd.R_base ho1)) (fun _ h_ => h_.1)); have n5_ := Am (Kd.S_mono (Kd.S_told (Kd.S_told (Kd.S_told (Kd.S_old (Sm (Kd.S_mono (Kd.S_far (p := ⟨gb686, 2, none⟩) (Kd.S_far (p := ⟨gb686, 1, none⟩) (Kd.S_far (p := ⟨gb686, 0, none⟩) (Kd.S_types HO_663002.out BK686.out (by decide)) (fun _ hk => hk.2) (.slice Ao121 t676.length co121)) (fun _ hk => hk.2) (.slice Ao128 t679.length co128)) (fun _ hk => hk.2) (.slice Ao129 t682.length co129)) (fun _ h_ => h_.1))) hb) (Kd.R_base ho0)) (Kd.R_base ho1)) (Kd.S_base ho2)) (fun _ h_ => h_.1)); have n6_ := Am (Kd.R_mono (Kd.R_told (Kd.R_told (Kd.R_old (Rm (Kd.R_mono (Kd.R_far (p := ⟨gb686, 2, none⟩) (Kd.R_far (p := ⟨gb686, 1, none⟩) (Kd.R_far (p := ⟨gb686, 0, none⟩) (Kd.R_types HO_674000.out BK686.out (by decide)) (fun _ hk => hk.2) (.slice Ao121 t676.length co121)) (fun _ hk => hk.2) (.slice Ao128 t679.length co128)) (fun _ hk => hk.2) (.slice Ao129 t682.length co129)) (fun _ h_ => h_.1))) hb) (Kd.R_base ho0)) (Kd.R_base ho1)) (fun _ h_ => h_.1)); have n7_ := Am (Kd.R_mono (Kd.R_told (Kd.R_told (Kd.R_old (Rm (Kd.R_mono (Kd.R_far (p := ⟨gb686, 2, none⟩) (Kd.R_far (p := ⟨gb686, 1, none⟩) (Kd.R_far (p := ⟨gb686, 0, none⟩) (Kd.R_types HO_674001.out BK686.out (by decide)) (fun _ hk => hk.2) (.slice Ao121 t676.length co121)) (fun _ hk => hk.2) (.slice Ao128 t679.length co128)) (fun _ hk => hk.2) (.slice Ao129 t682.length co129)) (fun _ h_ => h_.1))) hb) (Kd.R_base ho0)) (Kd.R_base ho1)) (fun _ h_ => h_.1)); have n8_ := Am (Kd.S_mono (Kd.S_told (Kd.S_told (Kd.S_told (Kd.S_old (Sm (Kd.S_mono (Kd.S_far (p := ⟨gb686, 2, none⟩) (Kd.S_far (p := ⟨gb686, 1, none⟩) (Kd.S_far (p := ⟨gb686, 0, none⟩) (Kd.S_types HO_674002.out BK686.out (by decide)) (fun _ hk => hk.2) (.slice Ao121 t676.length co121)) (fun _ hk => hk.2) (.slice Ao128 t679.length co128)) (fun _ hk => hk.2) (.slice Ao129 t682.length co129)) (fun _ h_ => h_.1))) hb) (Kd.R_base ho0)) (Kd.R_base ho1)) (Kd.S_base ho2)) (fun _ h_ => h_.1)); have n9_ := Am (Kd.R_mono (Kd.R_told (Kd.R_told (Kd.R_old (Rm (Kd.R_mono (Kd.R_far (p := ⟨gb686, 2, none⟩) (Kd.R_far (p := ⟨gb686, 1, none⟩) (Kd.R_far (p := ⟨gb686, 0, none⟩) (Kd.R_types HO678.out BK686.out (by decide)) (fun _ hk => hk.2) (.slice Ao121 t676.length co121)) (fun _ hk => hk.2) (.slice Ao128 t679.length co128)) (fun _ hk => hk.2) (.slice Ao129 t682.length co129)) (fun _ h_ => h_.1))) hb) (Kd.R_base ho0)) (Kd.R_base ho1)) (fun _ h_ => h_.1)); have n10_ := Am (Kd.R_mono (Kd.R_told (Kd.R_told (Kd.R_old (Rm (Kd.R_mono (Kd.R_far (p := ⟨gb686, 2, none⟩) (Kd.R_far (p := ⟨gb686, 1, none⟩) (Kd.R_far (p := ⟨gb686, 0, none⟩) (Kd.R_types HO681.out BK686.out (by decide)) (fun _ hk => hk.2) (.slice Ao121 t676.length co121)) (fun _ hk => hk.2) (.slice Ao128 t679.length co128)) (fun _ hk => hk.2) (.slice Ao129 t682.length co129)) (fun _ h_ => h_.1))) hb) (Kd.R_base ho0)) (Kd.R_base ho1)) (fun _ h_ => h_.1)); have n11_ := Am (Kd.S_mono (Kd.S_told (Kd.S_told (Kd.S_told (Kd.S_old (Sm (Kd.S_mono (Kd.S_far (p := ⟨gb686, 2, none⟩) (Kd.S_far (p := ⟨gb686, 1, none⟩) (Kd.S_far (p := ⟨gb686, 0, none⟩) (Kd.S_types HO684.out BK686.out (by decide)) (fun _ hk => hk.2) (.slice Ao121 t676.length co121)) (fun _ hk => hk.2) (.slice Ao128 t679.length co128)) (fun _ hk => hk.2) (.slice Ao129 t682.length co129)) (fun _ h_ => h_.1))) hb) (Kd.R_base ho0)) (Kd.R_base ho1)) (Kd.S_base ho2)) (fun _ h_ => h_.1)); have n12_ := Am (Kd.R_lower (Kd.R_new' (Kd.R_new' (Kd.R_new' (Kd.R_new' (Kd.R_new' (Kd.R_new' (Kd.R_new' (Kd.R_new' ho0 (Kd.R_lt (Rm (Kd.R_mono (Kd.R_far (p := ⟨gb686, 2, none⟩) (Kd.R_far (p := ⟨gb686, 1, none⟩) (Kd.R_far (p := ⟨gb686, 0, none⟩) (Kd.R_types HO_649000.out BK686.out (by decide)) (fun _ hk => hk.2) (.slice Ao121 t676.length co121)) (fun _ hk => hk.2) (.slice Ao128 t679.length co128)) (fun _ hk => hk.2) (.slice Ao129 t682.length co129)) (fun _ h_ => h_.1))))) (Kd.R_lt (Rm (Kd.R_mono (Kd.R_far (p := ⟨gb686, 2, none⟩) (Kd.R_far (p := ⟨gb686, 1, none⟩) (Kd.R_far (p := ⟨gb686, 0, none⟩) (Kd.R_types HO_649001.out BK686.out (by decide)) (fun _ hk => hk.2) (.slice Ao121 t676.length co121)) (fun _ hk => hk.2) (.slice Ao128 t679.length co128)) (fun _ hk => hk.2) (.slice Ao129 t682.length co129)) (fun _ h_ => h_.1))))) (Kd.R_lt (Rm (Kd.R_mono (Kd.R_far (p := ⟨gb686, 2, none⟩) (Kd.R_far (p := ⟨gb686, 1, none⟩) (Kd.R_far (p := ⟨gb686, 0, none⟩) (Kd.R_types HO_663000.out BK686.out (by decide)) (fun _ hk => hk.2) (.slice Ao121 t676.length co121)) (fun _ hk => hk.2) (.slice Ao128 t679.length co128)) (fun _ hk => hk.2) (.slice Ao129 t682.length co129)) (fun _ h_ => h_.1))))) (Kd.R_lt (Rm (Kd.R_mono (Kd.R_far (p := ⟨gb686, 2, none⟩) (Kd.R_far (p := ⟨gb686, 1, none⟩) (Kd.R_far (p := ⟨gb686, 0, none⟩) (Kd.R_types HO_663001.out BK686.out (by decide)) (fun _ hk => hk.2) (.slice Ao121 t676.length co121)) (fun _ hk => hk.2) (.slice Ao128 t679.length co128)) (fun _ hk => hk.2) (.slice Ao129 t682.length co129)) (fun _ h_ => h_.1))))) (Kd.R_lt (Rm (Kd.R_mono (Kd.R_far (p := ⟨gb686, 2, none⟩) (Kd.R_far (p := ⟨gb686, 1, none⟩) (Kd.R_far (p := ⟨gb686, 0, none⟩) (Kd.R_types HO_674000.out BK686.out (by decide)) (fun _ hk => hk.2) (.slice Ao121 t676.length co121)) (fun _ hk => hk.2) (.slice Ao128 t679.length co128)) (fun _ hk => hk.2) (.slice Ao129 t682.length co129)) (fun _ h_ => h_.1))))) (Kd.R_lt (Rm (Kd.R_mono (Kd.R_far (p := ⟨gb686, 2, none⟩) (Kd.R_far (p := ⟨gb686, 1, none⟩) (Kd.R_far (p := ⟨gb686, 0, none⟩) (Kd.R_types HO_674001.out BK686.out (by decide)) (fun _ hk => hk.2) (.slice Ao121 t676.length co121)) (fun _ hk => hk.2) (.slice Ao128 t679.length co128)) (fun _ hk => hk.2) (.slice Ao129 t682.length co129)) (fun _ h_ => h_.1))))) (Kd.R_lt (Rm (Kd.R_mono (Kd.R_far (p := ⟨gb686, 2, none⟩) (Kd.R_far (p := ⟨gb686, 1, none⟩) (Kd.R_far (p := ⟨gb686, 0, none⟩) (Kd.R_types HO678.out BK686.out (by decide)) (fun _ hk => hk.2) (.slice Ao121 t676.length co121)) (fun _ hk => hk.2) (.slice Ao128 t679.length co128)) (fun _ hk => hk.2) (.slice Ao129 t682.length co129)) (fun _ h_ => h_.1))))) (Kd.R_lt (Rm (Kd.R_mono (Kd.R_far (p := ⟨gb686, 2, none⟩) (Kd.R_far (p := ⟨gb686, 1, none⟩) (Kd.R_far (p := ⟨gb686, 0, none⟩) (Kd.R_types HO681.out BK686.out (by decide)) (fun _ hk => hk.2) (.slice Ao121 t676.length co121)) (fun _ hk => hk.2) (.slice Ao128 t679.length co128)) (fun _ hk => hk.2) (.slice Ao129 t682.length co129)) (fun _ h_ => h_.1))))) (below_size (by repeat first | exact Bl HB | refine Bp (below_set ?_ GE636.out) | refine Bp (below_set ?_ GE637.out) | refine Bp (below_set ?_ GE648.out) | refine Bp (below_set ?_ GE662.out) | refine Bp (below_set ?_ GE673.out) | refine Bp (below_set ?_ GE686.out)))); have n13_ := Am (Kd.R_lower (Kd.R_new' (Kd.R_new' (Kd.R_new' (Kd.R_new' (Kd.R_new' (Kd.R_new' (Kd.R_new' (Kd.R_new' ho1 (Kd.R_lt (Rm (Kd.R_mono (Kd.R_far (p := ⟨gb686, 2, none⟩) (Kd.R_far (p := ⟨gb686, 1, none⟩) (Kd.R_far (p := ⟨gb686, 0, none⟩) (Kd.R_types HO_649000.out BK686.out (by decide)) (fun _ hk => hk.2) (.slice Ao121 t676.length co121)) (fun _ hk => hk.2) (.slice Ao128 t679.length co128)) (fun _ hk => hk.2) (.slice Ao129 t682.length co129)) (fun _ h_ => h_.1))))) (Kd.R_lt (Rm (Kd.R_mono (Kd.R_far (p := ⟨gb686, 2, none⟩) (Kd.R_far (p := ⟨gb686, 1, none⟩) (Kd.R_far (p := ⟨gb686, 0, none⟩) (Kd.R_types HO_649001.out BK686.out (by decide)) (fun _ hk => hk.2) (.slice Ao121 t676.length co121)) (fun _ hk => hk.2) (.slice Ao128 t679.length co128)) (fun _ hk => hk.2) (.slice Ao129 t682.length co129)) (fun _ h_ => h_.1))))) (Kd.R_lt (Rm (Kd.R_mono (Kd.R_far (p := ⟨gb686, 2, none⟩) (Kd.R_far (p := ⟨gb686, 1, none⟩) (Kd.R_far (p := ⟨gb686, 0, none⟩) (Kd.R_types HO_663000.out BK686.out (by decide)) (fun _ hk => hk.2) (.slice Ao121 t676.length co121)) (fun _ hk => hk.2) (.slice Ao128 t679.length co128)) (fun _ hk => hk.2) (.slice Ao129 t682.length co129)) (fun _ h_ => h_.1))))) (Kd.R_lt (Rm (Kd.R_mono (Kd.R_far (p := ⟨gb686, 2, none⟩) (Kd.R_far (p := ⟨gb686, 1, none⟩) (Kd.R_far (p := ⟨gb686, 0, none⟩) (Kd.R_types HO_663001.out BK686.out (by decide)) (fun _ hk => hk.2) (.slice Ao121 t676.length co121)) (fun _ hk => hk.2) (.slice Ao128 t679.length co128)) (fun _ hk => hk.2) (.slice Ao129 t682.length co129)) (fun _ h_ => h_.1))))) (Kd.R_lt (Rm (Kd.R_mono (Kd.R_far (p := ⟨gb686, 2, none⟩) (Kd.R_far (p := ⟨gb686, 1, none⟩) (Kd.R_far (p := ⟨gb686, 0, none⟩) (Kd.R_types HO_674000.out BK686.out (by decide)) (fun _ hk => hk.2) (.slice Ao121 t676.length co121)) (fun _ hk => hk.2) (.slice Ao128 t679.length co128)) (fun _ hk => hk.2) (.slice Ao129 t682.length co129)) (fun _ h_ => h_.1))))) (Kd.R_lt (Rm (Kd.R_mono (Kd.R_far (p := ⟨gb686, 2, none⟩) (Kd.R_far (p := ⟨gb686, 1, none⟩) (Kd.R_far (p := ⟨gb686, 0, none⟩) (Kd.R_types HO_674001.out BK686.out (by decide)) (fun _ hk => hk.2) (.slice Ao121 t676.length co121)) (fun _ hk => hk.2) (.slice Ao128 t679.length co128)) (fun _ hk => hk.2) (.slice Ao129 t682.length co129)) (fun _ h_ => h_.1))))) (Kd.R_lt (Rm (Kd.R_mono (Kd.R_far (p := ⟨gb686, 2, none⟩) (Kd.R_far (p := ⟨gb686, 1, none⟩) (Kd.R_far (p := ⟨gb686, 0, none⟩) (Kd.R_types HO678.out BK686.out (by decide)) (fun _ hk => hk.2) (.slice Ao121 t676.length co121)) (fun _ hk => hk.2) (.slice Ao128 t679.length co128)) (fun _ hk => hk.2) (.slice Ao129 t682.length co129)) (fun _ h_ => h_.1))))) (Kd.R_lt (Rm (Kd.R_mono (Kd.R_far (p := ⟨gb686, 2, none⟩) (Kd.R_far (p := ⟨gb686, 1, none⟩) (Kd.R_far (p := ⟨gb686, 0, none⟩) (Kd.R_types HO681.out BK686.out (by decide)) (fun _ hk => hk.2) (.slice Ao121 t676.length co121)) (fun _ hk => hk.2) (.slice Ao128 t679.length co128)) (fun _ hk => hk.2) (.slice Ao129 t682.length co129)) (fun _ h_ => h_.1))))) (below_size (by repeat first | exact Bl HB | refine Bp (below_set ?_ GE636.out) | refine Bp (below_set ?_ GE637.out) | refine Bp (below_set ?_ GE648.out) | refine Bp (below_set ?_ GE662.out) | refine Bp (below_set ?_ GE673.out) | refine Bp (below_set ?_ GE686.out)))); have n14_ := Am (Kd.S_lower (Kd.S_new' (Kd.S_new' (Kd.S_new' (Kd.S_new' (Kd.S_new' (Kd.S_new' (Kd.S_new' (Kd.S_new' (Kd.S_new' (Kd.S_new' (Kd.S_new' (Kd.S_new' ho2 (Kd.R_lt (Rm (Kd.R_mono (Kd.R_far (p := ⟨gb686, 2, none⟩) (Kd.R_far (p := ⟨gb686, 1, none⟩) (Kd.R_far (p := ⟨gb686, 0, none⟩) (Kd.R_types HO_649000.out BK686.out (by decide)) (fun _ hk => hk.2) (.slice Ao121 t676.length co121)) (fun _ hk => hk.2) (.slice Ao128 t679.length co128)) (fun _ hk => hk.2) (.slice Ao129 t682.length co129)) (fun _ h_ => h_.1))))) (Kd.R_lt (Rm (Kd.R_mono (Kd.R_far (p := ⟨gb686, 2, none⟩) (Kd.R_far (p := ⟨gb686, 1, none⟩) (Kd.R_far (p := ⟨gb686, 0, none⟩) (Kd.R_types HO_649001.out BK686.out (by decide)) (fun _ hk => hk.2) (.slice Ao121 t676.length co121)) (fun _ hk => hk.2) (.slice Ao128 t679.length co128)) (fun _ hk => hk.2) (.slice Ao129 t682.length co129)) (fun _ h_ => h_.1))))) (Kd.S_lt (Sm (Kd.S_mono (Kd.S_far (p := ⟨gb686, 2, none⟩) (Kd.S_far (p := ⟨gb686, 1, none⟩) (Kd.S_far (p := ⟨gb686, 0, none⟩) (Kd.S_types HO_649002.out BK686.out (by decide)) (fun _ hk => hk.2) (.slice Ao121 t676.length co121)) (fun _ hk => hk.2) (.slice Ao128 t679.length co128)) (fun _ hk => hk.2) (.slice Ao129 t682.length co129)) (fun _ h_ => h_.1))))) (Kd.R_lt (Rm (Kd.R_mono (Kd.R_far (p := ⟨gb686, 2, none⟩) (Kd.R_far (p := ⟨gb686, 1, none⟩) (Kd.R_far (p := ⟨gb686, 0, none⟩) (Kd.R_types HO_663000.out BK686.out (by decide)) (fun _ hk => hk.2) (.slice Ao121 t676.length co121)) (fun _ hk => hk.2) (.slice Ao128 t679.length co128)) (fun _ hk => hk.2) (.slice Ao129 t682.length co129)) (fun _ h_ => h_.1))))) (Kd.R_lt (Rm (Kd.R_mono (Kd.R_far (p := ⟨gb686, 2, none⟩) (Kd.R_far (p := ⟨gb686, 1, none⟩) (Kd.R_far (p := ⟨gb686, 0, none⟩) (Kd.R_types HO_663001.out BK686.out (by decide)) (fun _ hk => hk.2) (.slice Ao121 t676.length co121)) (fun _ hk => hk.2) (.slice Ao128 t679.length co128)) (fun _ hk => hk.2) (.slice Ao129 t682.length co129)) (fun _ h_ => h_.1))))) (Kd.S_lt (Sm (Kd.S_mono (Kd.S_far (p := ⟨gb686, 2, none⟩) (Kd.S_far (p := ⟨gb686, 1, none⟩) (Kd.S_far (p := ⟨gb686, 0, none⟩) (Kd.S_types HO_663002.out BK686.out (by decide)) (fun _ hk => hk.2) (.slice Ao121 t676.length co121)) (fun _ hk => hk.2) (.slice Ao128 t679.length co128)) (fun _ hk => hk.2) (.slice Ao129 t682.length co129)) (fun _ h_ => h_.1))))) (Kd.R_lt (Rm (Kd.R_mono (Kd.R_far (p := ⟨gb686, 2, none⟩) (Kd.R_far (p := ⟨gb686, 1, none⟩) (Kd.R_far (p := ⟨gb686, 0, none⟩) (Kd.R_types HO_674000.out BK686.out (by decide)) (fun _ hk => hk.2) (.slice Ao121 t676.length co121)) (fun _ hk => hk.2) (.slice Ao128 t679.length co128)) (fun _ hk => hk.2) (.slice Ao129 t682.length co129)) (fun _ h_ => h_.1))))) (Kd.R_lt (Rm (Kd.R_mono (Kd.R_far (p := ⟨gb686, 2, none⟩) (Kd.R_far (p := ⟨gb686, 1, none⟩) (Kd.R_far (p := ⟨gb686, 0, none⟩) (Kd.R_types HO_674001.out BK686.out (by decide)) (fun _ hk => hk.2) (.slice Ao121 t676.length co121)) (fun _ hk => hk.2) (.slice Ao128 t679.length co128)) (fun _ hk => hk.2) (.slice Ao129 t682.length co129)) (fun _ h_ => h_.1))))) (Kd.S_lt (Sm (Kd.S_mono (Kd.S_far (p := ⟨gb686, 2, none⟩) (Kd.S_far (p := ⟨gb686, 1, none⟩) (Kd.S_far (p := ⟨gb686, 0, none⟩) (Kd.S_types HO_674002.out BK686.out (by decide)) (fun _ hk => hk.2) (.slice Ao121 t676.length co121)) (fun _ hk => hk.2) (.slice Ao128 t679.length co128)) (fun _ hk => hk.2) (.slice Ao129 t682.length co129)) (fun _ h_ => h_.1))))) (Kd.R_lt (Rm (Kd.R_mono (Kd.R_far (p := ⟨gb686, 2, none⟩) (Kd.R_far (p := ⟨gb686, 1, none⟩) (Kd.R_far (p := ⟨gb686, 0, none⟩) (Kd.R_types HO678.out BK686.out (by decide)) (fun _ hk => hk.2) (.slice Ao121 t676.length co121)) (fun _ hk => hk.2) (.slice Ao128 t679.length co128)) (fun _ hk => hk.2) (.slice Ao129 t682.length co129)) (fun _ h_ => h_.1))))) (Kd.R_lt (Rm (Kd.R_mono (Kd.R_far (p := ⟨gb686, 2, none⟩) (Kd.R_far (p := ⟨gb686, 1, none⟩) (Kd.R_far (p := ⟨gb686, 0, none⟩) (Kd.R_types HO681.out BK686.out (by decide)) (fun _ hk => hk.2) (.slice Ao121 t676.length co121)) (fun _ hk => hk.2) (.slice Ao128 t679.length co128)) (fun _ hk => hk.2) (.slice Ao129 t682.length co129)) (fun _ h_ => h_.1))))) (Kd.S_lt (Sm (Kd.S_mono (Kd.S_far (p := ⟨gb686, 2, none⟩) (Kd.S_far (p := ⟨gb686, 1, none⟩) (Kd.S_far (p := ⟨gb686, 0, none⟩) (Kd.S_types HO684.out BK686.out (by decide)) (fun _ hk => hk.2) (.slice Ao121 t676.length co121)) (fun _ hk => hk.2) (.slice Ao128 t679.length co128)) (fun _ hk => hk.2) (.slice Ao129 t682.length co129)) (fun _ h_ => h_.1))))) (below_size (by repeat first | exact Bl HB | refine Bp (below_set ?_ GE636.out) | refine Bp (below_set ?_ GE637.out) | refine Bp (below_set ?_ GE648.out) | refine Bp (below_set ?_ GE662.out) | refine Bp (below_set ?_ GE673.out) | refine Bp (below_set ?_ GE686.out)))); have n15_ := Am (blk_below (g := gb636) (o := .cells #[.slice A0_0 l0_0.length c0_0, .slice A0_1 l0_1.length c0_1, .slice A0_2 l0_2.length c0_2] 39 (0, 0)) (by refine Kp ?_; refine blk_far ?_ NB636_686.out _; refine Kp ?_; refine blk_far ?_ NB636_686.out _; refine Kp ?_; refine blk_far ?_ NB636_686.out _; refine Kp ?_; exact BK636.out) hb); have n16_ := Am (blk_below (g := gb637) (o := .cells #[.slice A1_0 l1_0.length c1_0, .slice A1_1 l1_1.length c1_1, .slice A1_2 l1_2.length c1_2] 39 (0, 0)) (by refine Kp ?_; refine blk_far ?_ NB637_686.out _; refine Kp ?_; refine blk_far ?_ NB637_686.out _; refine Kp ?_; refine blk_far ?_ NB637_686.out _; refine Kp ?_; exact BK637.out) hb); have n17_ := Am (blk_below (g := gb648) (o := .cells #[.slice Ao11 t638.length co11, .slice Ao15 t641.length co15, .slice Ao16 t644.length co16] 39 (0, 0)) (by refine Kp ?_; refine blk_far ?_ NB648_686.out _; refine Kp ?_; refine blk_far ?_ NB648_686.out _; refine Kp ?_; refine blk_far ?_ NB648_686.out _; refine Kp ?_; exact BK648.out) hb); have n18_ := Am (blk_below (g := gb662) (o := .cells #[.slice Ao68 t652.length co68, .slice Ao73 t655.length co73, .slice Ao74 t658.length co74] 39 (0, 0)) (by refine Kp ?_; refine blk_far ?_ NB662_686.out _; refine Kp ?_; refine blk_far ?_ NB662_686.out _; refine Kp ?_; refine blk_far ?_ NB662_686.out _; refine Kp ?_; exact BK662.out) hb); have n19_ := Am (blk_below (g := gb673) (o := .cells #[.slice Ao79 t663.length co79, .slice Ao85 t666.length co85, .slice Ao86 t669.length co86] 39 (0, 0)) (by refine Kp ?_; refine blk_far ?_ NB673_686.out _; refine Kp ?_; refine blk_far ?_ NB673_686.out _; refine Kp ?_; refine blk_far ?_ NB673_686.out _; refine Kp ?_; exact BK673.out) hb); have n20_ := Am (blk_below (g := gb686) (o := .cells #[.slice Ao121 t676.length co121, .slice Ao128 t679.length co128, .slice Ao129 t682.length co129] 39 (0, 0)) (by refine Kp ?_; refine blk_put (cs := #[.slice Ao121 t676.length co121, .slice Ao128 t679.length co128, .slice none 0 0]) ?_ 2 _ rfl; refine Kp ?_; refine blk_put (cs := #[.slice Ao121 t676.length co121, .slice none 0 0, .slice none 0 0]) ?_ 1 _ rfl; refine Kp ?_; refine blk_put (cs := #[.slice none 0 0, .slice none 0 0, .slice none 0 0]) ?_ 0 _ rfl; refine Kp ?_; exact BK686.out) hb); have n21_ := Am (below_step (by repeat first | exact Bl HB | refine Bp (below_set ?_ GE636.out) | refine Bp (below_set ?_ GE637.out) | refine Bp (below_set ?_ GE648.out) | refine Bp (below_set ?_ GE662.out) | refine Bp (below_set ?_ GE673.out) | refine Bp (below_set ?_ GE686.out)) hb); clear HO_649000 HO_649001 HO_649002 HO_663000 HO_663001 HO_663002 HO_674000 HO_674001 HO_674002 HO678 HO681 HO684 BK636 BK637 BK648 BK662 BK673 BK686 HB; have HO_649000 := n0_; have HO_649001 := n1_; have HO_649002 := n2_; have HO_663000 := n3_; have HO_663001 := n4_; have HO_663002 := n5_; have HO_674000 := n6_; have HO_674001 := n7_; have HO_674002 := n8_; have HO678 := n9_; have HO681 := n10_; have HO684 := n11_; have HO689 := n12_; have HO692 := n13_; have HO695 := n14_; have BK636 := n15_; have BK637 := n16_; have BK648 := n17_; have BK662 := n18_; have BK673 := n19_; have BK686 := n20_; have HB := n21_; clear n0_ n1_ n2_ n3_ n4_ n5_ n6_ n7_ n8_ n9_ n10_ n11_ n12_ n13_ n14_ n15_ n16_ n17_ n18_ n19_ n20_ n21_; (try clear hb); (try clear hb2); (try clear hk); (try clear hi); (try clear ho0); (try clear ho1); (try clear ho2)) | ((with_reducible refine gate_dst (N := 14) rfl ?_); (try (refine gate_guard (by rfl) ?_; dsimp only)); refine box_event ?hg (N := 14) ?hd (cs := #[.slice none 0 0, .slice none 0 0, .slice none 0 0]) (t := 39) ?hr ?_; (case hd => rfl); (case hg => rfl); (case hr => first | (go_simp; done) | (go_simp; rfl)); intro gb697 hg w135 hbox hb; have n0_ := Am (Kd.R_below (Rl HO_649000) hb); have n1_ := Am (Kd.R_below (Rl HO_649001) hb); have n2_ := Am (Kd.S_below (Sl HO_649002) hb); have n3_ := Am (Kd.R_below (Rl HO_663000) hb); have n4_ := Am (Kd.R_below (Rl HO_663001) hb); have n5_ := Am (Kd.S_below (Sl HO_663002) hb); have n6_ := Am (Kd.R_below (Rl HO_674000) hb); have n7_ := Am (Kd.R_below (Rl HO_674001) hb); have n8_ := Am (Kd.S_below (Sl HO_674002) hb); have n9_ := Am (Kd.R_below (Rl HO678) hb); have n10_ := Am (Kd.R_below (Rl HO681) hb); have n11_ := Am (Kd.S_below (Sl HO684) hb); have n12_ := Am (Kd.R_below (Rl HO689) hb); have n13_ := Am (Kd.R_below (Rl HO692) hb); have n14_ := Am (Kd.S_below (Sl HO695) hb); have n15_ := Am (blk_below (Kl BK636) hb); have n16_ := Am (blk_below (Kl BK637) hb); have n17_ := Am (blk_below (Kl BK648) hb); have n18_ := Am (blk_below (Kl BK662) hb); have n19_ := Am (blk_below (Kl BK673) hb); have n20_ := Am (blk_below (Kl BK686) hb); have n21_ := Am (below_step (by repeat first | exact Bl HB | refine Bp (below_set ?_ GE636.out) | refine Bp (below_set ?_ GE637.out) | refine Bp (below_set ?_ GE648.out) | refine Bp (below_set ?_ GE662.out) | refine Bp (below_set ?_ GE673.out) | refine Bp (below_set ?_ GE686.out)) hb); have n22_ := Am (hbox); have n23_ := Am ((by rw [hg]; exact (below_size (by repeat first | exact Bl HB | refine Bp (below_set ?_ GE636.out) | refine Bp (below_set ?_ GE637.out) | refine Bp (below_set ?_ GE648.out) | refine Bp (below_set ?_ GE662.out) | refine Bp (below_set ?_ GE673.out) | refine Bp (below_set ?_ GE686.out))) : w.heap.size ≤ gb697)); have n24_ := Am ((by rw [hg]; exact (below_size (by repeat first | exact Bl HB | refine Bp (below_set ?_ GE636.out) | refine Bp (below_set ?_ GE637.out) | refine Bp (below_set ?_ GE648.out) | refine Bp (below_set ?_ GE662.out) | refine Bp (below_set ?_ GE673.out) | refine Bp (below_set ?_ GE686.out))) : w.heap.size ≤ gb697)); have n25_ := Am ((by rw [hg]; exact Nat.ne_of_lt (blk_lt (Kl BK636)) : gb636 ≠ gb697)); have n26_ := Am ((by rw [hg]; exact Nat.ne_of_gt (blk_lt (Kl BK636)) : gb697 ≠ gb636)); have n27_ := Am ((by rw [hg]; exact Nat.ne_of_lt (blk_lt (Kl BK637)) : gb637 ≠ gb697)); have n28_ := Am ((by rw [hg]; exact Nat.ne_of_gt (blk_lt (Kl BK637)) : gb697 ≠ gb637)); have n29_ := Am ((by rw [hg]; exact Nat.ne_of_lt (blk_lt (Kl BK648)) : gb648 ≠ gb697)); have n30_ := Am ((by rw [hg]; exact Nat.ne_of_gt (blk_lt (Kl BK648)) : gb697 ≠ gb648)); have n31_ := Am ((by rw [hg]; exact Nat.ne_of_lt (blk_lt (Kl BK662)) : gb662 ≠ gb697)); have n32_ := Am ((by rw [hg]; exact Nat.ne_of_gt (blk_lt (Kl BK662)) : gb697 ≠ gb662)); have n33_ := Am ((by rw [hg]; exact Nat.ne_of_lt (blk_lt (Kl BK673)) : gb673 ≠ gb697)); have n34_ := Am ((by rw [hg]; exact Nat.ne_of_gt (blk_lt (Kl BK673)) : gb697 ≠ gb673)); have n35_ := Am ((by rw [hg]; exact Nat.ne_of_lt (blk_lt (Kl BK686)) : gb686 ≠ gb697)); have n36_ := Am ((by rw [hg]; exact Nat.ne_of_gt (blk_lt (Kl BK686)) : gb697 ≠ gb686)); clear HO_649000 HO_649001 HO_649002 HO_663000 HO_663001 HO_663002 HO_674000 HO_674001 HO_674002 HO678 HO681 HO684 HO689 HO692 HO695 BK636 BK637 BK648 BK662 BK673 BK686 HB; have HO_649000 := n0_; have HO_649001 := n1_; have HO_649002 := n2_; have HO_663000 := n3_; have HO_663001 := n4_; have HO_663002 := n5_; have HO_674000 := n6_; have HO_674001 := n7_; have HO_674002 := n8_; have HO678 := n9_; have HO681 := n10_; have HO684 := n11_; have HO689 := n12_; have HO692 := n13_; have HO695 := n14_; have BK636 := n15_; have BK637 := n16_; have BK648 := n17_; have BK662 := n18_; have BK673 := n19_; have BK686 := n20_; have HB := n21_; have BK697 := n22_; have GW697 := n23_; have GE697 := n24_; have NB636_697 := n25_; have NB697_636 := n26_; have NB637_697 := n27_; have NB697_637 := n28_; have NB648_697 := n29_; have NB697_648 := n30_; have NB662_697 := n31_; have NB697_662 := n32_; have NB673_697 := n33_; have NB697_673 := n34_; have NB686_697 := n35_; have NB697_686 := n36_; clear n0_ n1_ n2_ n3_ n4_ n5_ n6_ n7_ n8_ n9_ n10_ n11_ n12_ n13_ n14_ n15_ n16_ n17_ n18_ n19_ n20_ n21_ n22_ n23_ n24_ n25_ n26_ n27_ n28_ n29_ n30_ n31_ n32_ n33_ n34_ n35_ n36_; clear hb hbox hg; obtain ⟨Ao136, co136, eo136⟩ := Kd.R_slice HO689.out; subst eo136; have hnb137 := NB697_636.out; have hnc137 := NB636_697.out; have hnb138 := NB697_637.out; have hnc138 := NB637_697.out; have hnb139 := NB697_648.out; have hnc139 := NB648_697.out; have hnb140 := NB697_662.out; have hnc140 := NB662_697.out; have hnb141 := NB697_673.out; have hnc141 := NB673_697.out; have hnb142 := NB697_686.out; have hnc142 := NB686_697.out; have hcz143_0 : w135.cell? ⟨gb697, 0, none⟩ = some (.slice none 0 0) := (blk_cell BK697.out 0).trans rfl; have hcz143_1 : w135.cell? ⟨gb697, 1, none⟩ = some (.slice none 0 0) := (blk_cell BK697.out 1).trans rfl; have hcz143_2 : w135.cell? ⟨gb697, 2, none⟩ = some (.slice none 0 0) := (blk_cell BK697.out 2).trans rfl; have hfz143_0 := blk_frozen BK697.out 0; have hfz143_1 := blk_frozen BK697.out 1; have hfz143_2 := blk_frozen BK697.out 2; obtain ⟨Ao144, co144, eo144⟩ := Kd.R_slice HO692.out; subst eo144; obtain ⟨Ao145, co145, eo145⟩ := Kd.S_slice HO695.out; subst eo145; have hcz146_0 : w135.cell? ⟨gb686, 0, none⟩ = some (.slice Ao121 t676.length co121) := (blk_cell BK686.out 0).trans rfl; have hcz146_1 : w135.cell? ⟨gb686, 1, none⟩ = some (.slice Ao128 t679.length co128) := (blk_cell BK686.out 1).trans rfl; have hcz146_2 : w135.cell? ⟨gb686, 2, none⟩ = some (.slice Ao129 t682.length co129) := (blk_cell BK686.out 2).trans rfl; have hfz146_0 := blk_frozen BK686.out 0; have hfz146_1 := blk_frozen BK686.out 1; have hfz146_2 := blk_frozen BK686.out 2; have hcz147_0 : w135.cell? ⟨gb636, 0, none⟩ = some (.slice A0_0 l0_0.length c0_0) := (blk_cell BK636.out 0).trans rfl; have hcz147_1 : w135.cell? ⟨gb636, 1, none⟩ = some (.slice A0_1 l0_1.length c0_1) := (blk_cell BK636.out 1).trans rfl; have hcz147_2 : w135.cell? ⟨gb636, 2, none⟩ = some (.slice A0_2 l0_2.length c0_2) := (blk_cell BK636.out 2).trans rfl; have hfz147_0 := blk_frozen BK636.out 0; have hfz147_1 := blk_frozen BK636.out 1; have hfz147_2 := blk_frozen BK636.out 2) | (go_at_call 18; (with_reducible refine (examboardlaw24_same.calls kj59 _ _ t676 _ _ t679 _ _ t682 _ _ l0_0 _ _ l0_1 _ _ l0_2 true _ ?side1 ?side2 ?side3 ?side4 ?side5 ?side6 ?side7 ?side8 ?side9 ?side10 ?side11 ?side12 A105.out).mono ?_); (case side1 => refine (Kd.R_reads' (e := 3) (base := w.heap.size) (ok := fun k_ => ((((((((some k_ ≠ (.slice Ao128 t679.length co128 : Value).ownBlock ∧ some k_ ≠ (.slice Ao11 t638.length co11 : Value).ownBlock) ∧ some k_ ≠ (.slice Ao15 t641.length co15 : Value).ownBlock) ∧ some k_ ≠ (.slice Ao68 t652.length co68 : Value).ownBlock) ∧ some k_ ≠ (.slice Ao73 t655.length co73 : Value).ownBlock) ∧ some k_ ≠ (.slice Ao79 t663.length co79 : Value).ownBlock) ∧ some k_ ≠ (.slice Ao85 t666.length co85 : Value).ownBlock) ∧ some k_ ≠ (.slice Ao136 t687.length co136 : Value).ownBlock) ∧ some k_ ≠ (.slice Ao144 t690.length co144 : Value).ownBlock)) (n := t676.length) (c := co121) ?_).2.2; exact (Rm (Kd.R_mono (Kd.R_far (p := ⟨gb697, 2, none⟩) (Kd.R_far (p := ⟨gb697, 1, none⟩) (Kd.R_far (p := ⟨gb697, 0, none⟩) (Kd.R_types HO678.out BK697.out (by decide)) (fun _ hk => hk.2) (.slice Ao136 t687.length co136)) (fun _ hk => hk.2) (.slice Ao144 t690.length co144)) (fun _ hk => hk.2) (.slice Ao145 t693.length co145)) (fun _ h_ => h_.1)))); (case side2 => exact (Kd.R_reads' HO678.out).2.1); (case side3 => refine (Kd.R_reads' (e := 3) (base := w.heap.size) (ok := fun k_ => ((((((((some k_ ≠ (.slice Ao121 t676.length co121 : Value).ownBlock ∧ some k_ ≠ (.slice Ao11 t638.length co11 : Value).ownBlock) ∧ some k_ ≠ (.slice Ao15 t641.length co15 : Value).ownBlock) ∧ some k_ ≠ (.slice Ao68 t652.length co68 : Value).ownBlock) ∧ some k_ ≠ (.slice Ao73 t655.length co73 : Value).ownBlock) ∧ some k_ ≠ (.slice Ao79 t663.length co79 : Value).ownBlock) ∧ some k_ ≠ (.slice Ao85 t666.length co85 : Value).ownBlock) ∧ some k_ ≠ (.slice Ao136 t687.length co136 : Value).ownBlock) ∧ some k_ ≠ (.slice Ao144 t690.length co144 : Value).ownBlock)) (n := t679.length) (c := co128) ?_).2.2; exact (Rm (Kd.R_mono (Kd.R_far (p := ⟨gb697, 2, none⟩) (Kd.R_far (p := ⟨gb697, 1, none⟩) (Kd.R_far (p := ⟨gb697, 0, none⟩) (Kd.R_types HO681.out BK697.out (by decide)) (fun _ hk => hk.2) (.slice Ao136 t687.length co136)) (fun _ hk => hk.2) (.slice Ao144 t690.length co144)) (fun _ hk => hk.2) (.slice Ao145 t693.length co145)) (fun _ h_ => h_.1)))); (case side4 => exact (Kd.R_reads' HO681.out).2.1); (case side5 => refine (Kd.S_reads' (e := 36) (base := w.heap.size) (ok := fun k_ => (((((((((((((some k_ ≠ (.slice Ao121 t676.length co121 : Value).ownBlock ∧ some k_ ≠ (.slice Ao128 t679.length co128 : Value).ownBlock) ∧ some k_ ≠ (.slice Ao11 t638.length co11 : Value).ownBlock) ∧ some k_ ≠ (.slice Ao15 t641.length co15 : Value).ownBlock) ∧ some k_ ≠ (.slice Ao16 t644.length co16 : Value).ownBlock) ∧ some k_ ≠ (.slice Ao68 t652.length co68 : Value).ownBlock) ∧ some k_ ≠ (.slice Ao73 t655.length co73 : Value).ownBlock) ∧ some k_ ≠ (.slice Ao74 t658.length co74 : Value).ownBlock) ∧ some k_ ≠ (.slice Ao79 t663.length co79 : Value).ownBlock) ∧ some k_ ≠ (.slice Ao85 t666.length co85 : Value).ownBlock) ∧ some k_ ≠ (.slice Ao86 t669.length co86 : Value).ownBlock) ∧ some k_ ≠ (.slice Ao136 t687.length co136 : Value).ownBlock) ∧ some k_ ≠ (.slice Ao144 t690.length co144 : Value).ownBlock) ∧ some k_ ≠ (.slice Ao145 t693.length co145 : Value).ownBlock)) (n := t682.length) (c := co129) ?_).2.2; exact (Sm (Kd.S_mono (Kd.S_far (p := ⟨gb697, 2, none⟩) (Kd.S_far (p := ⟨gb697, 1, none⟩) (Kd.S_far (p := ⟨gb697, 0, none⟩) (Kd.S_types HO684.out BK697.out (by decide)) (fun _ hk => hk.2) (.slice Ao136 t687.length co136)) (fun _ hk => hk.2) (.slice Ao144 t690.length co144)) (fun _ hk => hk.2) (.slice Ao145 t693.length co145)) (fun _ h_ => h_.1)))); (case side6 => exact (Kd.S_reads' HO684.out).2.1); (case side7 => exact Kd.C_below HR0_0.out (by repeat first | exact Bl HB | refine Bp (below_set ?_ GE636.out) | refine Bp (below_set ?_ GE637.out) | refine Bp (below_set ?_ GE648.out) | refine Bp (below_set ?_ GE662.out) | refine Bp (below_set ?_ GE673.out) | refine Bp (below_set ?_ GE686.out) | refine Bp (below_set ?_ GE697.out))); (case side8 => exact HC0_0.out); (case side9 => exact Kd.C_below HR0_1.out (by repeat first | exact Bl HB | refine Bp (below_set ?_ GE636.out) | refine Bp (below_set ?_ GE637.out) | refine Bp (below_set ?_ GE648.out) | refine Bp (below_set ?_ GE662.out) | refine Bp (below_set ?_ GE673.out) | refine Bp (below_set ?_ GE686.out) | refine Bp (below_set ?_ GE697.out))); (case side10 => exact HC0_1.out); (case side11 => exact Kd.C_below HR0_2.out (by repeat first | exact Bl HB | refine Bp (below_set ?_ GE636.out) | refine Bp (below_set ?_ GE637.out) | refine Bp (below_set ?_ GE648.out) | refine Bp (below_set ?_ GE662.out) | refine Bp (below_set ?_ GE673.out) | refine Bp (below_set ?_ GE686.out) | refine Bp (below_set ?_ GE697.out))); (case side12 => exact HC0_2.out); rintro e w148 ⟨rfl, hb⟩; have n0_ := Am (Kd.R_below (Rm (Kd.R_mono (Kd.R_far (p := ⟨gb697, 2, none⟩) (Kd.R_far (p := ⟨gb697, 1, none⟩) (Kd.R_far (p := ⟨gb697, 0, none⟩) (Kd.R_types HO_649000.out BK697.out (by decide)) (fun _ hk => hk.2) (.slice Ao136 t687.length co136)) (fun _ hk => hk.2) (.slice Ao144 t690.length co144)) (fun _ hk => hk.2) (.slice Ao145 t693.length co145)) (fun _ h_ => h_.1))) hb); have n1_ := Am (Kd.R_below (Rm (Kd.R_mono (Kd.R_far (p := ⟨gb697, 2, none⟩) (Kd.R_far (p := ⟨gb697, 1, none⟩) (Kd.R_far (p := ⟨gb697, 0, none⟩) (Kd.R_types HO_649001.out BK697.out (by decide)) (fun _ hk => hk.2) (.slice Ao136 t687.length co136)) (fun _ hk => hk.2) (.slice Ao144 t690.length co144)) (fun _ hk => hk.2) (.slice Ao145 t693.length co145)) (fun _ h_ => h_.1))) hb); have n2_ := Am (Kd.S_below (Sm (Kd.S_mono (Kd.S_far (p := ⟨gb697, 2, none⟩) (Kd.S_far (p := ⟨gb697, 1, none⟩) (Kd.S_far (p := ⟨gb697, 0, none⟩) (Kd.S_types HO_649002.out BK697.out (by decide)) (fun _ hk => hk.2) (.slice Ao136 t687.length co136)) (fun _ hk => hk.2) (.slice Ao144 t690.length co144)) (fun _ hk => hk.2) (.slice Ao145 t693.length co145)) (fun _ h_ => h_.1))) hb); have n3_ := Am (Kd.R_below (Rm (Kd.R_mono (Kd.R_far (p := ⟨gb697, 2, none⟩) (Kd.R_far (p := ⟨gb697, 1, none⟩) (Kd.R_far (p := ⟨gb697, 0, none⟩) (Kd.R_types HO_663000.out BK697.out (by decide)) (fun _ hk => hk.2) (.slice Ao136 t687.length co136)) (fun _ hk => hk.2) (.slice Ao144 t690.length co144)) (fun _ hk => hk.2) (.slice Ao145 t693.length co145)) (fun _ h_ => h_.1))) hb); have n4_ := Am (Kd.R_below (Rm (Kd.R_mono (Kd.R_far (p := ⟨gb697, 2, none⟩) (Kd.R_far (p := ⟨gb697, 1, none⟩) (Kd.R_far (p := ⟨gb697, 0, none⟩) (Kd.R_types HO_663001.out BK697.out (by decide)) (fun _ hk => hk.2) (.slice Ao136 t687.length co136)) (fun _ hk => hk.2) (.slice Ao144 t690.length co144)) (fun _ hk => hk.2) (.slice Ao145 t693.length co145)) (fun _ h_ => h_.1))) hb); have n5_ := Am (Kd.S_below (Sm (Kd.S_mono (Kd.S_far (p := ⟨gb697, 2, none⟩) (Kd.S_far (p := ⟨gb697, 1, none⟩) (Kd.S_far (p := ⟨gb697, 0, none⟩) (Kd.S_types HO_663002.out BK697.out (by decide)) (fun _ hk => hk.2) (.slice Ao136 t687.length co136)) (fun _ hk => hk.2) (.slice Ao144 t690.length co144)) (fun _ hk => hk.2) (.slice Ao145 t693.length co145)) (fun _ h_ => h_.1))) hb); have n6_ := Am (Kd.R_below (Rm (Kd.R_mono (Kd.R_far (p := ⟨gb697, 2, none⟩) (Kd.R_far (p := ⟨gb697, 1, none⟩) (Kd.R_far (p := ⟨gb697, 0, none⟩) (Kd.R_types HO_674000.out BK697.out (by decide)) (fun _ hk => hk.2) (.slice Ao136 t687.length co136)) (fun _ hk => hk.2) (.slice Ao144 t690.length co144)) (fun _ hk => hk.2) (.slice Ao145 t693.length co145)) (fun _ h_ => h_.1))) hb); have n7_ := Am (Kd.R_below (Rm (Kd.R_mono (Kd.R_far (p := ⟨gb697, 2, none⟩) (Kd.R_far (p := ⟨gb697, 1, none⟩) (Kd.R_far (p := ⟨gb697, 0, none⟩) (Kd.R_types HO_674001.out BK697.out (by decide)) (fun _ hk => hk.2) (.slice Ao136 t687.length co136)) (fun _ hk => hk.2) (.slice Ao144 t690.length co144)) (fun _ hk => hk.2) (.slice Ao145 t693.length co145)) (fun _ h_ => h_.1))) hb); have n8_ := Am (Kd.S_below (Sm (Kd.S_mono (Kd.S_far (p := ⟨gb697, 2, none⟩) (Kd.S_far (p := ⟨gb697, 1, none⟩) (Kd.S_far (p := ⟨gb697, 0, none⟩) (Kd.S_types HO_674002.out BK697.out (by decide)) (fun _ hk => hk.2) (.slice Ao136 t687.length co136)) (fun _ hk => hk.2) (.slice Ao144 t690.length co144)) (fun _ hk => hk.2) (.slice Ao145 t693.length co145)) (fun _ h_ => h_.1))) hb); have n9_ := Am (Kd.R_below (Rm (Kd.R_mono (Kd.R_far (p := ⟨gb697, 2, none⟩) (Kd.R_far (p := ⟨gb697, 1, none⟩) (Kd.R_far (p := ⟨gb697, 0, none⟩) (Kd.R_types HO678.out BK697.out (by decide)) (fun _ hk => hk.2) (.slice Ao136 t687.length co136)) (fun _ hk => hk.2) (.slice Ao144 t690.length co144)) (fun _ hk => hk.2) (.slice Ao145 t693.length co145)) (fun _ h_ => h_.1))) hb); have n10_ := Am (Kd.R_below (Rm (Kd.R_mono (Kd.R_far (p := ⟨gb697, 2, none⟩) (Kd.R_far (p := ⟨gb697, 1, none⟩) (Kd.R_far (p := ⟨gb697, 0, none⟩) (Kd.R_types HO681.out BK697.out (by decide)) (fun _ hk => hk.2) (.slice Ao136 t687.length co136)) (fun _ hk => hk.2) (.slice Ao144 t690.length co144)) (fun _ hk => hk.2) (.slice Ao145 t693.length co145)) (fun _ h_ => h_.1))) hb); have n11_ := Am (Kd.S_below (Sm (Kd.S_mono (Kd.S_far (p := ⟨gb697, 2, none⟩) (Kd.S_far (p := ⟨gb697, 1, none⟩) (Kd.S_far (p := ⟨gb697, 0, none⟩) (Kd.S_types HO684.out BK697.out (by decide)) (fun _ hk => hk.2) (.slice Ao136 t687.length co136)) (fun _ hk => hk.2) (.slice Ao144 t690.length co144)) (fun _ hk => hk.2) (.slice Ao145 t693.length co145)) (fun _ h_ => h_.1))) hb); have n12_ := Am (Kd.R_below (Rm (Kd.R_mono (Kd.R_far (p := ⟨gb697, 2, none⟩) (Kd.R_far (p := ⟨gb697, 1, none⟩) (Kd.R_far (p := ⟨gb697, 0, none⟩) (Kd.R_types HO689.out BK697.out (by decide)) (fun _ hk => hk.2) (.slice Ao136 t687.length co136)) (fun _ hk => hk.2) (.slice Ao144 t690.length co144)) (fun _ hk => hk.2) (.slice Ao145 t693.length co145)) (fun _ h_ => h_.1))) hb); have n13_ := Am (Kd.R_below (Rm (Kd.R_mono (Kd.R_far (p := ⟨gb697, 2, none⟩) (Kd.R_far (p := ⟨gb697, 1, none⟩) (Kd.R_far (p := ⟨gb697, 0, none⟩) (Kd.R_types HO692.out BK697.out (by decide)) (fun _ hk => hk.2) (.slice Ao136 t687.length co136)) (fun _ hk => hk.2) (.slice Ao144 t690.length co144)) (fun _ hk => hk.2) (.slice Ao145 t693.length co145)) (fun _ h_ => h_.1))) hb); have n14_ := Am (Kd.S_below (Sm (Kd.S_mono (Kd.S_far (p := ⟨gb697, 2, none⟩) (Kd.S_far (p := ⟨gb697, 1, none⟩) (Kd.S_far (p := ⟨gb697, 0, none⟩) (Kd.S_types HO695.out BK697.out (by decide)) (fun _ hk => hk.2) (.slice Ao136 t687.length co136)) (fun _ hk => hk.2) (.slice Ao144 t690.length co144)) (fun _ hk => hk.2) (.slice Ao145 t693.length co145)) (fun _ h_ => h_.1))) hb); have n15_ := Am (blk_below (g := gb636) (o := .cells #[.slice A0_0 l0_0.length c0_0, .slice A0_1 l0_1.length c0_1, .slice A0_2 l0_2.length c0_2] 39 (0, 0)) (by refine Kp ?_; refine blk_far ?_ NB636_697.out _; refine Kp ?_; refine blk_far ?_ NB636_697.out _; refine Kp ?_; refine blk_far ?_ NB636_697.out _; refine Kp ?_; exact BK636.out) hb); have n16_ := Am (blk_below (g := gb637) (o := .cells #[.slice A1_0 l1_0.length c1_0, .slice A1_1 l1_1.length c1_1, .slice A1_2 l1_2.length c1_2] 39 (0, 0)) (by refine Kp ?_; refine blk_far ?_ NB637_697.out _; refine Kp ?_; refine blk_far ?_ NB637_697.out _; refine Kp ?_; refine blk_far ?_ NB637_697.out _; refine Kp ?_; exact BK637.out) hb); have n17_ := Am (blk_below (g := gb648) (o := .cells #[.slice Ao11 t638.length co11, .slice Ao15 t641.length co15, .slice Ao16 t644.length co16] 39 (0, 0)) (by refine Kp ?_; refine blk_far ?_ NB648_697.out _; refine Kp ?_; refine blk_far ?_ NB648_697.out _; refine Kp ?_; refine blk_far ?_ NB648_697.out _; refine Kp ?_; exact BK648.out) hb); have n18_ := Am (blk_below (g := gb662) (o := .cells #[.slice Ao68 t652.length co68, .slice Ao73 t655.length co73, .slice Ao74 t658.length co74] 39 (0, 0)) (by refine Kp ?_; refine blk_far ?_ NB662_697.out _; refine Kp ?_; refine blk_far ?_ NB662_697.out _; refine Kp ?_; refine blk_far ?_ NB662_697.out _; refine Kp ?_; exact BK662.out) hb); have n19_ := Am (blk_below (g := gb673) (o := .cells #[.slice Ao79 t663.length co79, .slice Ao85 t666.length co85, .slice Ao86 t669.length co86] 39 (0, 0)) (by refine Kp ?_; refine blk_far ?_ NB673_697.out _; refine Kp ?_; refine blk_far ?_ NB673_697.out _; refine Kp ?_; refine blk_far ?_ NB673_697.out _; refine Kp ?_; exact BK673.out) hb); have n20_ := Am (blk_below (g := gb686) (o := .cells #[.slice Ao121 t676.length co121, .slice Ao128 t679.length co128, .slice Ao129 t682.length co129] 39 (0, 0)) (by refine Kp ?_; refine blk_far ?_ NB686_697.out _; refine Kp ?_; refine blk_far ?_ NB686_697.out _; refine Kp ?_; refine blk_far ?_ NB686_697.out _; refine Kp ?_; exact BK686.out) hb); have n21_ := Am (blk_below (g := gb697) (o := .cells #[.slice Ao136 t687.length co136, .slice Ao144 t690.length co144, .slice Ao145 t693.length co145] 39 (0, 0)) (by refine Kp ?_; refine blk_put (cs := #[.slice Ao136 t687.length co136, .slice Ao144 t690.length co144, .slice none 0 0]) ?_ 2 _ rfl; refine Kp ?_; refine blk_put (cs := #[.slice Ao136 t687.length co136, .slice none 0 0, .slice none 0 0]) ?_ 1 _ rfl; refine Kp ?_; refine blk_put (cs := #[.slice none 0 0, .slice none 0 0, .slice none 0 0]) ?_ 0 _ rfl; refine Kp ?_; exact BK697.out) hb); have n22_ := Am (below_step (by repeat first | exact Bl HB | refine Bp (below_set ?_ GE636.out) | refine Bp (below_set ?_ GE637.out) | refine Bp (below_set ?_ GE648.out) | refine Bp (below_set ?_ GE662.out) | refine Bp (below_set ?_ GE673.out) | refine Bp (below_set ?_ GE686.out) | refine Bp (below_set ?_ GE697.out)) hb); clear HO_649000 HO_649001 HO_649002 HO_663000 HO_663001 HO_663002 HO_674000 HO_674001 HO_674002 HO678 HO681 HO684 HO689 HO692 HO695 BK636 BK637 BK648 BK662 BK673 BK686 BK697 HB; have HO_649000 := n0_; have HO_649001 := n1_; have HO_649002 := n2_; have HO_663000 := n3_; have HO_663001 := n4_; have HO_663002 := n5_; have HO_674000 := n6_; have HO_674001 := n7_; have HO_674002 := n8_; have HO678 := n9_; have HO681 := n10_; have HO684 := n11_; have HO689 := n12_; have HO692 := n13_; have HO695 := n14_; have BK636 := n15_; have BK637 := n16_; have BK648 := n17_; have BK662 := n18_; have BK673 := n19_; have BK686 := n20_; have BK697 := n21_; have HB := n22_; clear n0_ n1_ n2_ n3_ n4_ n5_ n6_ n7_ n8_ n9_ n10_ n11_ n12_ n13_ n14_ n15_ n16_ n17_ n18_ n19_ n20_ n21_ n22_; (try clear hb); (try clear hb2); (try clear hk); (try clear hi); have hcz149_0 : w148.cell? ⟨gb697, 0, none⟩ = some (.slice Ao136 t687.length co136) := (blk_cell BK697.out 0).trans rfl; have hcz149_1 : w148.cell? ⟨gb697, 1, none⟩ = some (.slice Ao144 t690.length co144) := (blk_cell BK697.out 1).trans rfl; have hcz149_2 : w148.cell? ⟨gb697, 2, none⟩ = some (.slice Ao145 t693.length co145) := (blk_cell BK697.out 2).trans rfl; have hfz149_0 := blk_frozen BK697.out 0; have hfz149_1 := blk_frozen BK697.out 1; have hfz149_2 := blk_frozen BK697.out 2; have hcz150_0 : w148.cell? ⟨gb637, 0, none⟩ = some (.slice A1_0 l1_0.length c1_0) := (blk_cell BK637.out 0).trans rfl; have hcz150_1 : w148.cell? ⟨gb637, 1, none⟩ = some (.slice A1_1 l1_1.length c1_1) := (blk_cell BK637.out 1).trans rfl; have hcz150_2 : w148.cell? ⟨gb637, 2, none⟩ = some (.slice A1_2 l1_2.length c1_2) := (blk_cell BK637.out 2).trans rfl; have hfz150_0 := blk_frozen BK637.out 0; have hfz150_1 := blk_frozen BK637.out 1; have hfz150_2 := blk_frozen BK637.out 2) | (go_at_call 18; (with_reducible refine (examboardlaw24_same.calls kj59 _ _ t687 _ _ t690 _ _ t693 _ _ l1_0 _ _ l1_1 _ _ l1_2 true _ ?side1 ?side2 ?side3 ?side4 ?side5 ?side6 ?side7 ?side8 ?side9 ?side10 ?side11 ?side12 A107.out).mono ?_); (case side1 => exact Cm (Kd.R_reads' HO689.out).2.2); (case side2 => exact (Kd.R_reads' HO689.out).2.1); (case side3 => exact Cm (Kd.R_reads' HO692.out).2.2); (case side4 => exact (Kd.R_reads' HO692.out).2.1); (case side5 => repeat (first | exact (Kd.S_reads' HO695.out).2.2 | (with_reducible refine Kd.C_alloc ?_ _) | (with_reducible refine Kd.C_drewN ?_ _) | (with_reducible refine Kd.C_drew ?_))); (case side6 => exact (Kd.S_reads' HO695.out).2.1); (case side7 => repeat (first | exact (Kd.C_below HR1_0.out HB.out) | (with_reducible refine Kd.C_alloc ?_ _) | (with_reducible refine Kd.C_drewN ?_ _) | (with_reducible refine Kd.C_drew ?_))); (case side8 => exact HC1_0.out); (case side9 => repeat (first | exact (Kd.C_below HR1_1.out HB.out) | (with_reducible refine Kd.C_alloc ?_ _) | (with_reducible refine Kd.C_drewN ?_ _) | (with_reducible refine Kd.C_drew ?_))); (case side10 => exact HC1_1.out); (case side11 => repeat (first | exact (Kd.C_below HR1_2.out HB.out) | (with_reducible refine Kd.C_alloc ?_ _) | (with_reducible refine Kd.C_drewN ?_ _) | (with_reducible refine Kd.C_drew ?_))); (case side12 => exact HC1_2.out); rintro e w151 ⟨rfl, hb⟩; have n0_ := Am (Kd.R_below (Rl HO_649000) hb); have n1_ := Am (Kd.R_below (Rl HO_649001) hb); have n2_ := Am (Kd.S_below (Sl HO_649002) hb); have n3_ := Am (Kd.R_below (Rl HO_663000) hb); have n4_ := Am (Kd.R_below (Rl HO_663001) hb); have n5_ := Am (Kd.S_below (Sl HO_663002) hb); have n6_ := Am (Kd.R_below (Rl HO_674000) hb); have n7_ := Am (Kd.R_below (Rl HO_674001) hb); have n8_ := Am (Kd.S_below (Sl HO_674002) hb); have n9_ := Am (Kd.R_below (Rl HO678) hb); have n10_ := Am (Kd.R_below (Rl HO681) hb); have n11_ := Am (Kd.S_below (Sl HO684) hb); have n12_ := Am (Kd.R_below (Rl HO689) hb); have n13_ := Am (Kd.R_below (Rl HO692) hb); have n14_ := Am (Kd.S_below (Sl HO695) hb); have n15_ := Am (blk_below (Kl BK636) hb); have n16_ := Am (blk_below (Kl BK637) hb); have n17_ := Am (blk_below (Kl BK648) hb); have n18_ := Am (blk_below (Kl BK662) hb); have n19_ := Am (blk_below (Kl BK673) hb); have n20_ := Am (blk_below (Kl BK686) hb); have n21_ := Am (blk_below (Kl BK697) hb); have n22_ := Am (below_step (by repeat first | exact Bl HB | refine Bp (below_set ?_ GE636.out) | refine Bp (below_set ?_ GE637.out) | refine Bp (below_set ?_ GE648.out) | refine Bp (below_set ?_ GE662.out) | refine Bp (below_set ?_ GE673.out) | refine Bp (below_set ?_ GE686.out) | refine Bp (below_set ?_ GE697.out)) hb); clear HO_649000 HO_649001 HO_649002 HO_663000 HO_663001 HO_663002 HO_674000 HO_674001 HO_674002 HO678 HO681 HO684 HO689 HO692 HO695 BK636 BK637 BK648 BK662 BK673 BK686 BK697 HB; have HO_649000 := n0_; have HO_649001 := n1_; have HO_649002 := n2_; have HO_663000 := n3_; have HO_663001 := n4_; have HO_663002 := n5_; have HO_674000 := n6_; have HO_674001 := n7_; have HO_674002 := n8_; have HO678 := n9_; have HO681 := n10_; have HO684 := n11_; have HO689 := n12_; have HO692 := n13_; have HO695 := n14_; have BK636 := n15_; have BK637 := n16_; have BK648 := n17_; have BK662 := n18_; have BK673 := n19_; have BK686 := n20_; have BK697 := n21_; have HB := n22_; clear n0_ n1_ n2_ n3_ n4_ n5_ n6_ n7_ n8_ n9_ n10_ n11_ n12_ n13_ n14_ n15_ n16_ n17_ n18_ n19_ n20_ n21_ n22_; (try clear hb); (try clear hb2); (try clear hk); (try clear hi)) | (go_at_call 15; (with_reducible refine (examboardlaw24_awake.calls kj59  t700 _ A109.out).mono ?_); rintro e w152 ⟨rfl, hb⟩; have n0_ := Am (Kd.R_below (Rl HO_649000) hb); have n1_ := Am (Kd.R_below (Rl HO_649001) hb); have n2_ := Am (Kd.S_below (Sl HO_649002) hb); have n3_ := Am (Kd.R_below (Rl HO_663000) hb); have n4_ := Am (Kd.R_below (Rl HO_663001) hb); have n5_ := Am (Kd.S_below (Sl HO_663002) hb); have n6_ := Am (Kd.R_below (Rl HO_674000) hb); have n7_ := Am (Kd.R_below (Rl HO_674001) hb); have n8_ := Am (Kd.S_below (Sl HO_674002) hb); have n9_ := Am (Kd.R_below (Rl HO678) hb); have n10_ := Am (Kd.R_below (Rl HO681) hb); have n11_ := Am (Kd.S_below (Sl HO684) hb); have n12_ := Am (Kd.R_below (Rl HO689) hb); have n13_ := Am (Kd.R_below (Rl HO692) hb); have n14_ := Am (Kd.S_below (Sl HO695) hb); have n15_ := Am (blk_below (Kl BK636) hb); have n16_ := Am (blk_below (Kl BK637) hb); have n17_ := Am (blk_below (Kl BK648) hb); have n18_ := Am (blk_below (Kl BK662) hb); have n19_ := Am (blk_below (Kl BK673) hb); have n20_ := Am (blk_below (Kl BK686) hb); have n21_ := Am (blk_below (Kl BK697) hb); have n22_ := Am (below_step (by repeat first | exact Bl HB | refine Bp (below_set ?_ GE636.out) | refine Bp (below_set ?_ GE637.out) | refine Bp (below_set ?_ GE648.out) | refine Bp (below_set ?_ GE662.out) | refine Bp (below_set ?_ GE673.out) | refine Bp (below_set ?_ GE686.out) | refine Bp (below_set ?_ GE697.out)) hb); clear HO_649000 HO_649001 HO_649002 HO_663000 HO_663001 HO_663002 HO_674000 HO_674001 HO_674002 HO678 HO681 HO684 HO689 HO692 HO695 BK636 BK637 BK648 BK662 BK673 BK686 BK697 HB; have HO_649000 := n0_; have HO_649001 := n1_; have HO_649002 := n2_; have HO_663000 := n3_; have HO_663001 := n4_; have HO_663002 := n5_; have HO_674000 := n6_; have HO_674001 := n7_; have HO_674002 := n8_; have HO678 := n9_; have HO681 := n10_; have HO684 := n11_; have HO689 := n12_; have HO692 := n13_; have HO695 := n14_; have BK636 := n15_; have BK637 := n16_; have BK648 := n17_; have BK662 := n18_; have BK673 := n19_; have BK686 := n20_; have BK697 := n21_; have HB := n22_; clear n0_ n1_ n2_ n3_ n4_ n5_ n6_ n7_ n8_ n9_ n10_ n11_ n12_ n13_ n14_ n15_ n16_ n17_ n18_ n19_ n20_ n21_ n22_; (try clear hb); (try clear hb2); (try clear hk); (try clear hi)))
              go_ret
              exact ⟨by first | rfl | (simp [errW_none, errW_some] <;> rfl) | (simp [*, errW_none, errW_some] <;> rfl), by repeat first | exact Bl HB | refine Bp (below_set ?_ GE636.out) | refine Bp (below_set ?_ GE637.out) | refine Bp (below_set ?_ GE648.out) | refine Bp (below_set ?_ GE662.out) | refine Bp (below_set ?_ GE673.out) | refine Bp (below_set ?_ GE686.out) | refine Bp (below_set ?_ GE697.out)⟩
             ·replace c108 := Bool.eq_false_iff.mpr c108
              subst c108
              have H1 : (none) = some r := by rw [if_neg (show ¬ (false = true) by decide)] at H; exact H
              clear H
              have H := H1
              clear H1
              exact absurd H (by simp)
            ·replace c106 := Bool.eq_false_iff.mpr c106
             subst c106
             have H1 : (none) = some r := by rw [if_neg (show ¬ (false = true) by decide)] at H; exact H
             clear H
             have H := H1
             clear H1
             exact absurd H (by simp)
           ·rw [if_neg c104] at H
            exact absurd H (by simp)
          ·rw [if_neg c103] at H
           exact absurd H (by simp)
         ·rw [if_neg c100] at H
          have c100b0 : (t661 == 0) = false := beq_eq_false_iff_ne.mpr c100
          have c100b1 : (t661 != 0) = true := bne_iff_ne.mpr c100
          replace H := Option.bind_eq_some_iff.mp H
          obtain ⟨t675, A1530, H⟩ := H
          replace H : (some t675) = some r := H
          have A153 := Am A1530
          clear A1530
          obtain rfl := Option.some.inj H
          go_wp2_with (first | ((with_reducible refine gate_callee (f := 15) rfl ?_); refine goesL_ (some 73) rfl rfl Try.func15 (by kernel_rfl) rfl #[] rfl (by (try simp only [List.map_toArray, List.map_cons, List.map_nil]); first | done | rfl | (simp only [List.length_drop, List.length_take]; rfl)) ?_; (with_reducible refine (examboardlaw24_awake.calls kj59  t675 _ A153.out).mono ?_); rintro e w154 ⟨rfl, hb⟩; refine ⟨_, rfl, ?_⟩; have n0_ := Am (Kd.R_below (Rl HO_649000) hb); have n1_ := Am (Kd.R_below (Rl HO_649001) hb); have n2_ := Am (Kd.S_below (Sl HO_649002) hb); have n3_ := Am (Kd.R_below (Rl HO_663000) hb); have n4_ := Am (Kd.R_below (Rl HO_663001) hb); have n5_ := Am (Kd.S_below (Sl HO_663002) hb); have n6_ := Am (Kd.R_below (Rl HO_674000) hb); have n7_ := Am (Kd.R_below (Rl HO_674001) hb); have n8_ := Am (Kd.S_below (Sl HO_674002) hb); have n9_ := Am (blk_below (Kl BK636) hb); have n10_ := Am (blk_below (Kl BK637) hb); have n11_ := Am (blk_below (Kl BK648) hb); have n12_ := Am (blk_below (Kl BK662) hb); have n13_ := Am (blk_below (Kl BK673) hb); have n14_ := Am (below_step (by repeat first | exact Bl HB | refine Bp (below_set ?_ GE636.out) | refine Bp (below_set ?_ GE637.out) | refine Bp (below_set ?_ GE648.out) | refine Bp (below_set ?_ GE662.out) | refine Bp (below_set ?_ GE673.out)) hb); clear HO_649000 HO_649001 HO_649002 HO_663000 HO_663001 HO_663002 HO_674000 HO_674001 HO_674002 BK636 BK637 BK648 BK662 BK673 HB; have HO_649000 := n0_; have HO_649001 := n1_; have HO_649002 := n2_; have HO_663000 := n3_; have HO_663001 := n4_; have HO_663002 := n5_; have HO_674000 := n6_; have HO_674001 := n7_; have HO_674002 := n8_; have BK636 := n9_; have BK637 := n10_; have BK648 := n11_; have BK662 := n12_; have BK673 := n13_; have HB := n14_; clear n0_ n1_ n2_ n3_ n4_ n5_ n6_ n7_ n8_ n9_ n10_ n11_ n12_ n13_ n14_; (try clear hb); (try clear hb2); (try clear hk); (try clear hi)))
          go_ret
          exact ⟨by first | rfl | (simp [errW_none, errW_some] <;> rfl) | (simp [*, errW_none, errW_some] <;> rfl), by repeat first | exact Bl HB | refine Bp (below_set ?_ GE636.out) | refine Bp (below_set ?_ GE637.out) | refine Bp (below_set ?_ GE648.out) | refine Bp (below_set ?_ GE662.out) | refine Bp (below_set ?_ GE673.out)⟩

end Go.Proofs.Ytgeplglggcoaiab.Matrix
