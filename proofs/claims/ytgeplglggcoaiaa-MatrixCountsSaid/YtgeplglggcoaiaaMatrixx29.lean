/- Lean functions and walks for Go functions of this seat, written by this claim's own program (wip/tools/xprint.py) over the kit's print. -/
import Derived.Test.YtgeplglggcoaiaaMatrixx0
import Derived.Test.YtgeplglggcoaiaaMatrixx3
import Derived.Test.YtgeplglggcoaiaaMatrixx20
import Derived.Test.YtgeplglggcoaiaaMatrixx21
import Derived.Test.YtgeplglggcoaiaaMatrixx25
import Derived.Test.YtgeplglggcoaiaaMatrixx28
namespace Go.Proofs.Ytgeplglggcoaiaa.Matrix
open Go.RowKit Go.Sort Go.Proofs.YtgeplglggcoaiaaMakec Go.Proofs.YtgeplglggcoaiaaW.PrintWords Go.Proofs.YtgeplglggcoaiaaW.PrintLast Go.Proofs.YtgeplglggcoaiaaW.PrintMore
attribute [local go_sem] max2_int min2_int max_two min_two max_three min_three max_four min_four   -- for this text's walks alone
set_option linter.unusedVariables false
set_option linter.unusedSimpArgs false

/-! ### examboardlaw24_MatrixCounts: function 9 -/
mutual
def examboardlaw24_MatrixCounts.l0 : Nat → List Int → Int → Int → List (List Int) → Int → Int → List Int → List Int → List (List Int) → Option (Bool)
 | 0, _, _, _, _, _, _, _, _, _ => none
 | k + 1, x1, x5, x6, x23, x24, x25, x439000, x439001, x439002 => if x25 < x24 then (if 0 ≤ x25 then (if x25 < (x23.length : Int) then ((matrix_Total.f k (rd_L1 x23 x25)).bind fun bt442 => (examboardlaw24_MatrixCounts.l0 k x1 (wrap64 (x5 + bt442.1)) (wrap64 (x6 + bt442.2)) x23 x24 (wrap64 (x25 + 1)) x439000 x439001 x439002)) else (none)) else (none)) else (examboardlaw24_MatrixCounts.l1 k x1 x5 x6 (x439001.length : Int) 0 x439000 x439001 x439002)
def examboardlaw24_MatrixCounts.l1 : Nat → List Int → Int → Int → Int → Int → List Int → List Int → List (List Int) → Option (Bool)
 | 0, _, _, _, _, _, _, _, _ => none
 | k + 1, x1, x5, x6, x43, x44, x439000, x439001, x439002 => if x44 < x43 then ((matrix_Column.f k x439000 x439001 x439002 x44).bind fun bt445 => (if bt445.2 = true then (examboardlaw24_MatrixCounts.j2 k x1 x5 x6 x44 bt445.1 x43 x44 ((bt445.1.length : Int) != (x439000.length : Int)) x439000 x439001 x439002) else (none))) else (if x5 = 0 then (if x6 = 0 then ((examboardlaw24_awake.f k).bind fun t444 => (some t444)) else (none)) else (none))
def examboardlaw24_MatrixCounts.j2 : Nat → List Int → Int → Int → Int → List Int → Int → Int → Bool → List Int → List Int → List (List Int) → Option (Bool)
 | 0, _, _, _, _, _, _, _, _, _, _, _ => none
 | k + 1, x1, x5, x6, x11, x12, x43, x44, x62, x439000, x439001, x439002 => if x62 = true then (none) else (if 0 ≤ x11 then (if x11 < (x1.length : Int) then ((matrix_Counts.f k x12 (rd x1 x11)).bind fun t450 => (if (t450.length : Int) = (rd x1 x11) then (examboardlaw24_MatrixCounts.l2 k x1 x5 x6 t450 x43 x44 (t450.length : Int) 0 x439000 x439001 x439002) else (none))) else (none)) else (none))
def examboardlaw24_MatrixCounts.l2 : Nat → List Int → Int → Int → List Int → Int → Int → Int → Int → List Int → List Int → List (List Int) → Option (Bool)
 | 0, _, _, _, _, _, _, _, _, _, _, _ => none
 | k + 1, x1, x5, x6, x14, x43, x44, x77, x78, x439000, x439001, x439002 => if x78 < x77 then (if 0 ≤ x78 then (if x78 < (x14.length : Int) then (if (rd x14 x78) < 0 then (none) else (examboardlaw24_MatrixCounts.l2 k x1 (wrap64 (x5 - (wrap64 (x78 * (rd x14 x78))))) (wrap64 (x6 - (rd x14 x78))) x14 x43 x44 x77 (wrap64 (x78 + 1)) x439000 x439001 x439002)) else (none)) else (none)) else (examboardlaw24_MatrixCounts.l1 k x1 x5 x6 x43 (wrap64 (x44 + 1)) x439000 x439001 x439002)
end
def examboardlaw24_MatrixCounts.f (k : Nat) (l0_0 : List Int) (l0_1 : List Int) (l0_2 : List (List Int)) (l1 : List Int) : Option (Bool) := (matrix_Valid.f k l0_0 l0_1 l0_2 l1).bind fun t439 => (if t439 = 0 then (examboardlaw24_MatrixCounts.l0 k l1 0 0 l0_2 (l0_2.length : Int) 0 l0_0 l0_1 l0_2) else ((examboardlaw24_awake.f k).bind fun t440 => (some t440)))
theorem examboardlaw24_MatrixCounts.mono_l : ∀ k, (∀ y0 y1 y2 y3 y4 y5 y6 y7 y8, LeO (examboardlaw24_MatrixCounts.l0 k y0 y1 y2 y3 y4 y5 y6 y7 y8) (examboardlaw24_MatrixCounts.l0 (k + 1) y0 y1 y2 y3 y4 y5 y6 y7 y8)) ∧ (∀ y0 y1 y2 y3 y4 y5 y6 y7, LeO (examboardlaw24_MatrixCounts.l1 k y0 y1 y2 y3 y4 y5 y6 y7) (examboardlaw24_MatrixCounts.l1 (k + 1) y0 y1 y2 y3 y4 y5 y6 y7)) ∧ (∀ y0 y1 y2 y3 y4 y5 y6 y7 y8 y9 y10, LeO (examboardlaw24_MatrixCounts.j2 k y0 y1 y2 y3 y4 y5 y6 y7 y8 y9 y10) (examboardlaw24_MatrixCounts.j2 (k + 1) y0 y1 y2 y3 y4 y5 y6 y7 y8 y9 y10)) ∧ (∀ y0 y1 y2 y3 y4 y5 y6 y7 y8 y9 y10, LeO (examboardlaw24_MatrixCounts.l2 k y0 y1 y2 y3 y4 y5 y6 y7 y8 y9 y10) (examboardlaw24_MatrixCounts.l2 (k + 1) y0 y1 y2 y3 y4 y5 y6 y7 y8 y9 y10))
 | 0 => ⟨fun _ _ _ _ _ _ _ _ _ r h => by simp [examboardlaw24_MatrixCounts.l0] at h, fun _ _ _ _ _ _ _ _ r h => by simp [examboardlaw24_MatrixCounts.l1] at h, fun _ _ _ _ _ _ _ _ _ _ _ r h => by simp [examboardlaw24_MatrixCounts.j2] at h, fun _ _ _ _ _ _ _ _ _ _ _ r h => by simp [examboardlaw24_MatrixCounts.l2] at h⟩
 | k + 1 => by
  obtain ⟨ih0, ih1, ih2, ih3⟩ := examboardlaw24_MatrixCounts.mono_l k
  refine ⟨?_, ?_, ?_, ?_⟩
  ·intro y0 y1 y2 y3 y4 y5 y6 y7 y8
   unfold examboardlaw24_MatrixCounts.l0
   repeat' first
   | (with_reducible exact ih0 _ _ _ _ _ _ _ _ _)
   | (with_reducible exact ih1 _ _ _ _ _ _ _ _)
   | (with_reducible exact ih2 _ _ _ _ _ _ _ _ _ _ _)
   | (with_reducible exact ih3 _ _ _ _ _ _ _ _ _ _ _)
   | (with_reducible exact examboardlaw24_awake.mono _)
   | (with_reducible exact matrix_Column.mono _ _ _ _ _)
   | (with_reducible exact matrix_Counts.mono _ _ _)
   | (with_reducible exact matrix_Total.mono _ _)
   | (with_reducible exact matrix_Valid.mono _ _ _ _ _)
   | (with_reducible exact LeO.refl _)
   | (with_reducible exact LeO.none _)
   | (with_reducible refine LeO.ite ?_ ?_)
   | (with_reducible refine LeO.bind ?_ (fun _ => ?_))
   | exact ih0 _ _ _ _ _ _ _ _ _
   | exact ih1 _ _ _ _ _ _ _ _
   | exact ih2 _ _ _ _ _ _ _ _ _ _ _
   | exact ih3 _ _ _ _ _ _ _ _ _ _ _
   | exact examboardlaw24_awake.mono _
   | exact matrix_Column.mono _ _ _ _ _
   | exact matrix_Counts.mono _ _ _
   | exact matrix_Total.mono _ _
   | exact matrix_Valid.mono _ _ _ _ _
   | exact LeO.none _
   | refine LeO.ite ?_ ?_
   | refine LeO.bind ?_ (fun _ => ?_)
  ·intro y0 y1 y2 y3 y4 y5 y6 y7
   unfold examboardlaw24_MatrixCounts.l1
   repeat' first
   | (with_reducible exact ih0 _ _ _ _ _ _ _ _ _)
   | (with_reducible exact ih1 _ _ _ _ _ _ _ _)
   | (with_reducible exact ih2 _ _ _ _ _ _ _ _ _ _ _)
   | (with_reducible exact ih3 _ _ _ _ _ _ _ _ _ _ _)
   | (with_reducible exact examboardlaw24_awake.mono _)
   | (with_reducible exact matrix_Column.mono _ _ _ _ _)
   | (with_reducible exact matrix_Counts.mono _ _ _)
   | (with_reducible exact matrix_Total.mono _ _)
   | (with_reducible exact matrix_Valid.mono _ _ _ _ _)
   | (with_reducible exact LeO.refl _)
   | (with_reducible exact LeO.none _)
   | (with_reducible refine LeO.ite ?_ ?_)
   | (with_reducible refine LeO.bind ?_ (fun _ => ?_))
   | exact ih0 _ _ _ _ _ _ _ _ _
   | exact ih1 _ _ _ _ _ _ _ _
   | exact ih2 _ _ _ _ _ _ _ _ _ _ _
   | exact ih3 _ _ _ _ _ _ _ _ _ _ _
   | exact examboardlaw24_awake.mono _
   | exact matrix_Column.mono _ _ _ _ _
   | exact matrix_Counts.mono _ _ _
   | exact matrix_Total.mono _ _
   | exact matrix_Valid.mono _ _ _ _ _
   | exact LeO.none _
   | refine LeO.ite ?_ ?_
   | refine LeO.bind ?_ (fun _ => ?_)
  ·intro y0 y1 y2 y3 y4 y5 y6 y7 y8 y9 y10
   unfold examboardlaw24_MatrixCounts.j2
   repeat' first
   | (with_reducible exact ih0 _ _ _ _ _ _ _ _ _)
   | (with_reducible exact ih1 _ _ _ _ _ _ _ _)
   | (with_reducible exact ih2 _ _ _ _ _ _ _ _ _ _ _)
   | (with_reducible exact ih3 _ _ _ _ _ _ _ _ _ _ _)
   | (with_reducible exact examboardlaw24_awake.mono _)
   | (with_reducible exact matrix_Column.mono _ _ _ _ _)
   | (with_reducible exact matrix_Counts.mono _ _ _)
   | (with_reducible exact matrix_Total.mono _ _)
   | (with_reducible exact matrix_Valid.mono _ _ _ _ _)
   | (with_reducible exact LeO.refl _)
   | (with_reducible exact LeO.none _)
   | (with_reducible refine LeO.ite ?_ ?_)
   | (with_reducible refine LeO.bind ?_ (fun _ => ?_))
   | exact ih0 _ _ _ _ _ _ _ _ _
   | exact ih1 _ _ _ _ _ _ _ _
   | exact ih2 _ _ _ _ _ _ _ _ _ _ _
   | exact ih3 _ _ _ _ _ _ _ _ _ _ _
   | exact examboardlaw24_awake.mono _
   | exact matrix_Column.mono _ _ _ _ _
   | exact matrix_Counts.mono _ _ _
   | exact matrix_Total.mono _ _
   | exact matrix_Valid.mono _ _ _ _ _
   | exact LeO.none _
   | refine LeO.ite ?_ ?_
   | refine LeO.bind ?_ (fun _ => ?_)
  ·intro y0 y1 y2 y3 y4 y5 y6 y7 y8 y9 y10
   unfold examboardlaw24_MatrixCounts.l2
   repeat' first
   | (with_reducible exact ih0 _ _ _ _ _ _ _ _ _)
   | (with_reducible exact ih1 _ _ _ _ _ _ _ _)
   | (with_reducible exact ih2 _ _ _ _ _ _ _ _ _ _ _)
   | (with_reducible exact ih3 _ _ _ _ _ _ _ _ _ _ _)
   | (with_reducible exact examboardlaw24_awake.mono _)
   | (with_reducible exact matrix_Column.mono _ _ _ _ _)
   | (with_reducible exact matrix_Counts.mono _ _ _)
   | (with_reducible exact matrix_Total.mono _ _)
   | (with_reducible exact matrix_Valid.mono _ _ _ _ _)
   | (with_reducible exact LeO.refl _)
   | (with_reducible exact LeO.none _)
   | (with_reducible refine LeO.ite ?_ ?_)
   | (with_reducible refine LeO.bind ?_ (fun _ => ?_))
   | exact ih0 _ _ _ _ _ _ _ _ _
   | exact ih1 _ _ _ _ _ _ _ _
   | exact ih2 _ _ _ _ _ _ _ _ _ _ _
   | exact ih3 _ _ _ _ _ _ _ _ _ _ _
   | exact examboardlaw24_awake.mono _
   | exact matrix_Column.mono _ _ _ _ _
   | exact matrix_Counts.mono _ _ _
   | exact matrix_Total.mono _ _
   | exact matrix_Valid.mono _ _ _ _ _
   | exact LeO.none _
   | refine LeO.ite ?_ ?_
   | refine LeO.bind ?_ (fun _ => ?_)
theorem examboardlaw24_MatrixCounts.mono : ∀ a0 a1 a2 a3 k, LeO (examboardlaw24_MatrixCounts.f k a0 a1 a2 a3) (examboardlaw24_MatrixCounts.f (k + 1) a0 a1 a2 a3) := by
 intro a0 a1 a2 a3 k
 obtain ⟨ih0, ih1, ih2, ih3⟩ := examboardlaw24_MatrixCounts.mono_l k
 unfold examboardlaw24_MatrixCounts.f
 repeat' first
   | (with_reducible exact ih0 _ _ _ _ _ _ _ _ _)
   | (with_reducible exact ih1 _ _ _ _ _ _ _ _)
   | (with_reducible exact ih2 _ _ _ _ _ _ _ _ _ _ _)
   | (with_reducible exact ih3 _ _ _ _ _ _ _ _ _ _ _)
   | (with_reducible exact examboardlaw24_awake.mono _)
   | (with_reducible exact matrix_Column.mono _ _ _ _ _)
   | (with_reducible exact matrix_Counts.mono _ _ _)
   | (with_reducible exact matrix_Total.mono _ _)
   | (with_reducible exact matrix_Valid.mono _ _ _ _ _)
   | (with_reducible exact LeO.refl _)
   | (with_reducible exact LeO.none _)
   | (with_reducible refine LeO.ite ?_ ?_)
   | (with_reducible refine LeO.bind ?_ (fun _ => ?_))
   | exact ih0 _ _ _ _ _ _ _ _ _
   | exact ih1 _ _ _ _ _ _ _ _
   | exact ih2 _ _ _ _ _ _ _ _ _ _ _
   | exact ih3 _ _ _ _ _ _ _ _ _ _ _
   | exact examboardlaw24_awake.mono _
   | exact matrix_Column.mono _ _ _ _ _
   | exact matrix_Counts.mono _ _ _
   | exact matrix_Total.mono _ _
   | exact matrix_Valid.mono _ _ _ _ _
   | exact LeO.none _
   | refine LeO.ite ?_ ?_
   | refine LeO.bind ?_ (fun _ => ?_)
set_option maxHeartbeats 8000000 in
set_option maxRecDepth 100000 in
theorem examboardlaw24_MatrixCounts.calls (k : Nat) (A0_0 : Option Addr) (c0_0 : Nat) (l0_0 : List Int) (A0_1 : Option Addr) (c0_1 : Nat) (l0_1 : List Int) (A0_2 : Option Addr) (c0_2 : Nat) (l0_2 : List (List Int)) (A1 : Option Addr) (c1 : Nat) (l1 : List Int) (r : Bool) (w : World) (hr0_0 : Kd.C (Kd.int .i64) w A0_0 l0_0.length l0_0) (hc0_0 : l0_0.length ≤ c0_0) (hr0_1 : Kd.C (Kd.int .i64) w A0_1 l0_1.length l0_1) (hc0_1 : l0_1.length ≤ c0_1) (hr0_2 : Kd.C (Kd.slice 3 (Kd.int .i64)) w A0_2 l0_2.length l0_2) (hc0_2 : l0_2.length ≤ c0_2) (hr1 : Kd.C (Kd.int .i64) w A1 l1.length l1) (hc1 : l1.length ≤ c1) (h : examboardlaw24_MatrixCounts.f k l0_0 l0_1 l0_2 l1 = some r) :
  Calls Try.prog 9 #[.agg #[.slice A0_0 l0_0.length c0_0, .slice A0_1 l0_1.length c0_1, .slice A0_2 l0_2.length c0_2], .slice A1 l1.length c1] w fun e w' => e = .returned (.bool r) ∧ Below w.heap.size w w' := by
 have hu53 := Try.underlying53
 have HR0_0 := Am hr0_0
 have HC0_0 := Am hc0_0
 clear hr0_0 hc0_0
 have HR0_1 := Am hr0_1
 have HC0_1 := Am hc0_1
 clear hr0_1 hc0_1
 have HR0_2 := Am hr0_2
 have HC0_2 := Am hc0_2
 clear hr0_2 hc0_2
 have HR1 := Am hr1
 have HC1 := Am hc1
 clear hr1 hc1
 have HB := Am (Below.refl w.heap.size w)
 have H : ((matrix_Valid.f k l0_0 l0_1 l0_2 l1).bind fun t439 => (if t439 = 0 then (examboardlaw24_MatrixCounts.l0 k l1 0 0 l0_2 (l0_2.length : Int) 0 l0_0 l0_1 l0_2) else ((examboardlaw24_awake.f k).bind fun t440 => (some t440)))) = some r := h
 clear h
 replace H := Option.bind_eq_some_iff.mp H
 obtain ⟨t439, A30, H⟩ := H
 replace H : (if t439 = 0 then (examboardlaw24_MatrixCounts.l0 k l1 0 0 l0_2 (l0_2.length : Int) 0 l0_0 l0_1 l0_2) else ((examboardlaw24_awake.f k).bind fun t440 => (some t440))) = some r := H
 have A3 := Am A30
 clear A30
 by_cases c4 : t439 = 0
 ·rw [if_pos c4] at H
  have c4b0 : (t439 == 0) = true := beq_iff_eq.mpr c4
  have c4b1 : (t439 != 0) = false := bne_eq_false_iff_eq.mpr c4
  clear c4
  have H' := Am H
  clear H
  go_enter Try.func9, Try.ntmps9
  go_wp2_with (first | ((with_reducible refine gate_dst (N := 2) rfl ?_); (try (refine gate_guard (by rfl) ?_; dsimp only)); refine box_event ?hg (N := 2) ?hd (cs := #[.slice A0_0 l0_0.length c0_0, .slice A0_1 l0_1.length c0_1, .slice A0_2 l0_2.length c0_2]) (t := 53) ?hr ?_; (case hd => rfl); (case hg => rfl); (case hr => first | (go_simp; done) | (go_simp; rfl)); intro gb438 hg w5 hbox hb; have n0_ := Am (below_step (Bl HB) hb); have n1_ := Am (hbox); have n2_ := Am ((by rw [hg]; exact (below_size (Bl HB)) : w.heap.size ≤ gb438)); have n3_ := Am ((by rw [hg]; exact (below_size (Bl HB)) : w.heap.size ≤ gb438)); clear HB; have HB := n0_; have BK438 := n1_; have GW438 := n2_; have GE438 := n3_; clear n0_ n1_ n2_ n3_; clear hb hbox hg; have hcz6_0 : w5.cell? ⟨gb438, 0, none⟩ = some (.slice A0_0 l0_0.length c0_0) := (blk_cell BK438.out 0).trans rfl; have hcz6_1 : w5.cell? ⟨gb438, 1, none⟩ = some (.slice A0_1 l0_1.length c0_1) := (blk_cell BK438.out 1).trans rfl; have hcz6_2 : w5.cell? ⟨gb438, 2, none⟩ = some (.slice A0_2 l0_2.length c0_2) := (blk_cell BK438.out 2).trans rfl; have hfz6_0 := blk_frozen BK438.out 0; have hfz6_1 := blk_frozen BK438.out 1; have hfz6_2 := blk_frozen BK438.out 2) | ((with_reducible refine gate_callee (f := 40) rfl ?_); refine goesL_ (some 19) rfl rfl Try.func40 (by kernel_rfl) rfl #[.agg #[.slice A0_0 l0_0.length c0_0, .slice A0_1 l0_1.length c0_1, .slice A0_2 l0_2.length c0_2], .slice A1 l1.length c1] rfl (by (try simp only [List.map_toArray, List.map_cons, List.map_nil]); first | done | rfl | (simp only [List.length_drop, List.length_take]; rfl)) ?_; (with_reducible refine (matrix_Valid.calls k _ _ l0_0 _ _ l0_1 _ _ l0_2 _ _ l1 t439 _ ?side1 ?side2 ?side3 ?side4 ?side5 ?side6 ?side7 ?side8 A3.out).mono ?_); (case side1 => repeat (first | exact (Kd.C_below HR0_0.out HB.out) | (with_reducible refine Kd.C_alloc ?_ _) | (with_reducible refine Kd.C_drewN ?_ _) | (with_reducible refine Kd.C_drew ?_))); (case side2 => exact HC0_0.out); (case side3 => repeat (first | exact (Kd.C_below HR0_1.out HB.out) | (with_reducible refine Kd.C_alloc ?_ _) | (with_reducible refine Kd.C_drewN ?_ _) | (with_reducible refine Kd.C_drew ?_))); (case side4 => exact HC0_1.out); (case side5 => repeat (first | exact (Kd.C_below HR0_2.out HB.out) | (with_reducible refine Kd.C_alloc ?_ _) | (with_reducible refine Kd.C_drewN ?_ _) | (with_reducible refine Kd.C_drew ?_))); (case side6 => exact HC0_2.out); (case side7 => repeat (first | exact (Kd.C_below HR1.out HB.out) | (with_reducible refine Kd.C_alloc ?_ _) | (with_reducible refine Kd.C_drewN ?_ _) | (with_reducible refine Kd.C_drew ?_))); (case side8 => exact HC1.out); rintro e w7 ⟨rfl, hb⟩; refine ⟨_, rfl, ?_⟩; have n0_ := Am (blk_below (Kl BK438) hb); have n1_ := Am (below_step (by repeat first | exact Bl HB | refine Bp (below_set ?_ GE438.out)) hb); clear BK438 HB; have BK438 := n0_; have HB := n1_; clear n0_ n1_; (try clear hb); (try clear hb2); (try clear hk); (try clear hi); have hcz8_0 : w7.cell? ⟨gb438, 0, none⟩ = some (.slice A0_0 l0_0.length c0_0) := (blk_cell BK438.out 0).trans rfl; have hcz8_1 : w7.cell? ⟨gb438, 1, none⟩ = some (.slice A0_1 l0_1.length c0_1) := (blk_cell BK438.out 1).trans rfl; have hcz8_2 : w7.cell? ⟨gb438, 2, none⟩ = some (.slice A0_2 l0_2.length c0_2) := (blk_cell BK438.out 2).trans rfl; have hfz8_0 := blk_frozen BK438.out 0; have hfz8_1 := blk_frozen BK438.out 1; have hfz8_2 := blk_frozen BK438.out 2))
  go_loopg [5, 6, 25] k (fun kq v5 v6 v25 w' => ∃ (x5_1 : Int) (x6_1 : Int) (x25_1 : Int), v5 = .int .i64 x5_1 ∧ v6 = .int .i64 x6_1 ∧ v25 = .int .i64 x25_1 ∧ Aside0 (examboardlaw24_MatrixCounts.l0 kq l1 x5_1 x6_1 l0_2 (l0_2.length : Int) x25_1 l0_0 l0_1 l0_2 = some r) ∧ Aside0 (kq ≤ k) ∧ Aside0 (w'.heap[gb438]? = some (.cells #[(.slice A0_0 l0_0.length c0_0), (.slice A0_1 l0_1.length c0_1), (.slice A0_2 l0_2.length c0_2)] 53 (0, 0))) ∧ Aside0 (Below w.heap.size w w'))
  case atStart => exact ⟨(0), (0), (0), (by first | rfl | (simp; done) | (simp [*]; done)), (by first | rfl | (simp; done) | (simp [*]; done)), (by first | rfl | (simp; done) | (simp [*]; done)), H', ⟨Nat.le_refl _⟩, ⟨Kl BK438⟩, ⟨by repeat first | exact Bl HB | refine Bp (below_set ?_ GE438.out)⟩⟩
  case round =>
   clear H'
   try clear c1
   try clear p2
   try clear c4
   try clear c4b0
   try clear c4b1
   try clear hcz6_0
   try clear hcz6_1
   try clear hcz6_2
   try clear hcz8_0
   try clear hcz8_1
   try clear hcz8_2
   try clear hfz6_0
   try clear hfz6_1
   try clear hfz6_2
   try clear hfz8_0
   try clear hfz8_1
   try clear hfz8_2
   obtain ⟨x5_1, x6_1, x25_1, rfl, rfl, rfl, HA, HK1, BK438, HB⟩ := hrel
   cases gk with
   | zero => exact absurd HA.out (by simp [examboardlaw24_MatrixCounts.l0])
   | succ k1 =>
    have H := HA.out
    clear HA
    simp only [examboardlaw24_MatrixCounts.l0] at H
    by_cases c9 : x25_1 < (l0_2.length : Int)
    ·rw [if_pos c9] at H
     have c9b0 : decide (x25_1 < (l0_2.length : Int)) = true := decide_eq_true c9
     clear c9
     by_cases c10 : 0 ≤ x25_1
     ·rw [if_pos c10] at H
      have c10b0 : decide (0 ≤ x25_1) = true := decide_eq_true c10
      clear c10
      by_cases c11 : x25_1 < (l0_2.length : Int)
      ·rw [if_pos c11] at H
       have c11b0 : decide (x25_1 < (l0_2.length : Int)) = true := decide_eq_true c11
       clear c11
       replace H := Option.bind_eq_some_iff.mp H
       obtain ⟨⟨t442, t443⟩, A120, H⟩ := H
       replace H : (examboardlaw24_MatrixCounts.l0 k1 l1 (wrap64 (x5_1 + t442)) (wrap64 (x6_1 + t443)) l0_2 (l0_2.length : Int) (wrap64 (x25_1 + 1)) l0_0 l0_1 l0_2) = some r := H
       have A12 := Am A120
       clear A120
       have H' := Am H
       clear H
       have p441 : 0 ≤ (x25_1 : Int) := of_decide_eq_true (by first | (with_reducible assumption) | assumption)
       have q441 : x25_1 < (l0_2.length : Int) := of_decide_eq_true (by first | (with_reducible assumption) | assumption)
       obtain ⟨ad441, A441_0, c441_0, e441, hx441_0, hl441_0, hi441_0⟩ := at_L1 HR0_2.out x25_1 p441 q441
       cases e441
       replace hx441_0 := (HB.out.cell (World.block_lt_of_cell? w _ hx441_0)).trans hx441_0
       have HR441_0 := Am hi441_0
       have HC441_0 := Am hl441_0
       clear hi441_0 hl441_0
       replace p441 := eq_true p441
       replace q441 := eq_true q441
       go_wp2_with (first | ((with_reducible refine gate_callee (f := 47) rfl ?_); refine goesL_ (some 31) rfl rfl Try.func47 (by kernel_rfl) rfl #[.slice A441_0 (rd_L1 l0_2 x25_1).length c441_0] rfl (by (try simp only [List.map_toArray, List.map_cons, List.map_nil]); first | done | rfl | (simp only [List.length_drop, List.length_take]; rfl)) ?_; (with_reducible refine (matrix_Total.calls k1 _ _ (rd_L1 l0_2 x25_1) t442 t443 _ ?side1 ?side2 A12.out).mono ?_); (case side1 => repeat (first | exact (Kd.C_below HR441_0.out HB.out) | (with_reducible refine Kd.C_alloc ?_ _) | (with_reducible refine Kd.C_drewN ?_ _) | (with_reducible refine Kd.C_drew ?_))); (case side2 => exact HC441_0.out); rintro e w13 ⟨rfl, hb⟩; refine ⟨_, rfl, ?_⟩; have n0_ := Am (blk_below (Kl BK438) hb); have n1_ := Am (below_step (by repeat first | exact Bl HB | refine Bp (below_set ?_ GE438.out)) hb); clear BK438 HB; have BK438 := n0_; have HB := n1_; clear n0_ n1_; (try clear hb); (try clear hb2); (try clear hk); (try clear hi)))
       go_roundg k1
       case measure => have := HK1.out; omega
       case rel => exact ⟨(wrap64 (x5_1 + t442)), (wrap64 (x6_1 + t443)), (wrap64 (x25_1 + 1)), (by first | rfl | (simp; done) | (simp [*]; done)), (by first | rfl | (simp; done) | (simp [*]; done)), (by first | rfl | (simp; done) | (simp [*]; done)), H', ⟨by have := HK1.out; omega⟩, ⟨Kl BK438⟩, ⟨by repeat first | exact Bl HB | refine Bp (below_set ?_ GE438.out)⟩⟩
      ·rw [if_neg c11] at H
       exact absurd H (by simp)
     ·rw [if_neg c10] at H
      exact absurd H (by simp)
    ·rw [if_neg c9] at H
     have c9b0 : decide (x25_1 < (l0_2.length : Int)) = false := decide_eq_false c9
     clear c9
     have H' := Am H
     clear H
     have hcz14_0 : wr.cell? ⟨gb438, 0, none⟩ = some (.slice A0_0 l0_0.length c0_0) := (blk_cell BK438.out 0).trans rfl
     have hcz14_1 : wr.cell? ⟨gb438, 1, none⟩ = some (.slice A0_1 l0_1.length c0_1) := (blk_cell BK438.out 1).trans rfl
     have hcz14_2 : wr.cell? ⟨gb438, 2, none⟩ = some (.slice A0_2 l0_2.length c0_2) := (blk_cell BK438.out 2).trans rfl
     have hfz14_0 := blk_frozen BK438.out 0
     have hfz14_1 := blk_frozen BK438.out 1
     have hfz14_2 := blk_frozen BK438.out 2
     go_wp2
     go_loopg [5, 6, 44] k1 (fun kq v5 v6 v44 w' => ∃ (x5_2 : Int) (x6_2 : Int) (x44_2 : Int), v5 = .int .i64 x5_2 ∧ v6 = .int .i64 x6_2 ∧ v44 = .int .i64 x44_2 ∧ Aside0 (examboardlaw24_MatrixCounts.l1 kq l1 x5_2 x6_2 (l0_1.length : Int) x44_2 l0_0 l0_1 l0_2 = some r) ∧ Aside0 (kq ≤ k1) ∧ Aside0 (w'.heap[gb438]? = some (.cells #[(.slice A0_0 l0_0.length c0_0), (.slice A0_1 l0_1.length c0_1), (.slice A0_2 l0_2.length c0_2)] 53 (0, 0))) ∧ Aside0 (Below w.heap.size w w'))
     case atStart => exact ⟨(x5_1), (x6_1), (0), (by first | rfl | (simp; done) | (simp [*]; done)), (by first | rfl | (simp; done) | (simp [*]; done)), (by first | rfl | (simp; done) | (simp [*]; done)), H', ⟨Nat.le_refl _⟩, ⟨Kl BK438⟩, ⟨by repeat first | exact Bl HB | refine Bp (below_set ?_ GE438.out)⟩⟩
     case round =>
      clear H'
      try clear c1
      try clear p2
      try clear c4
      try clear c4b0
      try clear c4b1
      try clear p4
      try clear q4
      try clear hx4
      try clear p6
      try clear c9
      try clear c9b0
      try clear c10
      try clear c10b0
      try clear c11
      try clear c11b0
      try clear hcz14_0
      try clear hcz14_1
      try clear hcz14_2
      try clear hcz6_0
      try clear hcz6_1
      try clear hcz6_2
      try clear hcz8_0
      try clear hcz8_1
      try clear hcz8_2
      try clear hfz14_0
      try clear hfz14_1
      try clear hfz14_2
      try clear hfz6_0
      try clear hfz6_1
      try clear hfz6_2
      try clear hfz8_0
      try clear hfz8_1
      try clear hfz8_2
      try clear hx441_0
      try clear p2
      try clear p441
      try clear q441
      obtain ⟨x5_2, x6_2, x44_2, rfl, rfl, rfl, HA, HK2, BK438, HB⟩ := hrel
      cases gk with
      | zero => exact absurd HA.out (by simp [examboardlaw24_MatrixCounts.l1])
      | succ k2 =>
       have H := HA.out
       clear HA
       simp only [examboardlaw24_MatrixCounts.l1] at H
       by_cases c15 : x44_2 < (l0_1.length : Int)
       ·rw [if_pos c15] at H
        have c15b0 : decide (x44_2 < (l0_1.length : Int)) = true := decide_eq_true c15
        clear c15
        replace H := Option.bind_eq_some_iff.mp H
        obtain ⟨⟨t445, t448⟩, A160, H⟩ := H
        replace H : (if t448 = true then (examboardlaw24_MatrixCounts.j2 k2 l1 x5_2 x6_2 x44_2 t445 (l0_1.length : Int) x44_2 ((t445.length : Int) != (l0_0.length : Int)) l0_0 l0_1 l0_2) else (none)) = some r := H
        have A16 := Am A160
        clear A160
        have HC17 := Am H
        clear H
        have hcz18_0 : wr.cell? ⟨gb438, 0, none⟩ = some (.slice A0_0 l0_0.length c0_0) := (blk_cell BK438.out 0).trans rfl
        have hcz18_1 : wr.cell? ⟨gb438, 1, none⟩ = some (.slice A0_1 l0_1.length c0_1) := (blk_cell BK438.out 1).trans rfl
        have hcz18_2 : wr.cell? ⟨gb438, 2, none⟩ = some (.slice A0_2 l0_2.length c0_2) := (blk_cell BK438.out 2).trans rfl
        have hfz18_0 := blk_frozen BK438.out 0
        have hfz18_1 := blk_frozen BK438.out 1
        have hfz18_2 := blk_frozen BK438.out 2
        go_upto_region 15 with (first | ((with_reducible refine gate_callee (f := 48) rfl ?_); refine goesL_ (some 50) rfl rfl Try.func48 (by kernel_rfl) rfl #[.agg #[.slice A0_0 l0_0.length c0_0, .slice A0_1 l0_1.length c0_1, .slice A0_2 l0_2.length c0_2], .int .i64 x44_2] rfl (by (try simp only [List.map_toArray, List.map_cons, List.map_nil]); first | done | rfl | (simp only [List.length_drop, List.length_take]; rfl)) ?_; (with_reducible refine (matrix_Column.calls k2 _ _ l0_0 _ _ l0_1 _ _ l0_2 x44_2 t445 t448 _ ?side1 ?side2 ?side3 ?side4 ?side5 ?side6 A16.out).mono ?_); (case side1 => repeat (first | exact (Kd.C_below HR0_0.out HB.out) | (with_reducible refine Kd.C_alloc ?_ _) | (with_reducible refine Kd.C_drewN ?_ _) | (with_reducible refine Kd.C_drew ?_))); (case side2 => exact HC0_0.out); (case side3 => repeat (first | exact (Kd.C_below HR0_1.out HB.out) | (with_reducible refine Kd.C_alloc ?_ _) | (with_reducible refine Kd.C_drewN ?_ _) | (with_reducible refine Kd.C_drew ?_))); (case side4 => exact HC0_1.out); (case side5 => repeat (first | exact (Kd.C_below HR0_2.out HB.out) | (with_reducible refine Kd.C_alloc ?_ _) | (with_reducible refine Kd.C_drewN ?_ _) | (with_reducible refine Kd.C_drew ?_))); (case side6 => exact HC0_2.out); rintro e w19 ⟨v446, rfl, ho0, hb⟩; refine ⟨_, rfl, ?_⟩; have n0_ := Am (Kd.R_lower ho0 (below_size (by repeat first | exact Bl HB | refine Bp (below_set ?_ GE438.out)))); have n1_ := Am (blk_below (Kl BK438) hb); have n2_ := Am (below_step (by repeat first | exact Bl HB | refine Bp (below_set ?_ GE438.out)) hb); clear BK438 HB; have HO447 := n0_; have BK438 := n1_; have HB := n2_; clear n0_ n1_ n2_; (try clear hb); (try clear hb2); (try clear hk); (try clear hi); (try clear ho0)))
        (try simp only [Act.put, List.setIfInBounds_toArray, List.set_cons_zero, List.set_cons_succ])
        go_cut [62] (fun v62 wc => ∃ (kq : Nat) (x62_16 : Bool), v62 = .bool x62_16 ∧ Aside0 (examboardlaw24_MatrixCounts.j2 kq l1 x5_2 x6_2 x44_2 t445 (l0_1.length : Int) x44_2 x62_16 l0_0 l0_1 l0_2 = some r) ∧ Aside0 (kq ≤ k2) ∧ Aside0 (Kd.R (Kd.int .i64) 3 wc w.heap.size (fun _ => True) v446 t445) ∧ Aside0 (wc.heap[gb438]? = some (.cells #[(.slice A0_0 l0_0.length c0_0), (.slice A0_1 l0_1.length c0_1), (.slice A0_2 l0_2.length c0_2)] 53 (0, 0))) ∧ Aside0 (Below w.heap.size w wc))
        case first =>
         have H := HC17.out
         clear HC17
         by_cases c20 : t448 = true
         ·subst c20
          have H1 : (examboardlaw24_MatrixCounts.j2 k2 l1 x5_2 x6_2 x44_2 t445 (l0_1.length : Int) x44_2 ((t445.length : Int) != (l0_0.length : Int)) l0_0 l0_1 l0_2) = some r := by rw [if_pos rfl] at H; exact H
          clear H
          have H := H1
          clear H1
          have H' := Am H
          clear H
          obtain ⟨Ao21, co21, eo21⟩ := Kd.R_slice HO447.out
          subst eo21
          have hcz22_0 : w19.cell? ⟨gb438, 0, none⟩ = some (.slice A0_0 l0_0.length c0_0) := (blk_cell BK438.out 0).trans rfl
          have hcz22_1 : w19.cell? ⟨gb438, 1, none⟩ = some (.slice A0_1 l0_1.length c0_1) := (blk_cell BK438.out 1).trans rfl
          have hcz22_2 : w19.cell? ⟨gb438, 2, none⟩ = some (.slice A0_2 l0_2.length c0_2) := (blk_cell BK438.out 2).trans rfl
          have hfz22_0 := blk_frozen BK438.out 0
          have hfz22_1 := blk_frozen BK438.out 1
          have hfz22_2 := blk_frozen BK438.out 2
          go_wp2
          go_meet
          case rel => exact ⟨_, (((t445.length : Int) != (l0_0.length : Int))), (by first | rfl | (simp; done) | (simp [*]; done)), H', ⟨by have := HK1.out; have := HK2.out; first | omega | exact Nat.le_refl _⟩, ⟨Rl HO447⟩, ⟨Kl BK438⟩, ⟨by repeat first | exact Bl HB | refine Bp (below_set ?_ GE438.out)⟩⟩
         ·replace c20 := Bool.eq_false_iff.mpr c20
          subst c20
          have H1 : (none) = some r := by rw [if_neg (show ¬ (false = true) by decide)] at H; exact H
          clear H
          have H := H1
          clear H1
          exact absurd H (by simp)
        case rest =>
         clear HC17
         try clear c1
         try clear c2
         try clear p2
         try clear c4
         try clear c4b0
         try clear c4b1
         try clear p4
         try clear q4
         try clear hx4
         try clear p6
         try clear c9
         try clear c9b0
         try clear c10
         try clear c10b0
         try clear c11
         try clear c11b0
         try clear c15
         try clear c15b0
         try clear c20
         try clear hcz14_0
         try clear hcz14_1
         try clear hcz14_2
         try clear hcz18_0
         try clear hcz18_1
         try clear hcz18_2
         try clear hcz22_0
         try clear hcz22_1
         try clear hcz22_2
         try clear hcz6_0
         try clear hcz6_1
         try clear hcz6_2
         try clear hcz8_0
         try clear hcz8_1
         try clear hcz8_2
         try clear hfz14_0
         try clear hfz14_1
         try clear hfz14_2
         try clear hfz18_0
         try clear hfz18_1
         try clear hfz18_2
         try clear hfz22_0
         try clear hfz22_1
         try clear hfz22_2
         try clear hfz6_0
         try clear hfz6_1
         try clear hfz6_2
         try clear hfz8_0
         try clear hfz8_1
         try clear hfz8_2
         try clear hx441_0
         try clear p2
         try clear p4
         try clear p441
         try clear p6
         try clear q4
         try clear q441
         obtain ⟨kq, x62_16, rfl, HA, HJ16, HO_12, BK438, HB⟩ := hcut
         cases kq with
         | zero => exact absurd HA.out (by simp [examboardlaw24_MatrixCounts.j2])
         | succ kj16 =>
          have H := HA.out
          clear HA
          simp only [examboardlaw24_MatrixCounts.j2] at H
          by_cases c23 : x62_16 = true
          ·subst c23
           have H1 : (none) = some r := by rw [if_pos rfl] at H; exact H
           clear H
           have H := H1
           clear H1
           exact absurd H (by simp)
          ·replace c23 := Bool.eq_false_iff.mpr c23
           subst c23
           have H1 : (if 0 ≤ x44_2 then (if x44_2 < (l1.length : Int) then ((matrix_Counts.f kj16 t445 (rd l1 x44_2)).bind fun t450 => (if (t450.length : Int) = (rd l1 x44_2) then (examboardlaw24_MatrixCounts.l2 kj16 l1 x5_2 x6_2 t450 (l0_1.length : Int) x44_2 (t450.length : Int) 0 l0_0 l0_1 l0_2) else (none))) else (none)) else (none)) = some r := by rw [if_neg (show ¬ (false = true) by decide)] at H; exact H
           clear H
           have H := H1
           clear H1
           by_cases c24 : 0 ≤ x44_2
           ·rw [if_pos c24] at H
            have c24b0 : decide (0 ≤ x44_2) = true := decide_eq_true c24
            clear c24
            by_cases c25 : x44_2 < (l1.length : Int)
            ·rw [if_pos c25] at H
             have c25b0 : decide (x44_2 < (l1.length : Int)) = true := decide_eq_true c25
             clear c25
             replace H := Option.bind_eq_some_iff.mp H
             obtain ⟨t450, A260, H⟩ := H
             replace H : (if (t450.length : Int) = (rd l1 x44_2) then (examboardlaw24_MatrixCounts.l2 kj16 l1 x5_2 x6_2 t450 (l0_1.length : Int) x44_2 (t450.length : Int) 0 l0_0 l0_1 l0_2) else (none)) = some r := H
             have A26 := Am A260
             clear A260
             by_cases c27 : (t450.length : Int) = (rd l1 x44_2)
             ·rw [if_pos c27] at H
              have c27b0 : ((t450.length : Int) == (rd l1 x44_2)) = true := beq_iff_eq.mpr c27
              have c27b1 : ((t450.length : Int) != (rd l1 x44_2)) = false := bne_eq_false_iff_eq.mpr c27
              clear c27
              have H' := Am H
              clear H
              have p449 : 0 ≤ (x44_2 : Int) := of_decide_eq_true (by first | (with_reducible assumption) | assumption)
              have q449 : x44_2 < (l1.length : Int) := of_decide_eq_true (by first | (with_reducible assumption) | assumption)
              obtain ⟨ad449, e449, hx449_0⟩ := Kd.at_int HR1.out x44_2 p449 q449
              cases e449
              replace hx449_0 := (HB.out.cell (World.block_lt_of_cell? w _ hx449_0)).trans hx449_0
              replace p449 := eq_true p449
              replace q449 := eq_true q449
              obtain ⟨Ao28, co28, eo28⟩ := Kd.R_slice HO_12.out
              subst eo28
              go_wp2_with (first | ((with_reducible refine gate_callee (f := 49) rfl ?_); refine goesL_ (some 68) rfl rfl Try.func49 (by kernel_rfl) rfl #[.slice Ao28 t445.length co28, .int .i64 (rd l1 x44_2)] rfl (by (try simp only [List.map_toArray, List.map_cons, List.map_nil]); first | done | rfl | (simp only [List.length_drop, List.length_take]; rfl)) ?_; (with_reducible refine (matrix_Counts.calls kj16 _ _ t445 (rd l1 x44_2) t450 _ ?side1 ?side2 A26.out).mono ?_); (case side1 => exact Cm (Kd.R_reads' HO_12.out).2.2); (case side2 => exact (Kd.R_reads' HO_12.out).2.1); rintro e w29 ⟨v451, rfl, ho0, hb⟩; refine ⟨_, rfl, ?_⟩; have n0_ := Am (Kd.R_elder' (Rl HO_12) (Kd.R_base ho0) hb); have n1_ := Am (Kd.R_lower (Kd.R_new' ho0 (Rb HO_12)) (below_size (by repeat first | exact Bl HB | refine Bp (below_set ?_ GE438.out)))); have n2_ := Am (blk_below (Kl BK438) hb); have n3_ := Am (below_step (by repeat first | exact Bl HB | refine Bp (below_set ?_ GE438.out)) hb); clear HO_12 BK438 HB; have HO_12 := n0_; have HO452 := n1_; have BK438 := n2_; have HB := n3_; clear n0_ n1_ n2_ n3_; (try clear hb); (try clear hb2); (try clear hk); (try clear hi); (try clear ho0); obtain ⟨Ao30, co30, eo30⟩ := Kd.R_slice HO452.out; subst eo30; have p453 : 0 ≤ (x44_2 : Int) := of_decide_eq_true (by first | (with_reducible assumption) | assumption); have q453 : x44_2 < (l1.length : Int) := of_decide_eq_true (by first | (with_reducible assumption) | assumption); obtain ⟨ad453, e453, hx453_0⟩ := Kd.at_int HR1.out x44_2 p453 q453; obtain rfl : ad449 = ad453 := (by injection e453); replace hx453_0 := (HB.out.cell (World.block_lt_of_cell? w _ hx453_0)).trans hx453_0; replace p453 := eq_true p453; replace q453 := eq_true q453))
              go_loopg [5, 6, 78] kj16 (fun kq v5 v6 v78 w' => ∃ (x5_4 : Int) (x6_4 : Int) (x78_4 : Int), v5 = .int .i64 x5_4 ∧ v6 = .int .i64 x6_4 ∧ v78 = .int .i64 x78_4 ∧ Aside0 (examboardlaw24_MatrixCounts.l2 kq l1 x5_4 x6_4 t450 (l0_1.length : Int) x44_2 (t450.length : Int) x78_4 l0_0 l0_1 l0_2 = some r) ∧ Aside0 (kq ≤ kj16) ∧ Aside0 (Kd.R (Kd.int .i64) 3 w' w.heap.size (fun _ => True) (.slice Ao30 t450.length co30) t450) ∧ Aside0 (w'.heap[gb438]? = some (.cells #[(.slice A0_0 l0_0.length c0_0), (.slice A0_1 l0_1.length c0_1), (.slice A0_2 l0_2.length c0_2)] 53 (0, 0))) ∧ Aside0 (Below w.heap.size w w'))
              case atStart => exact ⟨(x5_2), (x6_2), (0), (by first | rfl | (simp; done) | (simp [*]; done)), (by first | rfl | (simp; done) | (simp [*]; done)), (by first | rfl | (simp; done) | (simp [*]; done)), H', ⟨Nat.le_refl _⟩, ⟨Rm (Kd.R_mono HO452.out (fun _ hk => trivial))⟩, ⟨Kl BK438⟩, ⟨by repeat first | exact Bl HB | refine Bp (below_set ?_ GE438.out)⟩⟩
              case round =>
               clear H'
               try clear c1
               try clear c2
               try clear p2
               try clear c4
               try clear c4b0
               try clear c4b1
               try clear p4
               try clear q4
               try clear hx4
               try clear p6
               try clear c9
               try clear c9b0
               try clear c10
               try clear c10b0
               try clear c11
               try clear c11b0
               try clear c15
               try clear c15b0
               try clear c20
               try clear c23
               try clear c24
               try clear c24b0
               try clear c25
               try clear c25b0
               try clear c27
               try clear c27b0
               try clear c27b1
               try clear hcz14_0
               try clear hcz14_1
               try clear hcz14_2
               try clear hcz18_0
               try clear hcz18_1
               try clear hcz18_2
               try clear hcz22_0
               try clear hcz22_1
               try clear hcz22_2
               try clear hcz6_0
               try clear hcz6_1
               try clear hcz6_2
               try clear hcz8_0
               try clear hcz8_1
               try clear hcz8_2
               try clear hfz14_0
               try clear hfz14_1
               try clear hfz14_2
               try clear hfz18_0
               try clear hfz18_1
               try clear hfz18_2
               try clear hfz22_0
               try clear hfz22_1
               try clear hfz22_2
               try clear hfz6_0
               try clear hfz6_1
               try clear hfz6_2
               try clear hfz8_0
               try clear hfz8_1
               try clear hfz8_2
               try clear hx441_0
               try clear hx449_0
               try clear hx453_0
               try clear p2
               try clear p4
               try clear p441
               try clear p449
               try clear p453
               try clear p6
               try clear q4
               try clear q441
               try clear q449
               try clear q453
               obtain ⟨x5_4, x6_4, x78_4, rfl, rfl, rfl, HA, HK4, HO_14, BK438, HB⟩ := hrel
               cases gk with
               | zero => exact absurd HA.out (by simp [examboardlaw24_MatrixCounts.l2])
               | succ k4 =>
                have H := HA.out
                clear HA
                simp only [examboardlaw24_MatrixCounts.l2] at H
                by_cases c31 : x78_4 < (t450.length : Int)
                ·rw [if_pos c31] at H
                 have c31b0 : decide (x78_4 < (t450.length : Int)) = true := decide_eq_true c31
                 clear c31
                 by_cases c32 : 0 ≤ x78_4
                 ·rw [if_pos c32] at H
                  have c32b0 : decide (0 ≤ x78_4) = true := decide_eq_true c32
                  clear c32
                  by_cases c33 : x78_4 < (t450.length : Int)
                  ·rw [if_pos c33] at H
                   have c33b0 : decide (x78_4 < (t450.length : Int)) = true := decide_eq_true c33
                   clear c33
                   by_cases c34 : (rd t450 x78_4) < 0
                   ·rw [if_pos c34] at H
                    exact absurd H (by simp)
                   ·rw [if_neg c34] at H
                    have c34b0 : decide ((rd t450 x78_4) < 0) = false := decide_eq_false c34
                    clear c34
                    have H' := Am H
                    clear H
                    have p454 : 0 ≤ (x78_4 : Int) := of_decide_eq_true (by first | (with_reducible assumption) | assumption)
                    have q454 : x78_4 < (t450.length : Int) := of_decide_eq_true (by first | (with_reducible assumption) | assumption)
                    obtain ⟨ad454, e454, hx454_0⟩ := Kd.at_int (Kd.R_reads' HO_14.out).2.2 x78_4 p454 q454
                    cases e454
                    replace p454 := eq_true p454
                    replace q454 := eq_true q454
                    go_wp2
                    go_roundg k4
                    case measure => have := HK1.out; have := HK2.out; have := HJ16.out; have := HK4.out; omega
                    case rel => exact ⟨(wrap64 (x5_4 - (wrap64 (x78_4 * (rd t450 x78_4))))), (wrap64 (x6_4 - (rd t450 x78_4))), (wrap64 (x78_4 + 1)), (by first | rfl | (simp; done) | (simp [*]; done)), (by first | rfl | (simp; done) | (simp [*]; done)), (by first | rfl | (simp; done) | (simp [*]; done)), H', ⟨by have := HK1.out; have := HK2.out; have := HJ16.out; have := HK4.out; omega⟩, ⟨Rl HO_14⟩, ⟨Kl BK438⟩, ⟨by repeat first | exact Bl HB | refine Bp (below_set ?_ GE438.out)⟩⟩
                  ·rw [if_neg c33] at H
                   exact absurd H (by simp)
                 ·rw [if_neg c32] at H
                  exact absurd H (by simp)
                ·rw [if_neg c31] at H
                 have c31b0 : decide (x78_4 < (t450.length : Int)) = false := decide_eq_false c31
                 clear c31
                 have H' := Am H
                 clear H
                 go_wp2
                 go_roundg k4
                 case measure => have := HK1.out; have := HK2.out; have := HJ16.out; have := HK4.out; omega
                 case rel => exact ⟨(x5_4), (x6_4), (wrap64 (x44_2 + 1)), (by first | rfl | (simp; done) | (simp [*]; done)), (by first | rfl | (simp; done) | (simp [*]; done)), (by first | rfl | (simp; done) | (simp [*]; done)), H', ⟨by have := HK1.out; have := HK2.out; have := HJ16.out; have := HK4.out; omega⟩, ⟨Kl BK438⟩, ⟨by repeat first | exact Bl HB | refine Bp (below_set ?_ GE438.out)⟩⟩
             ·rw [if_neg c27] at H
              exact absurd H (by simp)
            ·rw [if_neg c25] at H
             exact absurd H (by simp)
           ·rw [if_neg c24] at H
            exact absurd H (by simp)
       ·rw [if_neg c15] at H
        have c15b0 : decide (x44_2 < (l0_1.length : Int)) = false := decide_eq_false c15
        clear c15
        by_cases c35 : x5_2 = 0
        ·rw [if_pos c35] at H
         have c35b0 : (x5_2 == 0) = true := beq_iff_eq.mpr c35
         have c35b1 : (x5_2 != 0) = false := bne_eq_false_iff_eq.mpr c35
         clear c35
         by_cases c36 : x6_2 = 0
         ·rw [if_pos c36] at H
          have c36b0 : (x6_2 == 0) = true := beq_iff_eq.mpr c36
          have c36b1 : (x6_2 != 0) = false := bne_eq_false_iff_eq.mpr c36
          clear c36
          replace H := Option.bind_eq_some_iff.mp H
          obtain ⟨t444, A370, H⟩ := H
          replace H : (some t444) = some r := H
          have A37 := Am A370
          clear A370
          obtain rfl := Option.some.inj H
          go_wp2_with (first | (go_at_call 41; (with_reducible refine (examboardlaw24_awake.calls k2  t444 _ A37.out).mono ?_); rintro e w38 ⟨rfl, hb⟩; have n0_ := Am (blk_below (Kl BK438) hb); have n1_ := Am (below_step (by repeat first | exact Bl HB | refine Bp (below_set ?_ GE438.out)) hb); clear BK438 HB; have BK438 := n0_; have HB := n1_; clear n0_ n1_; (try clear hb); (try clear hb2); (try clear hk); (try clear hi)))
          go_ret
          exact ⟨by first | rfl | (simp [errW_none, errW_some] <;> rfl) | (simp [*, errW_none, errW_some] <;> rfl), by repeat first | exact Bl HB | refine Bp (below_set ?_ GE438.out)⟩
         ·rw [if_neg c36] at H
          exact absurd H (by simp)
        ·rw [if_neg c35] at H
         exact absurd H (by simp)
 ·rw [if_neg c4] at H
  have c4b0 : (t439 == 0) = false := beq_eq_false_iff_ne.mpr c4
  have c4b1 : (t439 != 0) = true := bne_iff_ne.mpr c4
  replace H := Option.bind_eq_some_iff.mp H
  obtain ⟨t440, A390, H⟩ := H
  replace H : (some t440) = some r := H
  have A39 := Am A390
  clear A390
  obtain rfl := Option.some.inj H
  go_enter Try.func9, Try.ntmps9
  go_wp2_with (first | ((with_reducible refine gate_dst (N := 2) rfl ?_); (try (refine gate_guard (by rfl) ?_; dsimp only)); refine box_event ?hg (N := 2) ?hd (cs := #[.slice A0_0 l0_0.length c0_0, .slice A0_1 l0_1.length c0_1, .slice A0_2 l0_2.length c0_2]) (t := 53) ?hr ?_; (case hd => rfl); (case hg => rfl); (case hr => first | (go_simp; done) | (go_simp; rfl)); intro gb438 hg w40 hbox hb; have n0_ := Am (below_step (Bl HB) hb); have n1_ := Am (hbox); have n2_ := Am ((by rw [hg]; exact (below_size (Bl HB)) : w.heap.size ≤ gb438)); have n3_ := Am ((by rw [hg]; exact (below_size (Bl HB)) : w.heap.size ≤ gb438)); clear HB; have HB := n0_; have BK438 := n1_; have GW438 := n2_; have GE438 := n3_; clear n0_ n1_ n2_ n3_; clear hb hbox hg; have hcz41_0 : w40.cell? ⟨gb438, 0, none⟩ = some (.slice A0_0 l0_0.length c0_0) := (blk_cell BK438.out 0).trans rfl; have hcz41_1 : w40.cell? ⟨gb438, 1, none⟩ = some (.slice A0_1 l0_1.length c0_1) := (blk_cell BK438.out 1).trans rfl; have hcz41_2 : w40.cell? ⟨gb438, 2, none⟩ = some (.slice A0_2 l0_2.length c0_2) := (blk_cell BK438.out 2).trans rfl; have hfz41_0 := blk_frozen BK438.out 0; have hfz41_1 := blk_frozen BK438.out 1; have hfz41_2 := blk_frozen BK438.out 2) | ((with_reducible refine gate_callee (f := 40) rfl ?_); refine goesL_ (some 19) rfl rfl Try.func40 (by kernel_rfl) rfl #[.agg #[.slice A0_0 l0_0.length c0_0, .slice A0_1 l0_1.length c0_1, .slice A0_2 l0_2.length c0_2], .slice A1 l1.length c1] rfl (by (try simp only [List.map_toArray, List.map_cons, List.map_nil]); first | done | rfl | (simp only [List.length_drop, List.length_take]; rfl)) ?_; (with_reducible refine (matrix_Valid.calls k _ _ l0_0 _ _ l0_1 _ _ l0_2 _ _ l1 t439 _ ?side1 ?side2 ?side3 ?side4 ?side5 ?side6 ?side7 ?side8 A3.out).mono ?_); (case side1 => repeat (first | exact (Kd.C_below HR0_0.out HB.out) | (with_reducible refine Kd.C_alloc ?_ _) | (with_reducible refine Kd.C_drewN ?_ _) | (with_reducible refine Kd.C_drew ?_))); (case side2 => exact HC0_0.out); (case side3 => repeat (first | exact (Kd.C_below HR0_1.out HB.out) | (with_reducible refine Kd.C_alloc ?_ _) | (with_reducible refine Kd.C_drewN ?_ _) | (with_reducible refine Kd.C_drew ?_))); (case side4 => exact HC0_1.out); (case side5 => repeat (first | exact (Kd.C_below HR0_2.out HB.out) | (with_reducible refine Kd.C_alloc ?_ _) | (with_reducible refine Kd.C_drewN ?_ _) | (with_reducible refine Kd.C_drew ?_))); (case side6 => exact HC0_2.out); (case side7 => repeat (first | exact (Kd.C_below HR1.out HB.out) | (with_reducible refine Kd.C_alloc ?_ _) | (with_reducible refine Kd.C_drewN ?_ _) | (with_reducible refine Kd.C_drew ?_))); (case side8 => exact HC1.out); rintro e w42 ⟨rfl, hb⟩; refine ⟨_, rfl, ?_⟩; have n0_ := Am (blk_below (Kl BK438) hb); have n1_ := Am (below_step (by repeat first | exact Bl HB | refine Bp (below_set ?_ GE438.out)) hb); clear BK438 HB; have BK438 := n0_; have HB := n1_; clear n0_ n1_; (try clear hb); (try clear hb2); (try clear hk); (try clear hi)) | ((with_reducible refine gate_callee (f := 41) rfl ?_); refine goesL_ (some 21) rfl rfl Try.func41 (by kernel_rfl) rfl #[] rfl (by (try simp only [List.map_toArray, List.map_cons, List.map_nil]); first | done | rfl | (simp only [List.length_drop, List.length_take]; rfl)) ?_; (with_reducible refine (examboardlaw24_awake.calls k  t440 _ A39.out).mono ?_); rintro e w43 ⟨rfl, hb⟩; refine ⟨_, rfl, ?_⟩; have n0_ := Am (blk_below (Kl BK438) hb); have n1_ := Am (below_step (by repeat first | exact Bl HB | refine Bp (below_set ?_ GE438.out)) hb); clear BK438 HB; have BK438 := n0_; have HB := n1_; clear n0_ n1_; (try clear hb); (try clear hb2); (try clear hk); (try clear hi)))
  go_ret
  exact ⟨by first | rfl | (simp [errW_none, errW_some] <;> rfl) | (simp [*, errW_none, errW_some] <;> rfl), by repeat first | exact Bl HB | refine Bp (below_set ?_ GE438.out)⟩

end Go.Proofs.Ytgeplglggcoaiaa.Matrix
