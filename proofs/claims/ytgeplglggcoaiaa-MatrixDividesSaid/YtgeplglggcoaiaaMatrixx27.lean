/- Lean functions and walks for Go functions of this seat, written by this claim's own program (wip/tools/xprint.py) over the kit's print. -/
import Derived.Test.YtgeplglggcoaiaaMatrixx0
import Derived.Test.YtgeplglggcoaiaaMatrixx3
import Derived.Test.YtgeplglggcoaiaaMatrixx7
import Derived.Test.YtgeplglggcoaiaaMatrixx19
import Derived.Test.YtgeplglggcoaiaaMatrixx25
import Derived.Test.YtgeplglggcoaiaaMatrixx26
namespace Go.Proofs.Ytgeplglggcoaiaa.Matrix
open Go.RowKit Go.Sort Go.Proofs.YtgeplglggcoaiaaMakec Go.Proofs.YtgeplglggcoaiaaW.PrintWords Go.Proofs.YtgeplglggcoaiaaW.PrintLast Go.Proofs.YtgeplglggcoaiaaW.PrintMore
attribute [local go_sem] max2_int min2_int max_two min_two max_three min_three max_four min_four   -- for this text's walks alone
set_option linter.unusedVariables false
set_option linter.unusedSimpArgs false

/-! ### examboardlaw24_MatrixDivides: function 7 -/
def examboardlaw24_MatrixDivides.j0 : Nat → List Int → Bool → List Int → List Int → List (List Int) → List Int → List Int → List (List Int) → List Int → List Int → List (List Int) → Option (Bool)
 | 0, _, _, _, _, _, _, _, _, _, _, _ => none
 | k + 1, x1, x60, x392000, x392001, x392002, x406000, x406001, x406002, x418000, x418001, x418002 => if x60 = true then (none) else ((matrix_Merge.f k x406000 x406001 x406002 x418000 x418001 x418002).bind fun bt418 => (if bt418.2.2.2 = 0 then ((examboardlaw24_same.f k bt418.1 bt418.2.1 bt418.2.2.1 x392000 x392001 x392002).bind fun t429 => (if t429 = true then ((matrix_Valid.f k x406000 x406001 x406002 x1).bind fun t430 => (if t430 = 0 then ((examboardlaw24_awake.f k).bind fun t431 => (some t431)) else (none))) else (none))) else (none)))
def examboardlaw24_MatrixDivides.f (k : Nat) (l0_0 : List Int) (l0_1 : List Int) (l0_2 : List (List Int)) (l1 : List Int) (a2 : Int) : Option (Bool) := (matrix_Valid.f k l0_0 l0_1 l0_2 l1).bind fun t392 => (if t392 = 0 then (if (wrap64 ((l0_0.length : Int) + 1)) = 0 then (none) else (if 0 ≤ (Int.tmod (wrap64 (a2)) (wrap64 ((l0_0.length : Int) + 1))) then (if (Int.tmod (wrap64 (a2)) (wrap64 ((l0_0.length : Int) + 1))) ≤ (l0_0.length : Int) then ((matrix_Select.f k l0_0 l0_1 l0_2 (l0_0.take ((Int.tmod (wrap64 (a2)) (wrap64 ((l0_0.length : Int) + 1))) : Int).toNat) l0_1).bind fun bt395 => ((matrix_Select.f k l0_0 l0_1 l0_2 (l0_0.drop ((Int.tmod (wrap64 (a2)) (wrap64 ((l0_0.length : Int) + 1))) : Int).toNat) l0_1).bind fun bt407 => (if bt395.2.2.2 = 0 then (if bt407.2.2.2 = 0 then (examboardlaw24_MatrixDivides.j0 k l1 ((bt395.1.length : Int) != (Int.tmod (wrap64 (a2)) (wrap64 ((l0_0.length : Int) + 1)))) l0_0 l0_1 l0_2 bt395.1 bt395.2.1 bt395.2.2.1 bt407.1 bt407.2.1 bt407.2.2.1) else (none)) else (none)))) else (none)) else (none))) else ((examboardlaw24_awake.f k).bind fun t393 => (some t393)))
theorem examboardlaw24_MatrixDivides.mono_l : ∀ k, (∀ y0 y1 y2 y3 y4 y5 y6 y7 y8 y9 y10, LeO (examboardlaw24_MatrixDivides.j0 k y0 y1 y2 y3 y4 y5 y6 y7 y8 y9 y10) (examboardlaw24_MatrixDivides.j0 (k + 1) y0 y1 y2 y3 y4 y5 y6 y7 y8 y9 y10))
 | 0 => fun _ _ _ _ _ _ _ _ _ _ _ r h => by simp [examboardlaw24_MatrixDivides.j0] at h
 | k + 1 => by
  have ih0 := examboardlaw24_MatrixDivides.mono_l k
  ·intro y0 y1 y2 y3 y4 y5 y6 y7 y8 y9 y10
   unfold examboardlaw24_MatrixDivides.j0
   repeat' first
   | (with_reducible exact ih0 _ _ _ _ _ _ _ _ _ _ _)
   | (with_reducible exact examboardlaw24_awake.mono _)
   | (with_reducible exact examboardlaw24_same.mono _ _ _ _ _ _ _)
   | (with_reducible exact matrix_Merge.mono _ _ _ _ _ _ _)
   | (with_reducible exact matrix_Select.mono _ _ _ _ _ _)
   | (with_reducible exact matrix_Valid.mono _ _ _ _ _)
   | (with_reducible exact LeO.refl _)
   | (with_reducible exact LeO.none _)
   | (with_reducible refine LeO.ite ?_ ?_)
   | (with_reducible refine LeO.bind ?_ (fun _ => ?_))
   | exact ih0 _ _ _ _ _ _ _ _ _ _ _
   | exact examboardlaw24_awake.mono _
   | exact examboardlaw24_same.mono _ _ _ _ _ _ _
   | exact matrix_Merge.mono _ _ _ _ _ _ _
   | exact matrix_Select.mono _ _ _ _ _ _
   | exact matrix_Valid.mono _ _ _ _ _
   | exact LeO.none _
   | refine LeO.ite ?_ ?_
   | refine LeO.bind ?_ (fun _ => ?_)
theorem examboardlaw24_MatrixDivides.mono : ∀ a0 a1 a2 a3 a4 k, LeO (examboardlaw24_MatrixDivides.f k a0 a1 a2 a3 a4) (examboardlaw24_MatrixDivides.f (k + 1) a0 a1 a2 a3 a4) := by
 intro a0 a1 a2 a3 a4 k
 have ih0 := examboardlaw24_MatrixDivides.mono_l k
 unfold examboardlaw24_MatrixDivides.f
 repeat' first
   | (with_reducible exact ih0 _ _ _ _ _ _ _ _ _ _ _)
   | (with_reducible exact examboardlaw24_awake.mono _)
   | (with_reducible exact examboardlaw24_same.mono _ _ _ _ _ _ _)
   | (with_reducible exact matrix_Merge.mono _ _ _ _ _ _ _)
   | (with_reducible exact matrix_Select.mono _ _ _ _ _ _)
   | (with_reducible exact matrix_Valid.mono _ _ _ _ _)
   | (with_reducible exact LeO.refl _)
   | (with_reducible exact LeO.none _)
   | (with_reducible refine LeO.ite ?_ ?_)
   | (with_reducible refine LeO.bind ?_ (fun _ => ?_))
   | exact ih0 _ _ _ _ _ _ _ _ _ _ _
   | exact examboardlaw24_awake.mono _
   | exact examboardlaw24_same.mono _ _ _ _ _ _ _
   | exact matrix_Merge.mono _ _ _ _ _ _ _
   | exact matrix_Select.mono _ _ _ _ _ _
   | exact matrix_Valid.mono _ _ _ _ _
   | exact LeO.none _
   | refine LeO.ite ?_ ?_
   | refine LeO.bind ?_ (fun _ => ?_)
def examboardlaw24_MatrixDivides.T4 : Bool × List (List Nat × List Nat) := (true, [([], []), ([], []), ([1], [1]), ([], []), ([2, 3], [2, 3]), ([], []), ([5], [5]), ([0, 4, 6], [0, 4, 6]), ([7], [7]), ([8], [8]), ([8], [8]), ([], []), ([11, 9, 7, 0, 1, 2, 3, 4, 5, 6, 7, 8, 9, 11], [9, 11]), ([10, 12, 0, 1, 2, 3, 4, 5, 6, 7, 8, 9, 10, 11, 12], [10])])
def examboardlaw24_MatrixDivides.B4 : List Nat := [0, 0, 2, 0, 14, 0, 32, 127, 255, 511, 511, 0, 3071, 8191]
theorem examboardlaw24_MatrixDivides.tab4 : rtab .any (opsOf Try.f7 4) = examboardlaw24_MatrixDivides.T4 := by kernel_rfl
theorem examboardlaw24_MatrixDivides.bits4 : waitsOk examboardlaw24_MatrixDivides.T4.2 examboardlaw24_MatrixDivides.B4 = true := by kernel_rfl
def examboardlaw24_MatrixDivides.T5 : Bool × List (List Nat × List Nat) := (true, [([], []), ([], []), ([1], [1]), ([], []), ([2, 3], [2, 3]), ([], []), ([5], [5]), ([0, 4, 6], [0, 4, 6]), ([7], [7]), ([8], [8]), ([8], [8]), ([], []), ([11, 9, 7, 0, 1, 2, 3, 4, 5, 6, 7, 8, 9, 11], [9, 11]), ([10, 12, 0, 1, 2, 3, 4, 5, 6, 7, 8, 9, 10, 11, 12], [10])])
def examboardlaw24_MatrixDivides.B5 : List Nat := [0, 0, 2, 0, 14, 0, 32, 127, 255, 511, 511, 0, 3071, 8191]
theorem examboardlaw24_MatrixDivides.tab5 : rtab .any (opsOf Try.f7 5) = examboardlaw24_MatrixDivides.T5 := by kernel_rfl
theorem examboardlaw24_MatrixDivides.bits5 : waitsOk examboardlaw24_MatrixDivides.T5.2 examboardlaw24_MatrixDivides.B5 = true := by kernel_rfl
set_option maxHeartbeats 8000000 in
set_option maxRecDepth 100000 in
theorem examboardlaw24_MatrixDivides.calls (k : Nat) (A0_0 : Option Addr) (c0_0 : Nat) (l0_0 : List Int) (A0_1 : Option Addr) (c0_1 : Nat) (l0_1 : List Int) (A0_2 : Option Addr) (c0_2 : Nat) (l0_2 : List (List Int)) (A1 : Option Addr) (c1 : Nat) (l1 : List Int) (a2 : Int) (r : Bool) (w : World) (hr0_0 : Kd.C (Kd.int .i64) w A0_0 l0_0.length l0_0) (hc0_0 : l0_0.length ≤ c0_0) (hr0_1 : Kd.C (Kd.int .i64) w A0_1 l0_1.length l0_1) (hc0_1 : l0_1.length ≤ c0_1) (hr0_2 : Kd.C (Kd.slice 3 (Kd.int .i64)) w A0_2 l0_2.length l0_2) (hc0_2 : l0_2.length ≤ c0_2) (hr1 : Kd.C (Kd.int .i64) w A1 l1.length l1) (hc1 : l1.length ≤ c1) (h : examboardlaw24_MatrixDivides.f k l0_0 l0_1 l0_2 l1 a2 = some r) :
  Calls Try.prog 7 #[.agg #[.slice A0_0 l0_0.length c0_0, .slice A0_1 l0_1.length c0_1, .slice A0_2 l0_2.length c0_2], .slice A1 l1.length c1, .int .u8 a2] w fun e w' => e = .returned (.bool r) ∧ Below w.heap.size w w' := by
 have hu53 := Try.underlying53
 have HR0_0 := Am hr0_0
 have HC0_0 := Am hc0_0
 clear hr0_0 hc0_0
 have HR0_1 := Am hr0_1
 have HC0_1 := Am hc0_1
 clear hr0_1 hc0_1
 have HR0_2 := Am hr0_2
 have HC0_2 := Am hc0_2
 clear hr0_2 hc0_2
 have HR1 := Am hr1
 have HC1 := Am hc1
 clear hr1 hc1
 have HB := Am (Below.refl w.heap.size w)
 have H : ((matrix_Valid.f k l0_0 l0_1 l0_2 l1).bind fun t392 => (if t392 = 0 then (if (wrap64 ((l0_0.length : Int) + 1)) = 0 then (none) else (if 0 ≤ (Int.tmod (wrap64 (a2)) (wrap64 ((l0_0.length : Int) + 1))) then (if (Int.tmod (wrap64 (a2)) (wrap64 ((l0_0.length : Int) + 1))) ≤ (l0_0.length : Int) then ((matrix_Select.f k l0_0 l0_1 l0_2 (l0_0.take ((Int.tmod (wrap64 (a2)) (wrap64 ((l0_0.length : Int) + 1))) : Int).toNat) l0_1).bind fun bt395 => ((matrix_Select.f k l0_0 l0_1 l0_2 (l0_0.drop ((Int.tmod (wrap64 (a2)) (wrap64 ((l0_0.length : Int) + 1))) : Int).toNat) l0_1).bind fun bt407 => (if bt395.2.2.2 = 0 then (if bt407.2.2.2 = 0 then (examboardlaw24_MatrixDivides.j0 k l1 ((bt395.1.length : Int) != (Int.tmod (wrap64 (a2)) (wrap64 ((l0_0.length : Int) + 1)))) l0_0 l0_1 l0_2 bt395.1 bt395.2.1 bt395.2.2.1 bt407.1 bt407.2.1 bt407.2.2.1) else (none)) else (none)))) else (none)) else (none))) else ((examboardlaw24_awake.f k).bind fun t393 => (some t393)))) = some r := h
 clear h
 replace H := Option.bind_eq_some_iff.mp H
 obtain ⟨t392, A40, H⟩ := H
 replace H : (if t392 = 0 then (if (wrap64 ((l0_0.length : Int) + 1)) = 0 then (none) else (if 0 ≤ (Int.tmod (wrap64 (a2)) (wrap64 ((l0_0.length : Int) + 1))) then (if (Int.tmod (wrap64 (a2)) (wrap64 ((l0_0.length : Int) + 1))) ≤ (l0_0.length : Int) then ((matrix_Select.f k l0_0 l0_1 l0_2 (l0_0.take ((Int.tmod (wrap64 (a2)) (wrap64 ((l0_0.length : Int) + 1))) : Int).toNat) l0_1).bind fun bt395 => ((matrix_Select.f k l0_0 l0_1 l0_2 (l0_0.drop ((Int.tmod (wrap64 (a2)) (wrap64 ((l0_0.length : Int) + 1))) : Int).toNat) l0_1).bind fun bt407 => (if bt395.2.2.2 = 0 then (if bt407.2.2.2 = 0 then (examboardlaw24_MatrixDivides.j0 k l1 ((bt395.1.length : Int) != (Int.tmod (wrap64 (a2)) (wrap64 ((l0_0.length : Int) + 1)))) l0_0 l0_1 l0_2 bt395.1 bt395.2.1 bt395.2.2.1 bt407.1 bt407.2.1 bt407.2.2.1) else (none)) else (none)))) else (none)) else (none))) else ((examboardlaw24_awake.f k).bind fun t393 => (some t393))) = some r := H
 have A4 := Am A40
 clear A40
 by_cases c5 : t392 = 0
 ·rw [if_pos c5] at H
  have c5b0 : (t392 == 0) = true := beq_iff_eq.mpr c5
  have c5b1 : (t392 != 0) = false := bne_eq_false_iff_eq.mpr c5
  clear c5
  by_cases c6 : (wrap64 ((l0_0.length : Int) + 1)) = 0
  ·rw [if_pos c6] at H
   exact absurd H (by simp)
  ·rw [if_neg c6] at H
   have c6b0 : ((wrap64 ((l0_0.length : Int) + 1)) == 0) = false := beq_eq_false_iff_ne.mpr c6
   have c6b1 : ((wrap64 ((l0_0.length : Int) + 1)) != 0) = true := bne_iff_ne.mpr c6
   obtain ⟨ji7, hji7⟩ : ∃ j_ : Int, (Int.tmod (wrap64 (a2)) (wrap64 ((l0_0.length : Int) + 1))) = j_ := ⟨_, rfl⟩
   replace H : (if 0 ≤ (ji7) then (if (ji7) ≤ (l0_0.length : Int) then ((matrix_Select.f k l0_0 l0_1 l0_2 (l0_0.take ((ji7) : Int).toNat) l0_1).bind fun bt395 => ((matrix_Select.f k l0_0 l0_1 l0_2 (l0_0.drop ((ji7) : Int).toNat) l0_1).bind fun bt407 => (if bt395.2.2.2 = 0 then (if bt407.2.2.2 = 0 then (examboardlaw24_MatrixDivides.j0 k l1 ((bt395.1.length : Int) != (ji7)) l0_0 l0_1 l0_2 bt395.1 bt395.2.1 bt395.2.2.1 bt407.1 bt407.2.1 bt407.2.2.1) else (none)) else (none)))) else (none)) else (none)) = some r := by first | (rw [hji7] at H; exact H) | (simp only [hji7] at H ⊢; exact H)
   (try rw [hji7] at A4)
   by_cases c8 : 0 ≤ (ji7)
   ·rw [if_pos c8] at H
    have c8b0 := eq_true c8
    have c8b1 : decide (0 ≤ (ji7)) = true := decide_eq_true c8
    clear c8
    by_cases c9 : (ji7) ≤ (l0_0.length : Int)
    ·rw [if_pos c9] at H
     have c9b0 := eq_true c9
     have c9b1 : decide ((ji7) ≤ (l0_0.length : Int)) = true := decide_eq_true c9
     clear c9
     replace H := Option.bind_eq_some_iff.mp H
     obtain ⟨⟨t395, t398, t401, t404⟩, A100, H⟩ := H
     replace H : ((matrix_Select.f k l0_0 l0_1 l0_2 (l0_0.drop ((ji7) : Int).toNat) l0_1).bind fun bt407 => (if t404 = 0 then (if bt407.2.2.2 = 0 then (examboardlaw24_MatrixDivides.j0 k l1 ((t395.length : Int) != (ji7)) l0_0 l0_1 l0_2 t395 t398 t401 bt407.1 bt407.2.1 bt407.2.2.1) else (none)) else (none))) = some r := H
     have A10 := Am A100
     clear A100
     have c11b0 := eq_true (of_decide_eq_true (by first | (with_reducible assumption) | assumption) : 0 ≤ (ji7))
     have c12b0 := eq_true (of_decide_eq_true (by first | (with_reducible assumption) | assumption) : (ji7) ≤ (l0_0.length : Int))
     replace H := Option.bind_eq_some_iff.mp H
     obtain ⟨⟨t407, t410, t413, t416⟩, A130, H⟩ := H
     replace H : (if t404 = 0 then (if t416 = 0 then (examboardlaw24_MatrixDivides.j0 k l1 ((t395.length : Int) != (ji7)) l0_0 l0_1 l0_2 t395 t398 t401 t407 t410 t413) else (none)) else (none)) = some r := H
     have A13 := Am A130
     clear A130
     have HC14 := Am H
     clear H
     go_enter Try.func7, Try.ntmps7
     try go_wp2_with (first | ((with_reducible refine gate_dst (N := 3) rfl ?_); (try (refine gate_guard (by rfl) ?_; dsimp only)); refine box_event ?hg (N := 3) ?hd (cs := #[.slice A0_0 l0_0.length c0_0, .slice A0_1 l0_1.length c0_1, .slice A0_2 l0_2.length c0_2]) (t := 53) ?hr ?_; (case hd => rfl); (case hg => rfl); (case hr => first | (go_simp; done) | (go_simp; rfl)); intro gb391 hg w15 hbox hb; have n0_ := Am (below_step (Bl HB) hb); have n1_ := Am (hbox); have n2_ := Am ((by rw [hg]; exact (below_size (Bl HB)) : w.heap.size ≤ gb391)); have n3_ := Am ((by rw [hg]; exact (below_size (Bl HB)) : w.heap.size ≤ gb391)); clear HB; have HB := n0_; have BK391 := n1_; have GW391 := n2_; have GE391 := n3_; clear n0_ n1_ n2_ n3_; clear hb hbox hg; have hcz16_0 : w15.cell? ⟨gb391, 0, none⟩ = some (.slice A0_0 l0_0.length c0_0) := (blk_cell BK391.out 0).trans rfl; have hcz16_1 : w15.cell? ⟨gb391, 1, none⟩ = some (.slice A0_1 l0_1.length c0_1) := (blk_cell BK391.out 1).trans rfl; have hcz16_2 : w15.cell? ⟨gb391, 2, none⟩ = some (.slice A0_2 l0_2.length c0_2) := (blk_cell BK391.out 2).trans rfl; have hfz16_0 := blk_frozen BK391.out 0; have hfz16_1 := blk_frozen BK391.out 1; have hfz16_2 := blk_frozen BK391.out 2) | ((with_reducible refine gate_callee (f := 40) rfl ?_); refine goesL_ (some 16) rfl rfl Try.func40 (by kernel_rfl) rfl #[.agg #[.slice A0_0 l0_0.length c0_0, .slice A0_1 l0_1.length c0_1, .slice A0_2 l0_2.length c0_2], .slice A1 l1.length c1] rfl (by (try simp only [List.map_toArray, List.map_cons, List.map_nil]); first | done | rfl | (simp only [List.length_drop, List.length_take]; rfl)) ?_; (with_reducible refine (matrix_Valid.calls k _ _ l0_0 _ _ l0_1 _ _ l0_2 _ _ l1 t392 _ ?side1 ?side2 ?side3 ?side4 ?side5 ?side6 ?side7 ?side8 A4.out).mono ?_); (case side1 => repeat (first | exact (Kd.C_below HR0_0.out HB.out) | (with_reducible refine Kd.C_alloc ?_ _) | (with_reducible refine Kd.C_drewN ?_ _) | (with_reducible refine Kd.C_drew ?_))); (case side2 => exact HC0_0.out); (case side3 => repeat (first | exact (Kd.C_below HR0_1.out HB.out) | (with_reducible refine Kd.C_alloc ?_ _) | (with_reducible refine Kd.C_drewN ?_ _) | (with_reducible refine Kd.C_drew ?_))); (case side4 => exact HC0_1.out); (case side5 => repeat (first | exact (Kd.C_below HR0_2.out HB.out) | (with_reducible refine Kd.C_alloc ?_ _) | (with_reducible refine Kd.C_drewN ?_ _) | (with_reducible refine Kd.C_drew ?_))); (case side6 => exact HC0_2.out); (case side7 => repeat (first | exact (Kd.C_below HR1.out HB.out) | (with_reducible refine Kd.C_alloc ?_ _) | (with_reducible refine Kd.C_drewN ?_ _) | (with_reducible refine Kd.C_drew ?_))); (case side8 => exact HC1.out); rintro e w17 ⟨rfl, hb⟩; refine ⟨_, rfl, ?_⟩; have n0_ := Am (blk_below (Kl BK391) hb); have n1_ := Am (below_step (by repeat first | exact Bl HB | refine Bp (below_set ?_ GE391.out)) hb); clear BK391 HB; have BK391 := n0_; have HB := n1_; clear n0_ n1_; (try clear hb); (try clear hb2); (try clear hk); (try clear hi); have hcz18_0 : w17.cell? ⟨gb391, 0, none⟩ = some (.slice A0_0 l0_0.length c0_0) := (blk_cell BK391.out 0).trans rfl; have hcz18_1 : w17.cell? ⟨gb391, 1, none⟩ = some (.slice A0_1 l0_1.length c0_1) := (blk_cell BK391.out 1).trans rfl; have hcz18_2 : w17.cell? ⟨gb391, 2, none⟩ = some (.slice A0_2 l0_2.length c0_2) := (blk_cell BK391.out 2).trans rfl; have hfz18_0 := blk_frozen BK391.out 0; have hfz18_1 := blk_frozen BK391.out 1; have hfz18_2 := blk_frozen BK391.out 2))
     have n0_ := Am (blk_drew BK391.out)
     have n1_ := Am (below_drew1 HB.out)
     clear BK391 HB
     have BK391 := n0_
     have HB := n1_
     clear n0_ n1_
     obtain ⟨i020, hi020, _, hsz20, _⟩ := info_parts info3
     obtain ⟨hcut20, hA20, hC20⟩ := print_take_of (P := Try.prog) (Value.int .i64) 0 34 3 .i64 Try.underlying34 hi020 hsz20 A0_0 c0_0 l0_0 (ji7) (of_decide_eq_true (by first | (with_reducible assumption) | assumption)) (of_decide_eq_true (by first | (with_reducible assumption) | assumption)) HC0_0.out
     have HR394 := Am (Kd.C_of_reads (h1 := fun _ => rfl) (hA20 _ (Kd.reads_of_C HR0_0.out)))
     have HC394 := Am hC20
     clear hA20 hC20 hi020 hsz20
     refine start_ (n := 14) (S := fun w' => w'.cell? ⟨gb391, 0, none⟩ = some (.slice A0_0 l0_0.length c0_0) ∧ w'.cell? ⟨gb391, 1, none⟩ = some (.slice A0_1 l0_1.length c0_1) ∧ w'.cell? ⟨gb391, 2, none⟩ = some (.slice A0_2 l0_2.length c0_2)) (ds := []) #[false, false, false, false, false, false, false, false, false, false, false, false, false, false] (by kernel_rfl) rfl rfl ⟨(blk_cell BK391.out 0).trans rfl, (blk_cell BK391.out 1).trans rfl, (blk_cell BK391.out 2).trans rfl⟩ (fun hHeld => ?_); refine with_tabW examboardlaw24_MatrixDivides.tab4 examboardlaw24_MatrixDivides.bits4 (fun HT_ HW_ => ?_)
     generalize w17.drew = w19 at BK391 HB HR394 hHeld ⊢
     refine pure_ (i := 1) (N := some 28) (v := ?_) (a' := ?_) #[false, true, false, false, false, false, false, false, false, false, false, false, false, false] rfl rfl (any_of HT_.out (by kernel_rfl)) (fun _ _ _ h => h) (Or.inl ⟨by rfl, ?_⟩) ?_ ?_
     rotate_left
     ·intro w'
      go_simp
      with_reducible rfl
     rotate_left
     ·simp only [Act.put, List.setIfInBounds_toArray, List.set_cons_zero, List.set_cons_succ, i64_w, i32_w]
      rfl
     refine pure_ (i := 3) (N := some 30) (v := ?_) (a' := ?_) #[false, true, false, true, false, false, false, false, false, false, false, false, false, false] rfl rfl (any_of HT_.out (by kernel_rfl)) (fun _ _ _ h => h) (Or.inl ⟨by rfl, ?_⟩) ?_ ?_
     rotate_left
     ·intro w'
      go_simp
      with_reducible rfl
     rotate_left
     ·simp only [Act.put, List.setIfInBounds_toArray, List.set_cons_zero, List.set_cons_succ, i64_w, i32_w]
      rfl
     refine pure_ (i := 5) (N := some 32) (v := ?_) (a' := ?_) #[false, true, false, true, false, true, false, false, false, false, false, false, false, false] rfl rfl (any_of HT_.out (by kernel_rfl)) (fun _ _ _ h => h) (Or.inl ⟨by rfl, ?_⟩) ?_ ?_
     rotate_left
     ·intro w'
      go_simp
      with_reducible rfl
     rotate_left
     ·simp only [Act.put, List.setIfInBounds_toArray, List.set_cons_zero, List.set_cons_succ, i64_w, i32_w]
      rfl
     refine take_ (i := 0) (N := some 27) (v := ?_) (a' := ?_) #[true, true, false, true, false, true, false, false, false, false, false, false, false, false] rfl rfl (take_ofW HT_.out HW_.out (by kernel_rfl)) (fun _ _ _ h => h) (Or.inl ⟨by rfl, ?_⟩) hHeld ?_ ?_
     rotate_left
     ·rintro w' ⟨s0, s1, s2⟩
      go_simp
      with_reducible rfl
     rotate_left
     ·simp only [Act.put, List.setIfInBounds_toArray, List.set_cons_zero, List.set_cons_succ, i64_w, i32_w]
      rfl
     refine take_ (i := 2) (N := some 29) (v := ?_) (a' := ?_) #[true, true, true, true, false, true, false, false, false, false, false, false, false, false] rfl rfl (take_ofW HT_.out HW_.out (by kernel_rfl)) (fun _ _ _ h => h) (Or.inl ⟨by rfl, ?_⟩) hHeld ?_ ?_
     rotate_left
     ·rintro w' ⟨s0, s1, s2⟩
      go_simp
      with_reducible rfl
     rotate_left
     ·simp only [Act.put, List.setIfInBounds_toArray, List.set_cons_zero, List.set_cons_succ, i64_w, i32_w]
      rfl
     refine pure_ (i := 4) (N := some 31) (v := ?_) (a' := ?_) #[true, true, true, true, true, true, false, false, false, false, false, false, false, false] rfl rfl (any_of HT_.out (by kernel_rfl)) (fun _ _ _ h => h) (Or.inl ⟨by rfl, ?_⟩) ?_ ?_
     rotate_left
     ·intro w'
      go_simp
      with_reducible rfl
     rotate_left
     ·simp only [Act.put, List.setIfInBounds_toArray, List.set_cons_zero, List.set_cons_succ, i64_w, i32_w]
      rfl
     refine take_ (i := 6) (N := some 33) (v := ?_) (a' := ?_) #[true, true, true, true, true, true, true, false, false, false, false, false, false, false] rfl rfl (take_ofW HT_.out HW_.out (by kernel_rfl)) (fun _ _ _ h => h) (Or.inl ⟨by rfl, ?_⟩) hHeld ?_ ?_
     rotate_left
     ·rintro w' ⟨s0, s1, s2⟩
      go_simp
      with_reducible rfl
     rotate_left
     ·simp only [Act.put, List.setIfInBounds_toArray, List.set_cons_zero, List.set_cons_succ, i64_w, i32_w]
      rfl
     refine join_ (σ := Value × Value × Value × Nat) 2 #[true, true, true, true, true, true, true, true, true, true, true, true, false, false] (fun s_ => [(34, .tuple #[.agg #[s_.1, s_.2.1, s_.2.2.1], .int .i64 t404]), (8, .pointer (some ⟨s_.2.2.2, 0, none⟩)), (26, .tuple #[.agg #[s_.1, s_.2.1, s_.2.2.1], .int .i64 t404]), (35, .agg #[s_.1, s_.2.1, s_.2.2.1]), (36, .int .i64 t404)]) (fun s_ w' => (w'.cell? ⟨gb391, 0, none⟩ = some (.slice A0_0 l0_0.length c0_0) ∧ w'.cell? ⟨gb391, 1, none⟩ = some (.slice A0_1 l0_1.length c0_1) ∧ w'.cell? ⟨gb391, 2, none⟩ = some (.slice A0_2 l0_2.length c0_2)) ∧ (Kd.R (Kd.int .i64) 3 w' w.heap.size (fun k_ => some k_ ≠ (s_.2.1 : Value).ownBlock) s_.1 t395) ∧ (Kd.R (Kd.int .i64) 3 w' w.heap.size (fun k_ => some k_ ≠ (s_.1 : Value).ownBlock) s_.2.1 t398) ∧ (Kd.S (Kd.slice 3 (Kd.int .i64)) 34 w' w.heap.size (fun k_ => some k_ ≠ (s_.1 : Value).ownBlock ∧ some k_ ≠ (s_.2.1 : Value).ownBlock) s_.2.2.1 t401) ∧ (w'.heap[gb391]? = some (.cells #[.slice A0_0 l0_0.length c0_0, .slice A0_1 l0_1.length c0_1, .slice A0_2 l0_2.length c0_2] 53 (0, 0))) ∧ (w'.heap[s_.2.2.2]? = some (.cells #[.slice none 0 0, .slice none 0 0, .slice none 0 0] 53 (0, 0))) ∧ (w.heap.size ≤ s_.2.2.2) ∧ (w.heap.size ≤ s_.2.2.2) ∧ (gb391 ≠ s_.2.2.2) ∧ (s_.2.2.2 ≠ gb391) ∧ (Below w.heap.size w w')) ?_ ?_
     rotate_left
     ·intro hCont
      refine two_ (i := 7) (j := 11) (Ni := some 34) (Nj := some 8) #[true, true, true, true, true, true, true, true, false, false, false, false, false, false] #[true, true, true, true, true, true, true, false, false, false, false, true, false, false] rfl rfl rfl rfl (two_of HT_.out (by kernel_rfl)) (by decide) (by decide) (fun K hK => ?_) (fun K hK => ?_)
      ·skip
       refine goes_ Try.func42 (by kernel_rfl) rfl #[.agg #[.slice A0_0 l0_0.length c0_0, .slice A0_1 l0_1.length c0_1, .slice A0_2 l0_2.length c0_2], .slice A0_0 (l0_0.take ((ji7) : Int).toNat).length c0_0, .slice A0_1 l0_1.length c0_1] (by rfl) rfl rfl (by (try simp only [List.map_toArray, List.map_cons, List.map_nil]); first | done | (rw [show (l0_0.take ((ji7) : Int).toNat).length = (ji7).toNat from (by rw [List.length_take]; have h_ : ((ji7) : Int) ≤ (l0_0.length : Int) := of_decide_eq_true (by first | (with_reducible assumption) | assumption); omega)] <;> rfl) | (simp only [hji7]; rfl) | rfl | (simp only [List.length_drop, List.length_take]; rfl)) ?_
       with_reducible refine (matrix_Select.calls k _ _ l0_0 _ _ l0_1 _ _ l0_2 _ _ (l0_0.take ((ji7) : Int).toNat) _ _ l0_1 t395 t398 t401 t404 _ ?side1 ?side2 ?side3 ?side4 ?side5 ?side6 ?side7 ?side8 ?side9 ?side10 A10.out).mono ?_
       (case side1 => repeat (first | exact (Kd.C_below HR0_0.out HB.out) | (with_reducible refine Kd.C_alloc ?_ _) | (with_reducible refine Kd.C_drewN ?_ _) | (with_reducible refine Kd.C_drew ?_)))
       (case side2 => exact HC0_0.out)
       (case side3 => repeat (first | exact (Kd.C_below HR0_1.out HB.out) | (with_reducible refine Kd.C_alloc ?_ _) | (with_reducible refine Kd.C_drewN ?_ _) | (with_reducible refine Kd.C_drew ?_)))
       (case side4 => exact HC0_1.out)
       (case side5 => repeat (first | exact (Kd.C_below HR0_2.out HB.out) | (with_reducible refine Kd.C_alloc ?_ _) | (with_reducible refine Kd.C_drewN ?_ _) | (with_reducible refine Kd.C_drew ?_)))
       (case side6 => exact HC0_2.out)
       (case side7 => repeat (first | exact (Kd.C_below HR394.out HB.out) | (with_reducible refine Kd.C_alloc ?_ _) | (with_reducible refine Kd.C_drewN ?_ _) | (with_reducible refine Kd.C_drew ?_)))
       (case side8 => exact HC394.out)
       (case side9 => repeat (first | exact (Kd.C_below HR0_1.out HB.out) | (with_reducible refine Kd.C_alloc ?_ _) | (with_reducible refine Kd.C_drewN ?_ _) | (with_reducible refine Kd.C_drew ?_)))
       (case side10 => exact HC0_1.out)
       rintro e w21 ⟨v396, v399, v402, rfl, ho0, ho1, ho2, hb⟩
       refine ⟨_, rfl, ?_⟩
       have n0_ := Am (Kd.R_lower ho0 (below_size (by repeat first | exact Bl HB | refine Bp (below_set ?_ GE391.out))))
       have n1_ := Am (Kd.R_lower ho1 (below_size (by repeat first | exact Bl HB | refine Bp (below_set ?_ GE391.out))))
       have n2_ := Am (Kd.S_lower ho2 (below_size (by repeat first | exact Bl HB | refine Bp (below_set ?_ GE391.out))))
       have n3_ := Am (blk_below (Kl BK391) hb)
       have n4_ := Am (below_step (by repeat first | exact Bl HB | refine Bp (below_set ?_ GE391.out)) hb)
       clear BK391 HB
       have HO397 := n0_
       have HO400 := n1_
       have HO403 := n2_
       have BK391 := n3_
       have HB := n4_
       clear n0_ n1_ n2_ n3_ n4_
       (try clear hb)
       (try clear hb2)
       (try clear hk)
       (try clear hi)
       (try clear ho0)
       (try clear ho1)
       (try clear ho2)
       refine hK.out _ _ ⟨(blk_cell BK391.out 0).trans rfl, (blk_cell BK391.out 1).trans rfl, (blk_cell BK391.out 2).trans rfl⟩ (fun hHeld => ?_)
       clear hK K
       refine norm_ (a' := ?_) ?_ ?_
       rotate_left
       ·show Act.put _ (some 34) _ = _
        simp only [Act.put, List.setIfInBounds_toArray, List.set_cons_zero, List.set_cons_succ, i64_w, i32_w]
        rfl
       refine pure_ (i := 8) (N := some 26) (v := ?_) (a' := ?_) #[true, true, true, true, true, true, true, true, true, false, false, false, false, false] rfl rfl (any_of HT_.out (by kernel_rfl)) (fun _ _ _ h => h) (Or.inl ⟨by rfl, ?_⟩) ?_ ?_
       rotate_left
       ·intro w'
        go_simp
        with_reducible rfl
       rotate_left
       ·simp only [Act.put, List.setIfInBounds_toArray, List.set_cons_zero, List.set_cons_succ, i64_w, i32_w]
        rfl
       refine pure_ (i := 9) (N := some 35) (v := ?_) (a' := ?_) #[true, true, true, true, true, true, true, true, true, true, false, false, false, false] rfl rfl (any_of HT_.out (by kernel_rfl)) (fun _ _ _ h => h) (Or.inl ⟨by rfl, ?_⟩) ?_ ?_
       rotate_left
       ·intro w'
        go_simp
        with_reducible rfl
       rotate_left
       ·simp only [Act.put, List.setIfInBounds_toArray, List.set_cons_zero, List.set_cons_succ, i64_w, i32_w]
        rfl
       refine pure_ (i := 10) (N := some 36) (v := ?_) (a' := ?_) #[true, true, true, true, true, true, true, true, true, true, true, false, false, false] rfl rfl (any_of HT_.out (by kernel_rfl)) (fun _ _ _ h => h) (Or.inl ⟨by rfl, ?_⟩) ?_ ?_
       rotate_left
       ·intro w'
        go_simp
        with_reducible rfl
       rotate_left
       ·simp only [Act.put, List.setIfInBounds_toArray, List.set_cons_zero, List.set_cons_succ, i64_w, i32_w]
        rfl
       refine one_ (i := 11) (N := some 8) #[true, true, true, true, true, true, true, true, true, true, true, true, false, false] rfl rfl (one_of HT_.out (by kernel_rfl)) (by decide) (fun K hK => ?_)
       refine box_step ?hg (N := 8) ?hd (cs := #[.slice none 0 0, .slice none 0 0, .slice none 0 0]) (t := 53) ?hr ?_; (case hd => rfl); (case hg => rfl); (case hr => first | (go_simp; done) | (go_simp; rfl))
       intro gb405 hg w22 hbox hb
       have n0_ := Am (Kd.R_below (Rl HO397) hb)
       have n1_ := Am (Kd.R_below (Rl HO400) hb)
       have n2_ := Am (Kd.S_below (Sl HO403) hb)
       have n3_ := Am (blk_below (Kl BK391) hb)
       have n4_ := Am (below_step (by repeat first | exact Bl HB | refine Bp (below_set ?_ GE391.out)) hb)
       have n5_ := Am (hbox)
       have n6_ := Am ((by rw [hg]; exact (below_size (by repeat first | exact Bl HB | refine Bp (below_set ?_ GE391.out))) : w.heap.size ≤ gb405))
       have n7_ := Am ((by rw [hg]; exact (below_size (by repeat first | exact Bl HB | refine Bp (below_set ?_ GE391.out))) : w.heap.size ≤ gb405))
       have n8_ := Am ((by rw [hg]; exact Nat.ne_of_lt (blk_lt (Kl BK391)) : gb391 ≠ gb405))
       have n9_ := Am ((by rw [hg]; exact Nat.ne_of_gt (blk_lt (Kl BK391)) : gb405 ≠ gb391))
       clear HO397 HO400 HO403 BK391 HB
       have HO397 := n0_
       have HO400 := n1_
       have HO403 := n2_
       have BK391 := n3_
       have HB := n4_
       have BK405 := n5_
       have GW405 := n6_
       have GE405 := n7_
       have NB391_405 := n8_
       have NB405_391 := n9_
       clear n0_ n1_ n2_ n3_ n4_ n5_ n6_ n7_ n8_ n9_
       clear hb hbox hg
       refine hK.out _ _ ⟨(blk_cell BK391.out 0).trans rfl, (blk_cell BK391.out 1).trans rfl, (blk_cell BK391.out 2).trans rfl⟩ (fun hHeld => ?_)
       clear hK K
       refine norm_ (a' := ?_) ?_ ?_
       rotate_left
       ·show Act.put _ (some 8) _ = _
        simp only [Act.put, List.setIfInBounds_toArray, List.set_cons_zero, List.set_cons_succ, i64_w, i32_w]
        rfl
       exact norm_ (by simp only [putAll, Act.put, List.setIfInBounds_toArray, List.set_cons_zero, List.set_cons_succ]) (hCont (v396, v399, v402, gb405) _ ⟨hHeld, (Rl HO397), (Rl HO400), (Sl HO403), (Kl BK391), (Kl BK405), GW405.out, GE405.out, NB391_405.out, NB405_391.out, (by repeat first | exact Bl HB | refine Bp (below_set ?_ GE391.out) | refine Bp (below_set ?_ GE405.out))⟩)
      ·skip
       refine box_step ?hg (N := 8) ?hd (cs := #[.slice none 0 0, .slice none 0 0, .slice none 0 0]) (t := 53) ?hr ?_; (case hd => rfl); (case hg => rfl); (case hr => first | (go_simp; done) | (go_simp; rfl))
       intro gb405 hg w21 hbox hb
       have n0_ := Am (blk_below (Kl BK391) hb)
       have n1_ := Am (below_step (by repeat first | exact Bl HB | refine Bp (below_set ?_ GE391.out)) hb)
       have n2_ := Am (hbox)
       have n3_ := Am ((by rw [hg]; exact (below_size (by repeat first | exact Bl HB | refine Bp (below_set ?_ GE391.out))) : w.heap.size ≤ gb405))
       have n4_ := Am ((by rw [hg]; exact (below_size (by repeat first | exact Bl HB | refine Bp (below_set ?_ GE391.out))) : w.heap.size ≤ gb405))
       have n5_ := Am ((by rw [hg]; exact Nat.ne_of_lt (blk_lt (Kl BK391)) : gb391 ≠ gb405))
       have n6_ := Am ((by rw [hg]; exact Nat.ne_of_gt (blk_lt (Kl BK391)) : gb405 ≠ gb391))
       clear BK391 HB
       have BK391 := n0_
       have HB := n1_
       have BK405 := n2_
       have GW405 := n3_
       have GE405 := n4_
       have NB391_405 := n5_
       have NB405_391 := n6_
       clear n0_ n1_ n2_ n3_ n4_ n5_ n6_
       clear hb hbox hg
       refine hK.out _ _ ⟨(blk_cell BK391.out 0).trans rfl, (blk_cell BK391.out 1).trans rfl, (blk_cell BK391.out 2).trans rfl⟩ (fun hHeld => ?_)
       clear hK K
       refine norm_ (a' := ?_) ?_ ?_
       rotate_left
       ·show Act.put _ (some 8) _ = _
        simp only [Act.put, List.setIfInBounds_toArray, List.set_cons_zero, List.set_cons_succ, i64_w, i32_w]
        rfl
       refine one_ (i := 7) (N := some 34) #[true, true, true, true, true, true, true, true, false, false, false, true, false, false] rfl rfl (one_of HT_.out (by kernel_rfl)) (by decide) (fun K hK => ?_)
       refine goes_ Try.func42 (by kernel_rfl) rfl #[.agg #[.slice A0_0 l0_0.length c0_0, .slice A0_1 l0_1.length c0_1, .slice A0_2 l0_2.length c0_2], .slice A0_0 (l0_0.take ((ji7) : Int).toNat).length c0_0, .slice A0_1 l0_1.length c0_1] (by rfl) rfl rfl (by (try simp only [List.map_toArray, List.map_cons, List.map_nil]); first | done | (rw [show (l0_0.take ((ji7) : Int).toNat).length = (ji7).toNat from (by rw [List.length_take]; have h_ : ((ji7) : Int) ≤ (l0_0.length : Int) := of_decide_eq_true (by first | (with_reducible assumption) | assumption); omega)] <;> rfl) | (simp only [hji7]; rfl) | rfl | (simp only [List.length_drop, List.length_take]; rfl)) ?_
       with_reducible refine (matrix_Select.calls k _ _ l0_0 _ _ l0_1 _ _ l0_2 _ _ (l0_0.take ((ji7) : Int).toNat) _ _ l0_1 t395 t398 t401 t404 _ ?side1 ?side2 ?side3 ?side4 ?side5 ?side6 ?side7 ?side8 ?side9 ?side10 A10.out).mono ?_
       (case side1 => repeat (first | exact (Kd.C_below HR0_0.out HB.out) | (with_reducible refine Kd.C_alloc ?_ _) | (with_reducible refine Kd.C_drewN ?_ _) | (with_reducible refine Kd.C_drew ?_)))
       (case side2 => exact HC0_0.out)
       (case side3 => repeat (first | exact (Kd.C_below HR0_1.out HB.out) | (with_reducible refine Kd.C_alloc ?_ _) | (with_reducible refine Kd.C_drewN ?_ _) | (with_reducible refine Kd.C_drew ?_)))
       (case side4 => exact HC0_1.out)
       (case side5 => repeat (first | exact (Kd.C_below HR0_2.out HB.out) | (with_reducible refine Kd.C_alloc ?_ _) | (with_reducible refine Kd.C_drewN ?_ _) | (with_reducible refine Kd.C_drew ?_)))
       (case side6 => exact HC0_2.out)
       (case side7 => repeat (first | exact (Kd.C_below HR394.out HB.out) | (with_reducible refine Kd.C_alloc ?_ _) | (with_reducible refine Kd.C_drewN ?_ _) | (with_reducible refine Kd.C_drew ?_)))
       (case side8 => exact HC394.out)
       (case side9 => repeat (first | exact (Kd.C_below HR0_1.out HB.out) | (with_reducible refine Kd.C_alloc ?_ _) | (with_reducible refine Kd.C_drewN ?_ _) | (with_reducible refine Kd.C_drew ?_)))
       (case side10 => exact HC0_1.out)
       rintro e w22 ⟨v396, v399, v402, rfl, ho0, ho1, ho2, hb⟩
       refine ⟨_, rfl, ?_⟩
       have n0_ := Am (Kd.R_lower ho0 (below_size (by repeat first | exact Bl HB | refine Bp (below_set ?_ GE391.out) | refine Bp (below_set ?_ GE405.out))))
       have n1_ := Am (Kd.R_lower ho1 (below_size (by repeat first | exact Bl HB | refine Bp (below_set ?_ GE391.out) | refine Bp (below_set ?_ GE405.out))))
       have n2_ := Am (Kd.S_lower ho2 (below_size (by repeat first | exact Bl HB | refine Bp (below_set ?_ GE391.out) | refine Bp (below_set ?_ GE405.out))))
       have n3_ := Am (blk_below (Kl BK391) hb)
       have n4_ := Am (blk_below (Kl BK405) hb)
       have n5_ := Am (below_step (by repeat first | exact Bl HB | refine Bp (below_set ?_ GE391.out) | refine Bp (below_set ?_ GE405.out)) hb)
       clear BK391 BK405 HB
       have HO397 := n0_
       have HO400 := n1_
       have HO403 := n2_
       have BK391 := n3_
       have BK405 := n4_
       have HB := n5_
       clear n0_ n1_ n2_ n3_ n4_ n5_
       (try clear hb)
       (try clear hb2)
       (try clear hk)
       (try clear hi)
       (try clear ho0)
       (try clear ho1)
       (try clear ho2)
       refine hK.out _ _ ⟨(blk_cell BK391.out 0).trans rfl, (blk_cell BK391.out 1).trans rfl, (blk_cell BK391.out 2).trans rfl⟩ (fun hHeld => ?_)
       clear hK K
       refine norm_ (a' := ?_) ?_ ?_
       rotate_left
       ·show Act.put _ (some 34) _ = _
        simp only [Act.put, List.setIfInBounds_toArray, List.set_cons_zero, List.set_cons_succ, i64_w, i32_w]
        rfl
       refine pure_ (i := 8) (N := some 26) (v := ?_) (a' := ?_) #[true, true, true, true, true, true, true, true, true, false, false, true, false, false] rfl rfl (any_of HT_.out (by kernel_rfl)) (fun _ _ _ h => h) (Or.inl ⟨by rfl, ?_⟩) ?_ ?_
       rotate_left
       ·intro w'
        go_simp
        with_reducible rfl
       rotate_left
       ·simp only [Act.put, List.setIfInBounds_toArray, List.set_cons_zero, List.set_cons_succ, i64_w, i32_w]
        rfl
       refine pure_ (i := 9) (N := some 35) (v := ?_) (a' := ?_) #[true, true, true, true, true, true, true, true, true, true, false, true, false, false] rfl rfl (any_of HT_.out (by kernel_rfl)) (fun _ _ _ h => h) (Or.inl ⟨by rfl, ?_⟩) ?_ ?_
       rotate_left
       ·intro w'
        go_simp
        with_reducible rfl
       rotate_left
       ·simp only [Act.put, List.setIfInBounds_toArray, List.set_cons_zero, List.set_cons_succ, i64_w, i32_w]
        rfl
       refine pure_ (i := 10) (N := some 36) (v := ?_) (a' := ?_) #[true, true, true, true, true, true, true, true, true, true, true, true, false, false] rfl rfl (any_of HT_.out (by kernel_rfl)) (fun _ _ _ h => h) (Or.inl ⟨by rfl, ?_⟩) ?_ ?_
       rotate_left
       ·intro w'
        go_simp
        with_reducible rfl
       rotate_left
       ·simp only [Act.put, List.setIfInBounds_toArray, List.set_cons_zero, List.set_cons_succ, i64_w, i32_w]
        rfl
       exact norm_ (by simp only [putAll, Act.put, List.setIfInBounds_toArray, List.set_cons_zero, List.set_cons_succ]) (hCont (v396, v399, v402, gb405) _ ⟨hHeld, (Rl HO397), (Rl HO400), (Sl HO403), (Kl BK391), (Kl BK405), GW405.out, GE405.out, NB391_405.out, NB405_391.out, (by repeat first | exact Bl HB | refine Bp (below_set ?_ GE391.out) | refine Bp (below_set ?_ GE405.out))⟩)
     rintro ⟨v396, v399, v402, gb405⟩ w23 ⟨hS_, h0_, h1_, h2_, h3_, h4_, h5_, h6_, h7_, h8_, h9_⟩
     have n0_ : Aside0 (Kd.R (Kd.int .i64) 3 w23 w.heap.size (fun k_ => some k_ ≠ (v399 : Value).ownBlock) v396 t395) := ⟨h0_⟩
     have n1_ : Aside0 (Kd.R (Kd.int .i64) 3 w23 w.heap.size (fun k_ => some k_ ≠ (v396 : Value).ownBlock) v399 t398) := ⟨h1_⟩
     have n2_ : Aside0 (Kd.S (Kd.slice 3 (Kd.int .i64)) 34 w23 w.heap.size (fun k_ => some k_ ≠ (v396 : Value).ownBlock ∧ some k_ ≠ (v399 : Value).ownBlock) v402 t401) := ⟨h2_⟩
     have n3_ : Aside0 (w23.heap[gb391]? = some (.cells #[.slice A0_0 l0_0.length c0_0, .slice A0_1 l0_1.length c0_1, .slice A0_2 l0_2.length c0_2] 53 (0, 0))) := ⟨h3_⟩
     have n4_ : Aside0 (w23.heap[gb405]? = some (.cells #[.slice none 0 0, .slice none 0 0, .slice none 0 0] 53 (0, 0))) := ⟨h4_⟩
     have n5_ : Aside0 (w.heap.size ≤ gb405) := ⟨h5_⟩
     have n6_ : Aside0 (w.heap.size ≤ gb405) := ⟨h6_⟩
     have n7_ : Aside0 (gb391 ≠ gb405) := ⟨h7_⟩
     have n8_ : Aside0 (gb405 ≠ gb391) := ⟨h8_⟩
     have n9_ : Aside0 (Below w.heap.size w w23) := ⟨h9_⟩
     clear BK391 HB
     clear h0_ h1_ h2_ h3_ h4_ h5_ h6_ h7_ h8_ h9_
     have HO397 := n0_
     have HO400 := n1_
     have HO403 := n2_
     have BK391 := n3_
     have BK405 := n4_
     have GW405 := n5_
     have GE405 := n6_
     have NB391_405 := n7_
     have NB405_391 := n8_
     have HB := n9_
     clear n0_ n1_ n2_ n3_ n4_ n5_ n6_ n7_ n8_ n9_
     have hHeld : w23.cell? ⟨gb391, 0, none⟩ = some (.slice A0_0 l0_0.length c0_0) ∧ w23.cell? ⟨gb391, 1, none⟩ = some (.slice A0_1 l0_1.length c0_1) ∧ w23.cell? ⟨gb391, 2, none⟩ = some (.slice A0_2 l0_2.length c0_2) := hS_
     obtain ⟨Ao24, co24, eo24⟩ := Kd.R_slice HO397.out
     (first | subst eo24 | (injection eo24 with f1_ f2_ f3_; have f4_ := f1_.symm; have f5_ := f3_.symm; clear f1_ f2_ f3_; subst f4_; subst f5_))
     obtain ⟨Ao26, co26, eo26⟩ := Kd.R_slice HO400.out
     (first | subst eo26 | (injection eo26 with f1_ f2_ f3_; have f4_ := f1_.symm; have f5_ := f3_.symm; clear f1_ f2_ f3_; subst f4_; subst f5_))
     obtain ⟨Ao28, co28, eo28⟩ := Kd.S_slice HO403.out
     (first | subst eo28 | (injection eo28 with f1_ f2_ f3_; have f4_ := f1_.symm; have f5_ := f3_.symm; clear f1_ f2_ f3_; subst f4_; subst f5_))
     refine norm_ (a' := ?_) ?_ ?_
     rotate_left
     ·simp only [putAll, Act.put, List.setIfInBounds_toArray, List.set_cons_zero, List.set_cons_succ]
      rfl
     refine one_ (i := 12) (N := none) #[true, true, true, true, true, true, true, true, true, true, true, true, true, false] rfl rfl (one_of HT_.out (by kernel_rfl)) (by decide) (fun K hK => ?_)
     have hs25 : w23.cell? ⟨gb405, 0, none⟩ = some (.slice none 0 0) := (blk_cell BK405.out 0).trans rfl
     have hfs25 := blk_frozen BK405.out 0
     have hns25_0 := NB391_405.out
     have hms25_0 := NB405_391.out
     have hs27 : w23.cell? ⟨gb405, 1, none⟩ = some (.slice none 0 0) := (blk_cell BK405.out 1).trans rfl
     have hfs27 := blk_frozen BK405.out 1
     have hns27_0 := NB391_405.out
     have hms27_0 := NB405_391.out
     have hs29 : w23.cell? ⟨gb405, 2, none⟩ = some (.slice none 0 0) := (blk_cell BK405.out 2).trans rfl
     have hfs29 := blk_frozen BK405.out 2
     have hns29_0 := NB391_405.out
     have hms29_0 := NB405_391.out
     refine skip_ (w1 := ?_) (by rfl) rfl ?_ ?_
     rotate_left
     ·go_simp
      rfl
     refine hK.out _ _ ⟨((cell_far (p := ⟨gb405, _, none⟩) NB391_405.out _).trans (((cell_far (p := ⟨gb405, _, none⟩) NB391_405.out _).trans (((cell_far (p := ⟨gb405, _, none⟩) NB391_405.out _).trans (hHeld.1)))))), ((cell_far (p := ⟨gb405, _, none⟩) NB391_405.out _).trans (((cell_far (p := ⟨gb405, _, none⟩) NB391_405.out _).trans (((cell_far (p := ⟨gb405, _, none⟩) NB391_405.out _).trans (hHeld.2.1)))))), ((cell_far (p := ⟨gb405, _, none⟩) NB391_405.out _).trans (((cell_far (p := ⟨gb405, _, none⟩) NB391_405.out _).trans (((cell_far (p := ⟨gb405, _, none⟩) NB391_405.out _).trans (hHeld.2.2))))))⟩ (fun hHeld => ?_)
     clear hK K
     refine pure_ (i := 13) (N := some 9) (v := ?_) (a' := ?_) #[true, true, true, true, true, true, true, true, true, true, true, true, true, true] rfl rfl (any_of HT_.out (by kernel_rfl)) (fun _ _ _ h => h) (Or.inl ⟨by rfl, ?_⟩) ?_ ?_
     rotate_left
     ·intro w'
      go_simp
      with_reducible rfl
     rotate_left
     ·simp only [Act.put, List.setIfInBounds_toArray, List.set_cons_zero, List.set_cons_succ, i64_w, i32_w]
      rfl
     refine done_ (done_of HT_.out (by kernel_rfl)) ?_
     try go_wp2
     have n0_ : Aside0 (Kd.R (Kd.int .i64) 3 (((w23.setCell ⟨gb405, 0, none⟩ (.slice Ao24 t395.length co24)).setCell ⟨gb405, 1, none⟩ (.slice Ao26 t398.length co26)).setCell ⟨gb405, 2, none⟩ (.slice Ao28 t401.length co28)) w.heap.size (fun k_ => some k_ ≠ (.slice Ao26 t398.length co26 : Value).ownBlock) (.slice Ao24 t395.length co24) t395) := ⟨Rm (Kd.R_mono (Kd.R_far (p := ⟨gb405, 2, none⟩) (Kd.R_far (p := ⟨gb405, 1, none⟩) (Kd.R_far (p := ⟨gb405, 0, none⟩) (Kd.R_types HO397.out BK405.out (by decide)) (fun _ hk => hk.2) (.slice Ao24 t395.length co24)) (fun _ hk => hk.2) (.slice Ao26 t398.length co26)) (fun _ hk => hk.2) (.slice Ao28 t401.length co28)) (fun _ hk => hk.1))⟩
     have n1_ : Aside0 (Kd.R (Kd.int .i64) 3 (((w23.setCell ⟨gb405, 0, none⟩ (.slice Ao24 t395.length co24)).setCell ⟨gb405, 1, none⟩ (.slice Ao26 t398.length co26)).setCell ⟨gb405, 2, none⟩ (.slice Ao28 t401.length co28)) w.heap.size (fun k_ => some k_ ≠ (.slice Ao24 t395.length co24 : Value).ownBlock) (.slice Ao26 t398.length co26) t398) := ⟨Rm (Kd.R_mono (Kd.R_far (p := ⟨gb405, 2, none⟩) (Kd.R_far (p := ⟨gb405, 1, none⟩) (Kd.R_far (p := ⟨gb405, 0, none⟩) (Kd.R_types HO400.out BK405.out (by decide)) (fun _ hk => hk.2) (.slice Ao24 t395.length co24)) (fun _ hk => hk.2) (.slice Ao26 t398.length co26)) (fun _ hk => hk.2) (.slice Ao28 t401.length co28)) (fun _ hk => hk.1))⟩
     have n2_ : Aside0 (Kd.S (Kd.slice 3 (Kd.int .i64)) 34 (((w23.setCell ⟨gb405, 0, none⟩ (.slice Ao24 t395.length co24)).setCell ⟨gb405, 1, none⟩ (.slice Ao26 t398.length co26)).setCell ⟨gb405, 2, none⟩ (.slice Ao28 t401.length co28)) w.heap.size (fun k_ => some k_ ≠ (.slice Ao24 t395.length co24 : Value).ownBlock ∧ some k_ ≠ (.slice Ao26 t398.length co26 : Value).ownBlock) (.slice Ao28 t401.length co28) t401) := ⟨Sm (Kd.S_mono (Kd.S_far (p := ⟨gb405, 2, none⟩) (Kd.S_far (p := ⟨gb405, 1, none⟩) (Kd.S_far (p := ⟨gb405, 0, none⟩) (Kd.S_types HO403.out BK405.out (by decide)) (fun _ hk => hk.2) (.slice Ao24 t395.length co24)) (fun _ hk => hk.2) (.slice Ao26 t398.length co26)) (fun _ hk => hk.2) (.slice Ao28 t401.length co28)) (fun _ hk => ⟨hk.1.1, hk.1.2⟩))⟩
     have n3_ : Aside0 ((((w23.setCell ⟨gb405, 0, none⟩ (.slice Ao24 t395.length co24)).setCell ⟨gb405, 1, none⟩ (.slice Ao26 t398.length co26)).setCell ⟨gb405, 2, none⟩ (.slice Ao28 t401.length co28)).heap[gb391]? = some (.cells #[.slice A0_0 l0_0.length c0_0, .slice A0_1 l0_1.length c0_1, .slice A0_2 l0_2.length c0_2] 53 (0, 0))) := ⟨by refine Kp ?_; refine blk_far ?_ NB391_405.out _; refine Kp ?_; refine blk_far ?_ NB391_405.out _; refine Kp ?_; refine blk_far ?_ NB391_405.out _; refine Kp ?_; exact BK391.out⟩
     have n4_ : Aside0 ((((w23.setCell ⟨gb405, 0, none⟩ (.slice Ao24 t395.length co24)).setCell ⟨gb405, 1, none⟩ (.slice Ao26 t398.length co26)).setCell ⟨gb405, 2, none⟩ (.slice Ao28 t401.length co28)).heap[gb405]? = some (.cells #[.slice Ao24 t395.length co24, .slice Ao26 t398.length co26, .slice Ao28 t401.length co28] 53 (0, 0))) := ⟨by refine Kp ?_; refine blk_put (cs := #[.slice Ao24 t395.length co24, .slice Ao26 t398.length co26, .slice none 0 0]) ?_ 2 _ rfl; refine Kp ?_; refine blk_put (cs := #[.slice Ao24 t395.length co24, .slice none 0 0, .slice none 0 0]) ?_ 1 _ rfl; refine Kp ?_; refine blk_put (cs := #[.slice none 0 0, .slice none 0 0, .slice none 0 0]) ?_ 0 _ rfl; refine Kp ?_; exact BK405.out⟩
     have n5_ : Aside0 (Below w.heap.size w (((w23.setCell ⟨gb405, 0, none⟩ (.slice Ao24 t395.length co24)).setCell ⟨gb405, 1, none⟩ (.slice Ao26 t398.length co26)).setCell ⟨gb405, 2, none⟩ (.slice Ao28 t401.length co28))) := ⟨by repeat first | exact Bl HB | refine Bp (below_set ?_ GE391.out) | refine Bp (below_set ?_ GE405.out)⟩
     (try clear HO397)
     (try clear HO400)
     (try clear HO403)
     (try clear BK391)
     (try clear BK405)
     (try clear HB)
     generalize (((w23.setCell ⟨gb405, 0, none⟩ (.slice Ao24 t395.length co24)).setCell ⟨gb405, 1, none⟩ (.slice Ao26 t398.length co26)).setCell ⟨gb405, 2, none⟩ (.slice Ao28 t401.length co28)) = w30 at n0_ n1_ n2_ n3_ n4_ n5_ ⊢
     have HO397 := n0_
     have HO400 := n1_
     have HO403 := n2_
     have BK391 := n3_
     have BK405 := n4_
     have HB := n5_
     clear n0_ n1_ n2_ n3_ n4_ n5_
     have n0_ := Am (Kd.R_drew HO397.out)
     have n1_ := Am (Kd.R_drew HO400.out)
     have n2_ := Am (Kd.S_drew HO403.out)
     have n3_ := Am (blk_drew BK391.out)
     have n4_ := Am (blk_drew BK405.out)
     have n5_ := Am (below_drew1 HB.out)
     clear HO397 HO400 HO403 BK391 BK405 HB
     have HO397 := n0_
     have HO400 := n1_
     have HO403 := n2_
     have BK391 := n3_
     have BK405 := n4_
     have HB := n5_
     clear n0_ n1_ n2_ n3_ n4_ n5_
     obtain ⟨i032, hi032, _, hsz32, _⟩ := info_parts info3
     obtain ⟨A32, hcut32, hA32, hC32⟩ := print_drop_of (P := Try.prog) (Value.int .i64) 0 34 3 .i64 Try.underlying34 hi032 hsz32 A0_0 c0_0 l0_0 (ji7) (of_decide_eq_true (by first | (with_reducible assumption) | assumption)) (of_decide_eq_true (by first | (with_reducible assumption) | assumption)) HC0_0.out
     have HR406 := Am (Kd.C_of_reads (h1 := fun _ => rfl) (hA32 _ (Kd.reads_of_C HR0_0.out)))
     have HC406 := Am hC32
     clear hA32 hC32 hi032 hsz32
     refine start_ (n := 14) (S := fun w' => w'.cell? ⟨gb391, 0, none⟩ = some (.slice A0_0 l0_0.length c0_0) ∧ w'.cell? ⟨gb391, 1, none⟩ = some (.slice A0_1 l0_1.length c0_1) ∧ w'.cell? ⟨gb391, 2, none⟩ = some (.slice A0_2 l0_2.length c0_2)) (ds := []) #[false, false, false, false, false, false, false, false, false, false, false, false, false, false] (by kernel_rfl) rfl rfl ⟨(blk_cell BK391.out 0).trans rfl, (blk_cell BK391.out 1).trans rfl, (blk_cell BK391.out 2).trans rfl⟩ (fun hHeld => ?_); refine with_tabW examboardlaw24_MatrixDivides.tab5 examboardlaw24_MatrixDivides.bits5 (fun HT_ HW_ => ?_)
     generalize w30.drew = w31 at HO397 HO400 HO403 BK391 BK405 HB HR406 hHeld ⊢
     refine pure_ (i := 1) (N := some 39) (v := ?_) (a' := ?_) #[false, true, false, false, false, false, false, false, false, false, false, false, false, false] rfl rfl (any_of HT_.out (by kernel_rfl)) (fun _ _ _ h => h) (Or.inl ⟨by rfl, ?_⟩) ?_ ?_
     rotate_left
     ·intro w'
      go_simp
      with_reducible rfl
     rotate_left
     ·simp only [Act.put, List.setIfInBounds_toArray, List.set_cons_zero, List.set_cons_succ, i64_w, i32_w]
      rfl
     refine pure_ (i := 3) (N := some 41) (v := ?_) (a' := ?_) #[false, true, false, true, false, false, false, false, false, false, false, false, false, false] rfl rfl (any_of HT_.out (by kernel_rfl)) (fun _ _ _ h => h) (Or.inl ⟨by rfl, ?_⟩) ?_ ?_
     rotate_left
     ·intro w'
      go_simp
      with_reducible rfl
     rotate_left
     ·simp only [Act.put, List.setIfInBounds_toArray, List.set_cons_zero, List.set_cons_succ, i64_w, i32_w]
      rfl
     refine pure_ (i := 5) (N := some 43) (v := ?_) (a' := ?_) #[false, true, false, true, false, true, false, false, false, false, false, false, false, false] rfl rfl (any_of HT_.out (by kernel_rfl)) (fun _ _ _ h => h) (Or.inl ⟨by rfl, ?_⟩) ?_ ?_
     rotate_left
     ·intro w'
      go_simp
      with_reducible rfl
     rotate_left
     ·simp only [Act.put, List.setIfInBounds_toArray, List.set_cons_zero, List.set_cons_succ, i64_w, i32_w]
      rfl
     refine take_ (i := 0) (N := some 38) (v := ?_) (a' := ?_) #[true, true, false, true, false, true, false, false, false, false, false, false, false, false] rfl rfl (take_ofW HT_.out HW_.out (by kernel_rfl)) (fun _ _ _ h => h) (Or.inl ⟨by rfl, ?_⟩) hHeld ?_ ?_
     rotate_left
     ·rintro w' ⟨s0, s1, s2⟩
      go_simp
      with_reducible rfl
     rotate_left
     ·simp only [Act.put, List.setIfInBounds_toArray, List.set_cons_zero, List.set_cons_succ, i64_w, i32_w]
      rfl
     refine take_ (i := 2) (N := some 40) (v := ?_) (a' := ?_) #[true, true, true, true, false, true, false, false, false, false, false, false, false, false] rfl rfl (take_ofW HT_.out HW_.out (by kernel_rfl)) (fun _ _ _ h => h) (Or.inl ⟨by rfl, ?_⟩) hHeld ?_ ?_
     rotate_left
     ·rintro w' ⟨s0, s1, s2⟩
      go_simp
      with_reducible rfl
     rotate_left
     ·simp only [Act.put, List.setIfInBounds_toArray, List.set_cons_zero, List.set_cons_succ, i64_w, i32_w]
      rfl
     refine pure_ (i := 4) (N := some 42) (v := ?_) (a' := ?_) #[true, true, true, true, true, true, false, false, false, false, false, false, false, false] rfl rfl (any_of HT_.out (by kernel_rfl)) (fun _ _ _ h => h) (Or.inl ⟨by rfl, ?_⟩) ?_ ?_
     rotate_left
     ·intro w'
      go_simp
      with_reducible rfl
     rotate_left
     ·simp only [Act.put, List.setIfInBounds_toArray, List.set_cons_zero, List.set_cons_succ, i64_w, i32_w]
      rfl
     refine take_ (i := 6) (N := some 44) (v := ?_) (a' := ?_) #[true, true, true, true, true, true, true, false, false, false, false, false, false, false] rfl rfl (take_ofW HT_.out HW_.out (by kernel_rfl)) (fun _ _ _ h => h) (Or.inl ⟨by rfl, ?_⟩) hHeld ?_ ?_
     rotate_left
     ·rintro w' ⟨s0, s1, s2⟩
      go_simp
      with_reducible rfl
     rotate_left
     ·simp only [Act.put, List.setIfInBounds_toArray, List.set_cons_zero, List.set_cons_succ, i64_w, i32_w]
      rfl
     refine join_ (σ := Value × Value × Value × Nat) 2 #[true, true, true, true, true, true, true, true, true, true, true, true, false, false] (fun s_ => [(45, .tuple #[.agg #[s_.1, s_.2.1, s_.2.2.1], .int .i64 t416]), (10, .pointer (some ⟨s_.2.2.2, 0, none⟩)), (37, .tuple #[.agg #[s_.1, s_.2.1, s_.2.2.1], .int .i64 t416]), (46, .agg #[s_.1, s_.2.1, s_.2.2.1]), (47, .int .i64 t416)]) (fun s_ w' => (w'.cell? ⟨gb391, 0, none⟩ = some (.slice A0_0 l0_0.length c0_0) ∧ w'.cell? ⟨gb391, 1, none⟩ = some (.slice A0_1 l0_1.length c0_1) ∧ w'.cell? ⟨gb391, 2, none⟩ = some (.slice A0_2 l0_2.length c0_2)) ∧ (Kd.R (Kd.int .i64) 3 w' w.heap.size (fun k_ => some k_ ≠ (.slice Ao26 t398.length co26 : Value).ownBlock ∧ some k_ ≠ (s_.1 : Value).ownBlock ∧ some k_ ≠ (s_.2.1 : Value).ownBlock) (.slice Ao24 t395.length co24) t395) ∧ (Kd.R (Kd.int .i64) 3 w' w.heap.size (fun k_ => some k_ ≠ (.slice Ao24 t395.length co24 : Value).ownBlock ∧ some k_ ≠ (s_.1 : Value).ownBlock ∧ some k_ ≠ (s_.2.1 : Value).ownBlock) (.slice Ao26 t398.length co26) t398) ∧ (Kd.S (Kd.slice 3 (Kd.int .i64)) 34 w' w.heap.size (fun k_ => some k_ ≠ (.slice Ao24 t395.length co24 : Value).ownBlock ∧ some k_ ≠ (.slice Ao26 t398.length co26 : Value).ownBlock ∧ some k_ ≠ (s_.1 : Value).ownBlock ∧ some k_ ≠ (s_.2.1 : Value).ownBlock ∧ some k_ ≠ (s_.2.2.1 : Value).ownBlock) (.slice Ao28 t401.length co28) t401) ∧ (Kd.R (Kd.int .i64) 3 w' w.heap.size (fun k_ => some k_ ≠ (.slice Ao24 t395.length co24 : Value).ownBlock ∧ some k_ ≠ (.slice Ao26 t398.length co26 : Value).ownBlock ∧ some k_ ≠ (s_.2.1 : Value).ownBlock) s_.1 t407) ∧ (Kd.R (Kd.int .i64) 3 w' w.heap.size (fun k_ => some k_ ≠ (.slice Ao24 t395.length co24 : Value).ownBlock ∧ some k_ ≠ (.slice Ao26 t398.length co26 : Value).ownBlock ∧ some k_ ≠ (s_.1 : Value).ownBlock) s_.2.1 t410) ∧ (Kd.S (Kd.slice 3 (Kd.int .i64)) 34 w' w.heap.size (fun k_ => some k_ ≠ (.slice Ao24 t395.length co24 : Value).ownBlock ∧ some k_ ≠ (.slice Ao26 t398.length co26 : Value).ownBlock ∧ some k_ ≠ (.slice Ao28 t401.length co28 : Value).ownBlock ∧ some k_ ≠ (s_.1 : Value).ownBlock ∧ some k_ ≠ (s_.2.1 : Value).ownBlock) s_.2.2.1 t413) ∧ (w'.heap[gb391]? = some (.cells #[.slice A0_0 l0_0.length c0_0, .slice A0_1 l0_1.length c0_1, .slice A0_2 l0_2.length c0_2] 53 (0, 0))) ∧ (w'.heap[gb405]? = some (.cells #[.slice Ao24 t395.length co24, .slice Ao26 t398.length co26, .slice Ao28 t401.length co28] 53 (0, 0))) ∧ (w'.heap[s_.2.2.2]? = some (.cells #[.slice none 0 0, .slice none 0 0, .slice none 0 0] 53 (0, 0))) ∧ (w.heap.size ≤ s_.2.2.2) ∧ (w.heap.size ≤ s_.2.2.2) ∧ (gb391 ≠ s_.2.2.2) ∧ (s_.2.2.2 ≠ gb391) ∧ (gb405 ≠ s_.2.2.2) ∧ (s_.2.2.2 ≠ gb405) ∧ (Below w.heap.size w w')) ?_ ?_
     rotate_left
     ·intro hCont
      refine two_ (i := 7) (j := 11) (Ni := some 45) (Nj := some 10) #[true, true, true, true, true, true, true, true, false, false, false, false, false, false] #[true, true, true, true, true, true, true, false, false, false, false, true, false, false] rfl rfl rfl rfl (two_of HT_.out (by kernel_rfl)) (by decide) (by decide) (fun K hK => ?_) (fun K hK => ?_)
      ·skip
       refine goes_ Try.func42 (by kernel_rfl) rfl #[.agg #[.slice A0_0 l0_0.length c0_0, .slice A0_1 l0_1.length c0_1, .slice A0_2 l0_2.length c0_2], .slice A32 (l0_0.drop ((ji7) : Int).toNat).length (c0_0 - (ji7).toNat), .slice A0_1 l0_1.length c0_1] (by rfl) rfl rfl (by (try simp only [List.map_toArray, List.map_cons, List.map_nil]); first | done | (rw [show (l0_0.drop ((ji7) : Int).toNat).length = (l0_0.length - (ji7).toNat) from List.length_drop] <;> rfl) | (simp only [hji7]; rfl) | rfl | (simp only [List.length_drop, List.length_take]; rfl)) ?_
       with_reducible refine (matrix_Select.calls k _ _ l0_0 _ _ l0_1 _ _ l0_2 _ _ (l0_0.drop ((ji7) : Int).toNat) _ _ l0_1 t407 t410 t413 t416 _ ?side1 ?side2 ?side3 ?side4 ?side5 ?side6 ?side7 ?side8 ?side9 ?side10 A13.out).mono ?_
       (case side1 => repeat (first | exact (Kd.C_below HR0_0.out HB.out) | (with_reducible refine Kd.C_alloc ?_ _) | (with_reducible refine Kd.C_drewN ?_ _) | (with_reducible refine Kd.C_drew ?_)))
       (case side2 => exact HC0_0.out)
       (case side3 => repeat (first | exact (Kd.C_below HR0_1.out HB.out) | (with_reducible refine Kd.C_alloc ?_ _) | (with_reducible refine Kd.C_drewN ?_ _) | (with_reducible refine Kd.C_drew ?_)))
       (case side4 => exact HC0_1.out)
       (case side5 => repeat (first | exact (Kd.C_below HR0_2.out HB.out) | (with_reducible refine Kd.C_alloc ?_ _) | (with_reducible refine Kd.C_drewN ?_ _) | (with_reducible refine Kd.C_drew ?_)))
       (case side6 => exact HC0_2.out)
       (case side7 => repeat (first | exact (Kd.C_below HR406.out HB.out) | (with_reducible refine Kd.C_alloc ?_ _) | (with_reducible refine Kd.C_drewN ?_ _) | (with_reducible refine Kd.C_drew ?_)))
       (case side8 => exact HC406.out)
       (case side9 => repeat (first | exact (Kd.C_below HR0_1.out HB.out) | (with_reducible refine Kd.C_alloc ?_ _) | (with_reducible refine Kd.C_drewN ?_ _) | (with_reducible refine Kd.C_drew ?_)))
       (case side10 => exact HC0_1.out)
       rintro e w33 ⟨v408, v411, v414, rfl, ho0, ho1, ho2, hb⟩
       refine ⟨_, rfl, ?_⟩
       have n0_ := Am (Kd.R_mono (Kd.R_told (Kd.R_told (Kd.R_old (Rl HO397) hb) (Kd.R_base ho0)) (Kd.R_base ho1)) (fun _ h_ => h_.1))
       have n1_ := Am (Kd.R_mono (Kd.R_told (Kd.R_told (Kd.R_old (Rl HO400) hb) (Kd.R_base ho0)) (Kd.R_base ho1)) (fun _ h_ => h_.1))
       have n2_ := Am (Kd.S_mono (Kd.S_told (Kd.S_told (Kd.S_told (Kd.S_old (Sl HO403) hb) (Kd.R_base ho0)) (Kd.R_base ho1)) (Kd.S_base ho2)) (fun _ h_ => h_.1))
       have n3_ := Am (Kd.R_lower (Kd.R_new' (Kd.R_new' ho0 (Rb HO397)) (Rb HO400)) (below_size (by repeat first | exact Bl HB | refine Bp (below_set ?_ GE391.out) | refine Bp (below_set ?_ GE405.out))))
       have n4_ := Am (Kd.R_lower (Kd.R_new' (Kd.R_new' ho1 (Rb HO397)) (Rb HO400)) (below_size (by repeat first | exact Bl HB | refine Bp (below_set ?_ GE391.out) | refine Bp (below_set ?_ GE405.out))))
       have n5_ := Am (Kd.S_lower (Kd.S_new' (Kd.S_new' (Kd.S_new' ho2 (Rb HO397)) (Rb HO400)) (Sb HO403)) (below_size (by repeat first | exact Bl HB | refine Bp (below_set ?_ GE391.out) | refine Bp (below_set ?_ GE405.out))))
       have n6_ := Am (blk_below (Kl BK391) hb)
       have n7_ := Am (blk_below (Kl BK405) hb)
       have n8_ := Am (below_step (by repeat first | exact Bl HB | refine Bp (below_set ?_ GE391.out) | refine Bp (below_set ?_ GE405.out)) hb)
       clear HO397 HO400 HO403 BK391 BK405 HB
       have HO397 := n0_
       have HO400 := n1_
       have HO403 := n2_
       have HO409 := n3_
       have HO412 := n4_
       have HO415 := n5_
       have BK391 := n6_
       have BK405 := n7_
       have HB := n8_
       clear n0_ n1_ n2_ n3_ n4_ n5_ n6_ n7_ n8_
       (try clear hb)
       (try clear hb2)
       (try clear hk)
       (try clear hi)
       (try clear ho0)
       (try clear ho1)
       (try clear ho2)
       refine hK.out _ _ ⟨(blk_cell BK391.out 0).trans rfl, (blk_cell BK391.out 1).trans rfl, (blk_cell BK391.out 2).trans rfl⟩ (fun hHeld => ?_)
       clear hK K
       refine norm_ (a' := ?_) ?_ ?_
       rotate_left
       ·show Act.put _ (some 45) _ = _
        simp only [Act.put, List.setIfInBounds_toArray, List.set_cons_zero, List.set_cons_succ, i64_w, i32_w]
        rfl
       refine pure_ (i := 8) (N := some 37) (v := ?_) (a' := ?_) #[true, true, true, true, true, true, true, true, true, false, false, false, false, false] rfl rfl (any_of HT_.out (by kernel_rfl)) (fun _ _ _ h => h) (Or.inl ⟨by rfl, ?_⟩) ?_ ?_
       rotate_left
       ·intro w'
        go_simp
        with_reducible rfl
       rotate_left
       ·simp only [Act.put, List.setIfInBounds_toArray, List.set_cons_zero, List.set_cons_succ, i64_w, i32_w]
        rfl
       refine pure_ (i := 9) (N := some 46) (v := ?_) (a' := ?_) #[true, true, true, true, true, true, true, true, true, true, false, false, false, false] rfl rfl (any_of HT_.out (by kernel_rfl)) (fun _ _ _ h => h) (Or.inl ⟨by rfl, ?_⟩) ?_ ?_
       rotate_left
       ·intro w'
        go_simp
        with_reducible rfl
       rotate_left
       ·simp only [Act.put, List.setIfInBounds_toArray, List.set_cons_zero, List.set_cons_succ, i64_w, i32_w]
        rfl
       refine pure_ (i := 10) (N := some 47) (v := ?_) (a' := ?_) #[true, true, true, true, true, true, true, true, true, true, true, false, false, false] rfl rfl (any_of HT_.out (by kernel_rfl)) (fun _ _ _ h => h) (Or.inl ⟨by rfl, ?_⟩) ?_ ?_
       rotate_left
       ·intro w'
        go_simp
        with_reducible rfl
       rotate_left
       ·simp only [Act.put, List.setIfInBounds_toArray, List.set_cons_zero, List.set_cons_succ, i64_w, i32_w]
        rfl
       refine one_ (i := 11) (N := some 10) #[true, true, true, true, true, true, true, true, true, true, true, true, false, false] rfl rfl (one_of HT_.out (by kernel_rfl)) (by decide) (fun K hK => ?_)
       refine box_step ?hg (N := 10) ?hd (cs := #[.slice none 0 0, .slice none 0 0, .slice none 0 0]) (t := 53) ?hr ?_; (case hd => rfl); (case hg => rfl); (case hr => first | (go_simp; done) | (go_simp; rfl))
       intro gb417 hg w34 hbox hb
       have n0_ := Am (Kd.R_below (Rl HO397) hb)
       have n1_ := Am (Kd.R_below (Rl HO400) hb)
       have n2_ := Am (Kd.S_below (Sl HO403) hb)
       have n3_ := Am (Kd.R_below (Rl HO409) hb)
       have n4_ := Am (Kd.R_below (Rl HO412) hb)
       have n5_ := Am (Kd.S_below (Sl HO415) hb)
       have n6_ := Am (blk_below (Kl BK391) hb)
       have n7_ := Am (blk_below (Kl BK405) hb)
       have n8_ := Am (below_step (by repeat first | exact Bl HB | refine Bp (below_set ?_ GE391.out) | refine Bp (below_set ?_ GE405.out)) hb)
       have n9_ := Am (hbox)
       have n10_ := Am ((by rw [hg]; exact (below_size (by repeat first | exact Bl HB | refine Bp (below_set ?_ GE391.out) | refine Bp (below_set ?_ GE405.out))) : w.heap.size ≤ gb417))
       have n11_ := Am ((by rw [hg]; exact (below_size (by repeat first | exact Bl HB | refine Bp (below_set ?_ GE391.out) | refine Bp (below_set ?_ GE405.out))) : w.heap.size ≤ gb417))
       have n12_ := Am ((by rw [hg]; exact Nat.ne_of_lt (blk_lt (Kl BK391)) : gb391 ≠ gb417))
       have n13_ := Am ((by rw [hg]; exact Nat.ne_of_gt (blk_lt (Kl BK391)) : gb417 ≠ gb391))
       have n14_ := Am ((by rw [hg]; exact Nat.ne_of_lt (blk_lt (Kl BK405)) : gb405 ≠ gb417))
       have n15_ := Am ((by rw [hg]; exact Nat.ne_of_gt (blk_lt (Kl BK405)) : gb417 ≠ gb405))
       clear HO397 HO400 HO403 HO409 HO412 HO415 BK391 BK405 HB
       have HO397 := n0_
       have HO400 := n1_
       have HO403 := n2_
       have HO409 := n3_
       have HO412 := n4_
       have HO415 := n5_
       have BK391 := n6_
       have BK405 := n7_
       have HB := n8_
       have BK417 := n9_
       have GW417 := n10_
       have GE417 := n11_
       have NB391_417 := n12_
       have NB417_391 := n13_
       have NB405_417 := n14_
       have NB417_405 := n15_
       clear n0_ n1_ n2_ n3_ n4_ n5_ n6_ n7_ n8_ n9_ n10_ n11_ n12_ n13_ n14_ n15_
       clear hb hbox hg
       refine hK.out _ _ ⟨(blk_cell BK391.out 0).trans rfl, (blk_cell BK391.out 1).trans rfl, (blk_cell BK391.out 2).trans rfl⟩ (fun hHeld => ?_)
       clear hK K
       refine norm_ (a' := ?_) ?_ ?_
       rotate_left
       ·show Act.put _ (some 10) _ = _
        simp only [Act.put, List.setIfInBounds_toArray, List.set_cons_zero, List.set_cons_succ, i64_w, i32_w]
        rfl
       exact norm_ (by simp only [putAll, Act.put, List.setIfInBounds_toArray, List.set_cons_zero, List.set_cons_succ]) (hCont (v408, v411, v414, gb417) _ ⟨hHeld, (Rm (Kd.R_mono HO397.out (fun _ hk => ⟨hk.1.1, ⟨hk.1.2, hk.2⟩⟩))), (Rm (Kd.R_mono HO400.out (fun _ hk => ⟨hk.1.1, ⟨hk.1.2, hk.2⟩⟩))), (Sm (Kd.S_mono HO403.out (fun _ hk => ⟨hk.1.1.1.1, ⟨hk.1.1.1.2, ⟨hk.1.1.2, ⟨hk.1.2, hk.2⟩⟩⟩⟩))), (Rm (Kd.R_mono HO409.out (fun _ hk => ⟨hk.1.2, ⟨hk.2, hk.1.1⟩⟩))), (Rm (Kd.R_mono HO412.out (fun _ hk => ⟨hk.1.2, ⟨hk.2, hk.1.1⟩⟩))), (Sm (Kd.S_mono HO415.out (fun _ hk => ⟨hk.1.1.2, ⟨hk.1.2, ⟨hk.2, ⟨hk.1.1.1.1, hk.1.1.1.2⟩⟩⟩⟩))), (Kl BK391), (Kl BK405), (Kl BK417), GW417.out, GE417.out, NB391_417.out, NB417_391.out, NB405_417.out, NB417_405.out, (by repeat first | exact Bl HB | refine Bp (below_set ?_ GE391.out) | refine Bp (below_set ?_ GE405.out) | refine Bp (below_set ?_ GE417.out))⟩)
      ·skip
       refine box_step ?hg (N := 10) ?hd (cs := #[.slice none 0 0, .slice none 0 0, .slice none 0 0]) (t := 53) ?hr ?_; (case hd => rfl); (case hg => rfl); (case hr => first | (go_simp; done) | (go_simp; rfl))
       intro gb417 hg w33 hbox hb
       have n0_ := Am (Kd.R_below (Rl HO397) hb)
       have n1_ := Am (Kd.R_below (Rl HO400) hb)
       have n2_ := Am (Kd.S_below (Sl HO403) hb)
       have n3_ := Am (blk_below (Kl BK391) hb)
       have n4_ := Am (blk_below (Kl BK405) hb)
       have n5_ := Am (below_step (by repeat first | exact Bl HB | refine Bp (below_set ?_ GE391.out) | refine Bp (below_set ?_ GE405.out)) hb)
       have n6_ := Am (hbox)
       have n7_ := Am ((by rw [hg]; exact (below_size (by repeat first | exact Bl HB | refine Bp (below_set ?_ GE391.out) | refine Bp (below_set ?_ GE405.out))) : w.heap.size ≤ gb417))
       have n8_ := Am ((by rw [hg]; exact (below_size (by repeat first | exact Bl HB | refine Bp (below_set ?_ GE391.out) | refine Bp (below_set ?_ GE405.out))) : w.heap.size ≤ gb417))
       have n9_ := Am ((by rw [hg]; exact Nat.ne_of_lt (blk_lt (Kl BK391)) : gb391 ≠ gb417))
       have n10_ := Am ((by rw [hg]; exact Nat.ne_of_gt (blk_lt (Kl BK391)) : gb417 ≠ gb391))
       have n11_ := Am ((by rw [hg]; exact Nat.ne_of_lt (blk_lt (Kl BK405)) : gb405 ≠ gb417))
       have n12_ := Am ((by rw [hg]; exact Nat.ne_of_gt (blk_lt (Kl BK405)) : gb417 ≠ gb405))
       clear HO397 HO400 HO403 BK391 BK405 HB
       have HO397 := n0_
       have HO400 := n1_
       have HO403 := n2_
       have BK391 := n3_
       have BK405 := n4_
       have HB := n5_
       have BK417 := n6_
       have GW417 := n7_
       have GE417 := n8_
       have NB391_417 := n9_
       have NB417_391 := n10_
       have NB405_417 := n11_
       have NB417_405 := n12_
       clear n0_ n1_ n2_ n3_ n4_ n5_ n6_ n7_ n8_ n9_ n10_ n11_ n12_
       clear hb hbox hg
       refine hK.out _ _ ⟨(blk_cell BK391.out 0).trans rfl, (blk_cell BK391.out 1).trans rfl, (blk_cell BK391.out 2).trans rfl⟩ (fun hHeld => ?_)
       clear hK K
       refine norm_ (a' := ?_) ?_ ?_
       rotate_left
       ·show Act.put _ (some 10) _ = _
        simp only [Act.put, List.setIfInBounds_toArray, List.set_cons_zero, List.set_cons_succ, i64_w, i32_w]
        rfl
       refine one_ (i := 7) (N := some 45) #[true, true, true, true, true, true, true, true, false, false, false, true, false, false] rfl rfl (one_of HT_.out (by kernel_rfl)) (by decide) (fun K hK => ?_)
       refine goes_ Try.func42 (by kernel_rfl) rfl #[.agg #[.slice A0_0 l0_0.length c0_0, .slice A0_1 l0_1.length c0_1, .slice A0_2 l0_2.length c0_2], .slice A32 (l0_0.drop ((ji7) : Int).toNat).length (c0_0 - (ji7).toNat), .slice A0_1 l0_1.length c0_1] (by rfl) rfl rfl (by (try simp only [List.map_toArray, List.map_cons, List.map_nil]); first | done | (rw [show (l0_0.drop ((ji7) : Int).toNat).length = (l0_0.length - (ji7).toNat) from List.length_drop] <;> rfl) | (simp only [hji7]; rfl) | rfl | (simp only [List.length_drop, List.length_take]; rfl)) ?_
       with_reducible refine (matrix_Select.calls k _ _ l0_0 _ _ l0_1 _ _ l0_2 _ _ (l0_0.drop ((ji7) : Int).toNat) _ _ l0_1 t407 t410 t413 t416 _ ?side1 ?side2 ?side3 ?side4 ?side5 ?side6 ?side7 ?side8 ?side9 ?side10 A13.out).mono ?_
       (case side1 => repeat (first | exact (Kd.C_below HR0_0.out HB.out) | (with_reducible refine Kd.C_alloc ?_ _) | (with_reducible refine Kd.C_drewN ?_ _) | (with_reducible refine Kd.C_drew ?_)))
       (case side2 => exact HC0_0.out)
       (case side3 => repeat (first | exact (Kd.C_below HR0_1.out HB.out) | (with_reducible refine Kd.C_alloc ?_ _) | (with_reducible refine Kd.C_drewN ?_ _) | (with_reducible refine Kd.C_drew ?_)))
       (case side4 => exact HC0_1.out)
       (case side5 => repeat (first | exact (Kd.C_below HR0_2.out HB.out) | (with_reducible refine Kd.C_alloc ?_ _) | (with_reducible refine Kd.C_drewN ?_ _) | (with_reducible refine Kd.C_drew ?_)))
       (case side6 => exact HC0_2.out)
       (case side7 => repeat (first | exact (Kd.C_below HR406.out HB.out) | (with_reducible refine Kd.C_alloc ?_ _) | (with_reducible refine Kd.C_drewN ?_ _) | (with_reducible refine Kd.C_drew ?_)))
       (case side8 => exact HC406.out)
       (case side9 => repeat (first | exact (Kd.C_below HR0_1.out HB.out) | (with_reducible refine Kd.C_alloc ?_ _) | (with_reducible refine Kd.C_drewN ?_ _) | (with_reducible refine Kd.C_drew ?_)))
       (case side10 => exact HC0_1.out)
       rintro e w34 ⟨v408, v411, v414, rfl, ho0, ho1, ho2, hb⟩
       refine ⟨_, rfl, ?_⟩
       have n0_ := Am (Kd.R_mono (Kd.R_told (Kd.R_told (Kd.R_old (Rl HO397) hb) (Kd.R_base ho0)) (Kd.R_base ho1)) (fun _ h_ => h_.1))
       have n1_ := Am (Kd.R_mono (Kd.R_told (Kd.R_told (Kd.R_old (Rl HO400) hb) (Kd.R_base ho0)) (Kd.R_base ho1)) (fun _ h_ => h_.1))
       have n2_ := Am (Kd.S_mono (Kd.S_told (Kd.S_told (Kd.S_told (Kd.S_old (Sl HO403) hb) (Kd.R_base ho0)) (Kd.R_base ho1)) (Kd.S_base ho2)) (fun _ h_ => h_.1))
       have n3_ := Am (Kd.R_lower (Kd.R_new' (Kd.R_new' ho0 (Rb HO397)) (Rb HO400)) (below_size (by repeat first | exact Bl HB | refine Bp (below_set ?_ GE391.out) | refine Bp (below_set ?_ GE405.out) | refine Bp (below_set ?_ GE417.out))))
       have n4_ := Am (Kd.R_lower (Kd.R_new' (Kd.R_new' ho1 (Rb HO397)) (Rb HO400)) (below_size (by repeat first | exact Bl HB | refine Bp (below_set ?_ GE391.out) | refine Bp (below_set ?_ GE405.out) | refine Bp (below_set ?_ GE417.out))))
       have n5_ := Am (Kd.S_lower (Kd.S_new' (Kd.S_new' (Kd.S_new' ho2 (Rb HO397)) (Rb HO400)) (Sb HO403)) (below_size (by repeat first | exact Bl HB | refine Bp (below_set ?_ GE391.out) | refine Bp (below_set ?_ GE405.out) | refine Bp (below_set ?_ GE417.out))))
       have n6_ := Am (blk_below (Kl BK391) hb)
       have n7_ := Am (blk_below (Kl BK405) hb)
       have n8_ := Am (blk_below (Kl BK417) hb)
       have n9_ := Am (below_step (by repeat first | exact Bl HB | refine Bp (below_set ?_ GE391.out) | refine Bp (below_set ?_ GE405.out) | refine Bp (below_set ?_ GE417.out)) hb)
       clear HO397 HO400 HO403 BK391 BK405 BK417 HB
       have HO397 := n0_
       have HO400 := n1_
       have HO403 := n2_
       have HO409 := n3_
       have HO412 := n4_
       have HO415 := n5_
       have BK391 := n6_
       have BK405 := n7_
       have BK417 := n8_
       have HB := n9_
       clear n0_ n1_ n2_ n3_ n4_ n5_ n6_ n7_ n8_ n9_
       (try clear hb)
       (try clear hb2)
       (try clear hk)
       (try clear hi)
       (try clear ho0)
       (try clear ho1)
       (try clear ho2)
       refine hK.out _ _ ⟨(blk_cell BK391.out 0).trans rfl, (blk_cell BK391.out 1).trans rfl, (blk_cell BK391.out 2).trans rfl⟩ (fun hHeld => ?_)
       clear hK K
       refine norm_ (a' := ?_) ?_ ?_
       rotate_left
       ·show Act.put _ (some 45) _ = _
        simp only [Act.put, List.setIfInBounds_toArray, List.set_cons_zero, List.set_cons_succ, i64_w, i32_w]
        rfl
       refine pure_ (i := 8) (N := some 37) (v := ?_) (a' := ?_) #[true, true, true, true, true, true, true, true, true, false, false, true, false, false] rfl rfl (any_of HT_.out (by kernel_rfl)) (fun _ _ _ h => h) (Or.inl ⟨by rfl, ?_⟩) ?_ ?_
       rotate_left
       ·intro w'
        go_simp
        with_reducible rfl
       rotate_left
       ·simp only [Act.put, List.setIfInBounds_toArray, List.set_cons_zero, List.set_cons_succ, i64_w, i32_w]
        rfl
       refine pure_ (i := 9) (N := some 46) (v := ?_) (a' := ?_) #[true, true, true, true, true, true, true, true, true, true, false, true, false, false] rfl rfl (any_of HT_.out (by kernel_rfl)) (fun _ _ _ h => h) (Or.inl ⟨by rfl, ?_⟩) ?_ ?_
       rotate_left
       ·intro w'
        go_simp
        with_reducible rfl
       rotate_left
       ·simp only [Act.put, List.setIfInBounds_toArray, List.set_cons_zero, List.set_cons_succ, i64_w, i32_w]
        rfl
       refine pure_ (i := 10) (N := some 47) (v := ?_) (a' := ?_) #[true, true, true, true, true, true, true, true, true, true, true, true, false, false] rfl rfl (any_of HT_.out (by kernel_rfl)) (fun _ _ _ h => h) (Or.inl ⟨by rfl, ?_⟩) ?_ ?_
       rotate_left
       ·intro w'
        go_simp
        with_reducible rfl
       rotate_left
       ·simp only [Act.put, List.setIfInBounds_toArray, List.set_cons_zero, List.set_cons_succ, i64_w, i32_w]
        rfl
       exact norm_ (by simp only [putAll, Act.put, List.setIfInBounds_toArray, List.set_cons_zero, List.set_cons_succ]) (hCont (v408, v411, v414, gb417) _ ⟨hHeld, (Rm (Kd.R_mono HO397.out (fun _ hk => ⟨hk.1.1, ⟨hk.1.2, hk.2⟩⟩))), (Rm (Kd.R_mono HO400.out (fun _ hk => ⟨hk.1.1, ⟨hk.1.2, hk.2⟩⟩))), (Sm (Kd.S_mono HO403.out (fun _ hk => ⟨hk.1.1.1.1, ⟨hk.1.1.1.2, ⟨hk.1.1.2, ⟨hk.1.2, hk.2⟩⟩⟩⟩))), (Rm (Kd.R_mono HO409.out (fun _ hk => ⟨hk.1.2, ⟨hk.2, hk.1.1⟩⟩))), (Rm (Kd.R_mono HO412.out (fun _ hk => ⟨hk.1.2, ⟨hk.2, hk.1.1⟩⟩))), (Sm (Kd.S_mono HO415.out (fun _ hk => ⟨hk.1.1.2, ⟨hk.1.2, ⟨hk.2, ⟨hk.1.1.1.1, hk.1.1.1.2⟩⟩⟩⟩))), (Kl BK391), (Kl BK405), (Kl BK417), GW417.out, GE417.out, NB391_417.out, NB417_391.out, NB405_417.out, NB417_405.out, (by repeat first | exact Bl HB | refine Bp (below_set ?_ GE391.out) | refine Bp (below_set ?_ GE405.out) | refine Bp (below_set ?_ GE417.out))⟩)
     rintro ⟨v408, v411, v414, gb417⟩ w35 ⟨hS_, h0_, h1_, h2_, h3_, h4_, h5_, h6_, h7_, h8_, h9_, h10_, h11_, h12_, h13_, h14_, h15_⟩
     have n0_ : Aside0 (Kd.R (Kd.int .i64) 3 w35 w.heap.size (fun k_ => some k_ ≠ (.slice Ao26 t398.length co26 : Value).ownBlock ∧ some k_ ≠ (v408 : Value).ownBlock ∧ some k_ ≠ (v411 : Value).ownBlock) (.slice Ao24 t395.length co24) t395) := ⟨h0_⟩
     have n1_ : Aside0 (Kd.R (Kd.int .i64) 3 w35 w.heap.size (fun k_ => some k_ ≠ (.slice Ao24 t395.length co24 : Value).ownBlock ∧ some k_ ≠ (v408 : Value).ownBlock ∧ some k_ ≠ (v411 : Value).ownBlock) (.slice Ao26 t398.length co26) t398) := ⟨h1_⟩
     have n2_ : Aside0 (Kd.S (Kd.slice 3 (Kd.int .i64)) 34 w35 w.heap.size (fun k_ => some k_ ≠ (.slice Ao24 t395.length co24 : Value).ownBlock ∧ some k_ ≠ (.slice Ao26 t398.length co26 : Value).ownBlock ∧ some k_ ≠ (v408 : Value).ownBlock ∧ some k_ ≠ (v411 : Value).ownBlock ∧ some k_ ≠ (v414 : Value).ownBlock) (.slice Ao28 t401.length co28) t401) := ⟨h2_⟩
     have n3_ : Aside0 (Kd.R (Kd.int .i64) 3 w35 w.heap.size (fun k_ => some k_ ≠ (.slice Ao24 t395.length co24 : Value).ownBlock ∧ some k_ ≠ (.slice Ao26 t398.length co26 : Value).ownBlock ∧ some k_ ≠ (v411 : Value).ownBlock) v408 t407) := ⟨h3_⟩
     have n4_ : Aside0 (Kd.R (Kd.int .i64) 3 w35 w.heap.size (fun k_ => some k_ ≠ (.slice Ao24 t395.length co24 : Value).ownBlock ∧ some k_ ≠ (.slice Ao26 t398.length co26 : Value).ownBlock ∧ some k_ ≠ (v408 : Value).ownBlock) v411 t410) := ⟨h4_⟩
     have n5_ : Aside0 (Kd.S (Kd.slice 3 (Kd.int .i64)) 34 w35 w.heap.size (fun k_ => some k_ ≠ (.slice Ao24 t395.length co24 : Value).ownBlock ∧ some k_ ≠ (.slice Ao26 t398.length co26 : Value).ownBlock ∧ some k_ ≠ (.slice Ao28 t401.length co28 : Value).ownBlock ∧ some k_ ≠ (v408 : Value).ownBlock ∧ some k_ ≠ (v411 : Value).ownBlock) v414 t413) := ⟨h5_⟩
     have n6_ : Aside0 (w35.heap[gb391]? = some (.cells #[.slice A0_0 l0_0.length c0_0, .slice A0_1 l0_1.length c0_1, .slice A0_2 l0_2.length c0_2] 53 (0, 0))) := ⟨h6_⟩
     have n7_ : Aside0 (w35.heap[gb405]? = some (.cells #[.slice Ao24 t395.length co24, .slice Ao26 t398.length co26, .slice Ao28 t401.length co28] 53 (0, 0))) := ⟨h7_⟩
     have n8_ : Aside0 (w35.heap[gb417]? = some (.cells #[.slice none 0 0, .slice none 0 0, .slice none 0 0] 53 (0, 0))) := ⟨h8_⟩
     have n9_ : Aside0 (w.heap.size ≤ gb417) := ⟨h9_⟩
     have n10_ : Aside0 (w.heap.size ≤ gb417) := ⟨h10_⟩
     have n11_ : Aside0 (gb391 ≠ gb417) := ⟨h11_⟩
     have n12_ : Aside0 (gb417 ≠ gb391) := ⟨h12_⟩
     have n13_ : Aside0 (gb405 ≠ gb417) := ⟨h13_⟩
     have n14_ : Aside0 (gb417 ≠ gb405) := ⟨h14_⟩
     have n15_ : Aside0 (Below w.heap.size w w35) := ⟨h15_⟩
     clear HO397 HO400 HO403 BK391 BK405 HB
     clear h0_ h1_ h2_ h3_ h4_ h5_ h6_ h7_ h8_ h9_ h10_ h11_ h12_ h13_ h14_ h15_
     have HO397 := n0_
     have HO400 := n1_
     have HO403 := n2_
     have HO409 := n3_
     have HO412 := n4_
     have HO415 := n5_
     have BK391 := n6_
     have BK405 := n7_
     have BK417 := n8_
     have GW417 := n9_
     have GE417 := n10_
     have NB391_417 := n11_
     have NB417_391 := n12_
     have NB405_417 := n13_
     have NB417_405 := n14_
     have HB := n15_
     clear n0_ n1_ n2_ n3_ n4_ n5_ n6_ n7_ n8_ n9_ n10_ n11_ n12_ n13_ n14_ n15_
     have hHeld : w35.cell? ⟨gb391, 0, none⟩ = some (.slice A0_0 l0_0.length c0_0) ∧ w35.cell? ⟨gb391, 1, none⟩ = some (.slice A0_1 l0_1.length c0_1) ∧ w35.cell? ⟨gb391, 2, none⟩ = some (.slice A0_2 l0_2.length c0_2) := hS_
     obtain ⟨Ao36, co36, eo36⟩ := Kd.R_slice HO409.out
     (first | subst eo36 | (injection eo36 with f1_ f2_ f3_; have f4_ := f1_.symm; have f5_ := f3_.symm; clear f1_ f2_ f3_; subst f4_; subst f5_))
     obtain ⟨Ao38, co38, eo38⟩ := Kd.R_slice HO412.out
     (first | subst eo38 | (injection eo38 with f1_ f2_ f3_; have f4_ := f1_.symm; have f5_ := f3_.symm; clear f1_ f2_ f3_; subst f4_; subst f5_))
     obtain ⟨Ao40, co40, eo40⟩ := Kd.S_slice HO415.out
     (first | subst eo40 | (injection eo40 with f1_ f2_ f3_; have f4_ := f1_.symm; have f5_ := f3_.symm; clear f1_ f2_ f3_; subst f4_; subst f5_))
     refine norm_ (a' := ?_) ?_ ?_
     rotate_left
     ·simp only [putAll, Act.put, List.setIfInBounds_toArray, List.set_cons_zero, List.set_cons_succ]
      rfl
     refine one_ (i := 12) (N := none) #[true, true, true, true, true, true, true, true, true, true, true, true, true, false] rfl rfl (one_of HT_.out (by kernel_rfl)) (by decide) (fun K hK => ?_)
     have hs37 : w35.cell? ⟨gb417, 0, none⟩ = some (.slice none 0 0) := (blk_cell BK417.out 0).trans rfl
     have hfs37 := blk_frozen BK417.out 0
     have hns37_0 := NB391_417.out
     have hns37_1 := NB405_417.out
     have hms37_0 := NB417_391.out
     have hms37_1 := NB417_405.out
     have hs39 : w35.cell? ⟨gb417, 1, none⟩ = some (.slice none 0 0) := (blk_cell BK417.out 1).trans rfl
     have hfs39 := blk_frozen BK417.out 1
     have hns39_0 := NB391_417.out
     have hns39_1 := NB405_417.out
     have hms39_0 := NB417_391.out
     have hms39_1 := NB417_405.out
     have hs41 : w35.cell? ⟨gb417, 2, none⟩ = some (.slice none 0 0) := (blk_cell BK417.out 2).trans rfl
     have hfs41 := blk_frozen BK417.out 2
     have hns41_0 := NB391_417.out
     have hns41_1 := NB405_417.out
     have hms41_0 := NB417_391.out
     have hms41_1 := NB417_405.out
     refine skip_ (w1 := ?_) (by rfl) rfl ?_ ?_
     rotate_left
     ·go_simp
      rfl
     refine hK.out _ _ ⟨((cell_far (p := ⟨gb417, _, none⟩) NB391_417.out _).trans (((cell_far (p := ⟨gb417, _, none⟩) NB391_417.out _).trans (((cell_far (p := ⟨gb417, _, none⟩) NB391_417.out _).trans (hHeld.1)))))), ((cell_far (p := ⟨gb417, _, none⟩) NB391_417.out _).trans (((cell_far (p := ⟨gb417, _, none⟩) NB391_417.out _).trans (((cell_far (p := ⟨gb417, _, none⟩) NB391_417.out _).trans (hHeld.2.1)))))), ((cell_far (p := ⟨gb417, _, none⟩) NB391_417.out _).trans (((cell_far (p := ⟨gb417, _, none⟩) NB391_417.out _).trans (((cell_far (p := ⟨gb417, _, none⟩) NB391_417.out _).trans (hHeld.2.2))))))⟩ (fun hHeld => ?_)
     clear hK K
     refine pure_ (i := 13) (N := some 11) (v := ?_) (a' := ?_) #[true, true, true, true, true, true, true, true, true, true, true, true, true, true] rfl rfl (any_of HT_.out (by kernel_rfl)) (fun _ _ _ h => h) (Or.inl ⟨by rfl, ?_⟩) ?_ ?_
     rotate_left
     ·intro w'
      go_simp
      with_reducible rfl
     rotate_left
     ·simp only [Act.put, List.setIfInBounds_toArray, List.set_cons_zero, List.set_cons_succ, i64_w, i32_w]
      rfl
     refine done_ (done_of HT_.out (by kernel_rfl)) ?_
     go_upto_region 6 with (fail)
     go_cut [60] (fun v60 wc => ∃ (kq : Nat) (x60_13 : Bool), v60 = .bool x60_13 ∧ Aside0 (examboardlaw24_MatrixDivides.j0 kq l1 x60_13 l0_0 l0_1 l0_2 t395 t398 t401 t407 t410 t413 = some r) ∧ Aside0 (kq ≤ k) ∧ Aside0 (Kd.R (Kd.int .i64) 3 wc w.heap.size (fun k_ => some k_ ≠ ((.slice Ao26 t398.length co26) : Value).ownBlock ∧ some k_ ≠ ((.slice Ao36 t407.length co36) : Value).ownBlock ∧ some k_ ≠ ((.slice Ao38 t410.length co38) : Value).ownBlock) (.slice Ao24 t395.length co24) t395) ∧ Aside0 (Kd.R (Kd.int .i64) 3 wc w.heap.size (fun k_ => some k_ ≠ ((.slice Ao24 t395.length co24) : Value).ownBlock ∧ some k_ ≠ ((.slice Ao36 t407.length co36) : Value).ownBlock ∧ some k_ ≠ ((.slice Ao38 t410.length co38) : Value).ownBlock) (.slice Ao26 t398.length co26) t398) ∧ Aside0 (Kd.S (Kd.slice 3 (Kd.int .i64)) 34 wc w.heap.size (fun k_ => some k_ ≠ ((.slice Ao24 t395.length co24) : Value).ownBlock ∧ some k_ ≠ ((.slice Ao26 t398.length co26) : Value).ownBlock ∧ some k_ ≠ ((.slice Ao36 t407.length co36) : Value).ownBlock ∧ some k_ ≠ ((.slice Ao38 t410.length co38) : Value).ownBlock ∧ some k_ ≠ ((.slice Ao40 t413.length co40) : Value).ownBlock) (.slice Ao28 t401.length co28) t401) ∧ Aside0 (Kd.R (Kd.int .i64) 3 wc w.heap.size (fun k_ => some k_ ≠ ((.slice Ao24 t395.length co24) : Value).ownBlock ∧ some k_ ≠ ((.slice Ao26 t398.length co26) : Value).ownBlock ∧ some k_ ≠ ((.slice Ao38 t410.length co38) : Value).ownBlock) (.slice Ao36 t407.length co36) t407) ∧ Aside0 (Kd.R (Kd.int .i64) 3 wc w.heap.size (fun k_ => some k_ ≠ ((.slice Ao24 t395.length co24) : Value).ownBlock ∧ some k_ ≠ ((.slice Ao26 t398.length co26) : Value).ownBlock ∧ some k_ ≠ ((.slice Ao36 t407.length co36) : Value).ownBlock) (.slice Ao38 t410.length co38) t410) ∧ Aside0 (Kd.S (Kd.slice 3 (Kd.int .i64)) 34 wc w.heap.size (fun k_ => some k_ ≠ ((.slice Ao24 t395.length co24) : Value).ownBlock ∧ some k_ ≠ ((.slice Ao26 t398.length co26) : Value).ownBlock ∧ some k_ ≠ ((.slice Ao28 t401.length co28) : Value).ownBlock ∧ some k_ ≠ ((.slice Ao36 t407.length co36) : Value).ownBlock ∧ some k_ ≠ ((.slice Ao38 t410.length co38) : Value).ownBlock) (.slice Ao40 t413.length co40) t413) ∧ Aside0 (wc.heap[gb391]? = some (.cells #[(.slice A0_0 l0_0.length c0_0), (.slice A0_1 l0_1.length c0_1), (.slice A0_2 l0_2.length c0_2)] 53 (0, 0))) ∧ Aside0 (wc.heap[gb405]? = some (.cells #[(.slice Ao24 t395.length co24), (.slice Ao26 t398.length co26), (.slice Ao28 t401.length co28)] 53 (0, 0))) ∧ Aside0 (wc.heap[gb417]? = some (.cells #[(.slice Ao36 t407.length co36), (.slice Ao38 t410.length co38), (.slice Ao40 t413.length co40)] 53 (0, 0))) ∧ Aside0 (Below w.heap.size w wc))
     case first =>
      have H := HC14.out
      clear HC14
      by_cases c42 : t404 = 0
      ·rw [if_pos c42] at H
       have c42b0 : (t404 == 0) = true := beq_iff_eq.mpr c42
       have c42b1 : (t404 != 0) = false := bne_eq_false_iff_eq.mpr c42
       clear c42
       (first | rw [c42b0] | (simp only [i64_w, i32_w]; rw [c42b0]) | skip)
       by_cases c43 : t416 = 0
       ·rw [if_pos c43] at H
        have c43b0 : (t416 == 0) = true := beq_iff_eq.mpr c43
        have c43b1 : (t416 != 0) = false := bne_eq_false_iff_eq.mpr c43
        clear c43
        have H' := Am H
        clear H
        have hnb44 := NB405_391.out
        have hnc44 := NB391_405.out
        have hnb45 := NB405_417.out
        have hnc45 := NB417_405.out
        have hcz46_0 : w35.cell? ⟨gb405, 0, none⟩ = some (.slice Ao24 t395.length co24) := (blk_cell BK405.out 0).trans rfl
        have hcz46_1 : w35.cell? ⟨gb405, 1, none⟩ = some (.slice Ao26 t398.length co26) := (blk_cell BK405.out 1).trans rfl
        have hcz46_2 : w35.cell? ⟨gb405, 2, none⟩ = some (.slice Ao28 t401.length co28) := (blk_cell BK405.out 2).trans rfl
        have hfz46_0 := blk_frozen BK405.out 0
        have hfz46_1 := blk_frozen BK405.out 1
        have hfz46_2 := blk_frozen BK405.out 2
        go_wp2
        go_meet
        case rel => exact ⟨_, (((t395.length : Int) != (ji7))), (by first | rfl | (simp; done) | (simp only [← hji7] <;> (first | rfl | simp)) | (simp [*]; done)), H', ⟨by first | omega | exact Nat.le_refl _⟩, ⟨Rm (Kd.R_mono (Kd.R_far (p := ⟨gb417, 2, none⟩) (Kd.R_far (p := ⟨gb417, 1, none⟩) (Kd.R_far (p := ⟨gb417, 0, none⟩) (Kd.R_types HO397.out BK417.out (by decide)) (fun _ hk => hk.2) (.slice Ao36 t407.length co36)) (fun _ hk => hk.2) (.slice Ao38 t410.length co38)) (fun _ hk => hk.2) (.slice Ao40 t413.length co40)) (fun _ hk => ⟨hk.1.1, ⟨hk.1.2.1, hk.1.2.2⟩⟩))⟩, ⟨Rm (Kd.R_mono (Kd.R_far (p := ⟨gb417, 2, none⟩) (Kd.R_far (p := ⟨gb417, 1, none⟩) (Kd.R_far (p := ⟨gb417, 0, none⟩) (Kd.R_types HO400.out BK417.out (by decide)) (fun _ hk => hk.2) (.slice Ao36 t407.length co36)) (fun _ hk => hk.2) (.slice Ao38 t410.length co38)) (fun _ hk => hk.2) (.slice Ao40 t413.length co40)) (fun _ hk => ⟨hk.1.1, ⟨hk.1.2.1, hk.1.2.2⟩⟩))⟩, ⟨Sm (Kd.S_mono (Kd.S_far (p := ⟨gb417, 2, none⟩) (Kd.S_far (p := ⟨gb417, 1, none⟩) (Kd.S_far (p := ⟨gb417, 0, none⟩) (Kd.S_types HO403.out BK417.out (by decide)) (fun _ hk => hk.2) (.slice Ao36 t407.length co36)) (fun _ hk => hk.2) (.slice Ao38 t410.length co38)) (fun _ hk => hk.2) (.slice Ao40 t413.length co40)) (fun _ hk => ⟨hk.1.1, ⟨hk.1.2.1, ⟨hk.1.2.2.1, ⟨hk.1.2.2.2.1, hk.1.2.2.2.2⟩⟩⟩⟩))⟩, ⟨Rm (Kd.R_mono (Kd.R_far (p := ⟨gb417, 2, none⟩) (Kd.R_far (p := ⟨gb417, 1, none⟩) (Kd.R_far (p := ⟨gb417, 0, none⟩) (Kd.R_types HO409.out BK417.out (by decide)) (fun _ hk => hk.2) (.slice Ao36 t407.length co36)) (fun _ hk => hk.2) (.slice Ao38 t410.length co38)) (fun _ hk => hk.2) (.slice Ao40 t413.length co40)) (fun _ hk => ⟨hk.1.1, ⟨hk.1.2.1, hk.1.2.2⟩⟩))⟩, ⟨Rm (Kd.R_mono (Kd.R_far (p := ⟨gb417, 2, none⟩) (Kd.R_far (p := ⟨gb417, 1, none⟩) (Kd.R_far (p := ⟨gb417, 0, none⟩) (Kd.R_types HO412.out BK417.out (by decide)) (fun _ hk => hk.2) (.slice Ao36 t407.length co36)) (fun _ hk => hk.2) (.slice Ao38 t410.length co38)) (fun _ hk => hk.2) (.slice Ao40 t413.length co40)) (fun _ hk => ⟨hk.1.1, ⟨hk.1.2.1, hk.1.2.2⟩⟩))⟩, ⟨Sm (Kd.S_mono (Kd.S_far (p := ⟨gb417, 2, none⟩) (Kd.S_far (p := ⟨gb417, 1, none⟩) (Kd.S_far (p := ⟨gb417, 0, none⟩) (Kd.S_types HO415.out BK417.out (by decide)) (fun _ hk => hk.2) (.slice Ao36 t407.length co36)) (fun _ hk => hk.2) (.slice Ao38 t410.length co38)) (fun _ hk => hk.2) (.slice Ao40 t413.length co40)) (fun _ hk => ⟨hk.1.1, ⟨hk.1.2.1, ⟨hk.1.2.2.1, ⟨hk.1.2.2.2.1, hk.1.2.2.2.2⟩⟩⟩⟩))⟩, ⟨by refine Kp ?_; refine blk_far ?_ NB391_417.out _; refine Kp ?_; refine blk_far ?_ NB391_417.out _; refine Kp ?_; refine blk_far ?_ NB391_417.out _; refine Kp ?_; exact BK391.out⟩, ⟨by refine Kp ?_; refine blk_far ?_ NB405_417.out _; refine Kp ?_; refine blk_far ?_ NB405_417.out _; refine Kp ?_; refine blk_far ?_ NB405_417.out _; refine Kp ?_; exact BK405.out⟩, ⟨by refine Kp ?_; refine blk_put (cs := #[.slice Ao36 t407.length co36, .slice Ao38 t410.length co38, .slice none 0 0]) ?_ 2 _ rfl; refine Kp ?_; refine blk_put (cs := #[.slice Ao36 t407.length co36, .slice none 0 0, .slice none 0 0]) ?_ 1 _ rfl; refine Kp ?_; refine blk_put (cs := #[.slice none 0 0, .slice none 0 0, .slice none 0 0]) ?_ 0 _ rfl; refine Kp ?_; exact BK417.out⟩, ⟨by repeat first | exact Bl HB | refine Bp (below_set ?_ GE391.out) | refine Bp (below_set ?_ GE405.out) | refine Bp (below_set ?_ GE417.out)⟩⟩
       ·rw [if_neg c43] at H
        exact absurd H (by simp)
      ·rw [if_neg c42] at H
       exact absurd H (by simp)
     case rest =>
      clear HC14
      try clear p2
      try clear c4
      try clear c42
      try clear c42b0
      try clear c42b1
      try clear c43
      try clear c43b0
      try clear c43b1
      try clear c44
      try clear c45
      try clear hcz46_0
      try clear hcz46_1
      try clear hcz46_2
      try clear hfz46_0
      try clear hfz46_1
      try clear hfz46_2
      obtain ⟨kq, x60_13, rfl, HA, HJ13, HO_406000, HO_406001, HO_406002, HO_418000, HO_418001, HO_418002, BK391, BK405, BK417, HB⟩ := hcut
      cases kq with
      | zero => exact absurd HA.out (by simp [examboardlaw24_MatrixDivides.j0])
      | succ kj13 =>
       have H := HA.out
       clear HA
       simp only [examboardlaw24_MatrixDivides.j0] at H
       by_cases c47 : x60_13 = true
       ·subst c47
        have H1 : (none) = some r := by rw [if_pos rfl] at H; exact H
        clear H
        have H := H1
        clear H1
        exact absurd H (by simp)
       ·replace c47 := Bool.eq_false_iff.mpr c47
        subst c47
        have H1 : ((matrix_Merge.f kj13 t395 t398 t401 t407 t410 t413).bind fun bt418 => (if bt418.2.2.2 = 0 then ((examboardlaw24_same.f kj13 bt418.1 bt418.2.1 bt418.2.2.1 l0_0 l0_1 l0_2).bind fun t429 => (if t429 = true then ((matrix_Valid.f kj13 t395 t398 t401 l1).bind fun t430 => (if t430 = 0 then ((examboardlaw24_awake.f kj13).bind fun t431 => (some t431)) else (none))) else (none))) else (none))) = some r := by rw [if_neg (show ¬ (false = true) by decide)] at H; exact H
        clear H
        have H := H1
        clear H1
        replace H := Option.bind_eq_some_iff.mp H
        obtain ⟨⟨t418, t421, t424, t427⟩, A480, H⟩ := H
        replace H : (if t427 = 0 then ((examboardlaw24_same.f kj13 t418 t421 t424 l0_0 l0_1 l0_2).bind fun t429 => (if t429 = true then ((matrix_Valid.f kj13 t395 t398 t401 l1).bind fun t430 => (if t430 = 0 then ((examboardlaw24_awake.f kj13).bind fun t431 => (some t431)) else (none))) else (none))) else (none)) = some r := H
        have A48 := Am A480
        clear A480
        by_cases c49 : t427 = 0
        ·rw [if_pos c49] at H
         have c49b0 : (t427 == 0) = true := beq_iff_eq.mpr c49
         have c49b1 : (t427 != 0) = false := bne_eq_false_iff_eq.mpr c49
         clear c49
         replace H := Option.bind_eq_some_iff.mp H
         obtain ⟨t429, A500, H⟩ := H
         replace H : (if t429 = true then ((matrix_Valid.f kj13 t395 t398 t401 l1).bind fun t430 => (if t430 = 0 then ((examboardlaw24_awake.f kj13).bind fun t431 => (some t431)) else (none))) else (none)) = some r := H
         have A50 := Am A500
         clear A500
         by_cases c51 : t429 = true
         ·subst c51
          have H1 : ((matrix_Valid.f kj13 t395 t398 t401 l1).bind fun t430 => (if t430 = 0 then ((examboardlaw24_awake.f kj13).bind fun t431 => (some t431)) else (none))) = some r := by rw [if_pos rfl] at H; exact H
          clear H
          have H := H1
          clear H1
          replace H := Option.bind_eq_some_iff.mp H
          obtain ⟨t430, A520, H⟩ := H
          replace H : (if t430 = 0 then ((examboardlaw24_awake.f kj13).bind fun t431 => (some t431)) else (none)) = some r := H
          have A52 := Am A520
          clear A520
          by_cases c53 : t430 = 0
          ·rw [if_pos c53] at H
           have c53b0 : (t430 == 0) = true := beq_iff_eq.mpr c53
           have c53b1 : (t430 != 0) = false := bne_eq_false_iff_eq.mpr c53
           clear c53
           replace H := Option.bind_eq_some_iff.mp H
           obtain ⟨t431, A540, H⟩ := H
           replace H : (some t431) = some r := H
           have A54 := Am A540
           clear A540
           obtain rfl := Option.some.inj H
           have hnb55 := NB405_391.out
           have hnc55 := NB391_405.out
           have hnb56 := NB405_417.out
           have hnc56 := NB417_405.out
           have hcz57_0 : wc.cell? ⟨gb405, 0, none⟩ = some (.slice Ao24 t395.length co24) := (blk_cell BK405.out 0).trans rfl
           have hcz57_1 : wc.cell? ⟨gb405, 1, none⟩ = some (.slice Ao26 t398.length co26) := (blk_cell BK405.out 1).trans rfl
           have hcz57_2 : wc.cell? ⟨gb405, 2, none⟩ = some (.slice Ao28 t401.length co28) := (blk_cell BK405.out 2).trans rfl
           have hfz57_0 := blk_frozen BK405.out 0
           have hfz57_1 := blk_frozen BK405.out 1
           have hfz57_2 := blk_frozen BK405.out 2
           have hnb58 := NB417_391.out
           have hnc58 := NB391_417.out
           have hcz59_0 : wc.cell? ⟨gb417, 0, none⟩ = some (.slice Ao36 t407.length co36) := (blk_cell BK417.out 0).trans rfl
           have hcz59_1 : wc.cell? ⟨gb417, 1, none⟩ = some (.slice Ao38 t410.length co38) := (blk_cell BK417.out 1).trans rfl
           have hcz59_2 : wc.cell? ⟨gb417, 2, none⟩ = some (.slice Ao40 t413.length co40) := (blk_cell BK417.out 2).trans rfl
           have hfz59_0 := blk_frozen BK417.out 0
           have hfz59_1 := blk_frozen BK417.out 1
           have hfz59_2 := blk_frozen BK417.out 2
           go_wp2_with (first | ((with_reducible refine gate_callee (f := 43) rfl ?_); refine goesL_ (some 64) rfl rfl Try.func43 (by kernel_rfl) rfl #[.agg #[.slice Ao24 t395.length co24, .slice Ao26 t398.length co26, .slice Ao28 t401.length co28], .agg #[.slice Ao36 t407.length co36, .slice Ao38 t410.length co38, .slice Ao40 t413.length co40]] rfl (by (try simp only [List.map_toArray, List.map_cons, List.map_nil]); first | done | rfl | (simp only [List.length_drop, List.length_take]; rfl)) ?_; (with_reducible refine (matrix_Merge.calls kj13 _ _ t395 _ _ t398 _ _ t401 _ _ t407 _ _ t410 _ _ t413 t418 t421 t424 t427 _ ?side1 ?side2 ?side3 ?side4 ?side5 ?side6 ?side7 ?side8 ?side9 ?side10 ?side11 ?side12 A48.out).mono ?_); (case side1 => exact Cm (Kd.R_reads' HO_406000.out).2.2); (case side2 => exact (Kd.R_reads' HO_406000.out).2.1); (case side3 => exact Cm (Kd.R_reads' HO_406001.out).2.2); (case side4 => exact (Kd.R_reads' HO_406001.out).2.1); (case side5 => repeat (first | exact (Kd.S_reads' HO_406002.out).2.2 | (with_reducible refine Kd.C_alloc ?_ _) | (with_reducible refine Kd.C_drewN ?_ _) | (with_reducible refine Kd.C_drew ?_))); (case side6 => exact (Kd.S_reads' HO_406002.out).2.1); (case side7 => exact Cm (Kd.R_reads' HO_418000.out).2.2); (case side8 => exact (Kd.R_reads' HO_418000.out).2.1); (case side9 => exact Cm (Kd.R_reads' HO_418001.out).2.2); (case side10 => exact (Kd.R_reads' HO_418001.out).2.1); (case side11 => repeat (first | exact (Kd.S_reads' HO_418002.out).2.2 | (with_reducible refine Kd.C_alloc ?_ _) | (with_reducible refine Kd.C_drewN ?_ _) | (with_reducible refine Kd.C_drew ?_))); (case side12 => exact (Kd.S_reads' HO_418002.out).2.1); rintro e w60 ⟨v419, v422, v425, rfl, ho0, ho1, ho2, hb⟩; refine ⟨_, rfl, ?_⟩; have n0_ := Am (Kd.R_mono (Kd.R_told (Kd.R_told (Kd.R_old (Rl HO_406000) hb) (Kd.R_base ho0)) (Kd.R_base ho1)) (fun _ h_ => h_.1)); have n1_ := Am (Kd.R_mono (Kd.R_told (Kd.R_told (Kd.R_old (Rl HO_406001) hb) (Kd.R_base ho0)) (Kd.R_base ho1)) (fun _ h_ => h_.1)); have n2_ := Am (Kd.S_mono (Kd.S_told (Kd.S_told (Kd.S_told (Kd.S_old (Sl HO_406002) hb) (Kd.R_base ho0)) (Kd.R_base ho1)) (Kd.S_base ho2)) (fun _ h_ => h_.1)); have n3_ := Am (Kd.R_mono (Kd.R_told (Kd.R_told (Kd.R_old (Rl HO_418000) hb) (Kd.R_base ho0)) (Kd.R_base ho1)) (fun _ h_ => h_.1)); have n4_ := Am (Kd.R_mono (Kd.R_told (Kd.R_told (Kd.R_old (Rl HO_418001) hb) (Kd.R_base ho0)) (Kd.R_base ho1)) (fun _ h_ => h_.1)); have n5_ := Am (Kd.S_mono (Kd.S_told (Kd.S_told (Kd.S_told (Kd.S_old (Sl HO_418002) hb) (Kd.R_base ho0)) (Kd.R_base ho1)) (Kd.S_base ho2)) (fun _ h_ => h_.1)); have n6_ := Am (Kd.R_lower (Kd.R_new' (Kd.R_new' (Kd.R_new' (Kd.R_new' ho0 (Rb HO_406000)) (Rb HO_406001)) (Rb HO_418000)) (Rb HO_418001)) (below_size (by repeat first | exact Bl HB | refine Bp (below_set ?_ GE391.out) | refine Bp (below_set ?_ GE405.out) | refine Bp (below_set ?_ GE417.out)))); have n7_ := Am (Kd.R_lower (Kd.R_new' (Kd.R_new' (Kd.R_new' (Kd.R_new' ho1 (Rb HO_406000)) (Rb HO_406001)) (Rb HO_418000)) (Rb HO_418001)) (below_size (by repeat first | exact Bl HB | refine Bp (below_set ?_ GE391.out) | refine Bp (below_set ?_ GE405.out) | refine Bp (below_set ?_ GE417.out)))); have n8_ := Am (Kd.S_lower (Kd.S_new' (Kd.S_new' (Kd.S_new' (Kd.S_new' (Kd.S_new' (Kd.S_new' ho2 (Rb HO_406000)) (Rb HO_406001)) (Sb HO_406002)) (Rb HO_418000)) (Rb HO_418001)) (Sb HO_418002)) (below_size (by repeat first | exact Bl HB | refine Bp (below_set ?_ GE391.out) | refine Bp (below_set ?_ GE405.out) | refine Bp (below_set ?_ GE417.out)))); have n9_ := Am (blk_below (Kl BK391) hb); have n10_ := Am (blk_below (Kl BK405) hb); have n11_ := Am (blk_below (Kl BK417) hb); have n12_ := Am (below_step (by repeat first | exact Bl HB | refine Bp (below_set ?_ GE391.out) | refine Bp (below_set ?_ GE405.out) | refine Bp (below_set ?_ GE417.out)) hb); clear HO_406000 HO_406001 HO_406002 HO_418000 HO_418001 HO_418002 BK391 BK405 BK417 HB; have HO_406000 := n0_; have HO_406001 := n1_; have HO_406002 := n2_; have HO_418000 := n3_; have HO_418001 := n4_; have HO_418002 := n5_; have HO420 := n6_; have HO423 := n7_; have HO426 := n8_; have BK391 := n9_; have BK405 := n10_; have BK417 := n11_; have HB := n12_; clear n0_ n1_ n2_ n3_ n4_ n5_ n6_ n7_ n8_ n9_ n10_ n11_ n12_; (try clear hb); (try clear hb2); (try clear hk); (try clear hi); (try clear ho0); (try clear ho1); (try clear ho2)) | ((with_reducible refine gate_dst (N := 12) rfl ?_); (try (refine gate_guard (by rfl) ?_; dsimp only)); refine box_event ?hg (N := 12) ?hd (cs := #[.slice none 0 0, .slice none 0 0, .slice none 0 0]) (t := 53) ?hr ?_; (case hd => rfl); (case hg => rfl); (case hr => first | (go_simp; done) | (go_simp; rfl)); intro gb428 hg w61 hbox hb; have n0_ := Am (Kd.R_below (Rl HO_406000) hb); have n1_ := Am (Kd.R_below (Rl HO_406001) hb); have n2_ := Am (Kd.S_below (Sl HO_406002) hb); have n3_ := Am (Kd.R_below (Rl HO_418000) hb); have n4_ := Am (Kd.R_below (Rl HO_418001) hb); have n5_ := Am (Kd.S_below (Sl HO_418002) hb); have n6_ := Am (Kd.R_below (Rl HO420) hb); have n7_ := Am (Kd.R_below (Rl HO423) hb); have n8_ := Am (Kd.S_below (Sl HO426) hb); have n9_ := Am (blk_below (Kl BK391) hb); have n10_ := Am (blk_below (Kl BK405) hb); have n11_ := Am (blk_below (Kl BK417) hb); have n12_ := Am (below_step (by repeat first | exact Bl HB | refine Bp (below_set ?_ GE391.out) | refine Bp (below_set ?_ GE405.out) | refine Bp (below_set ?_ GE417.out)) hb); have n13_ := Am (hbox); have n14_ := Am ((by rw [hg]; exact (below_size (by repeat first | exact Bl HB | refine Bp (below_set ?_ GE391.out) | refine Bp (below_set ?_ GE405.out) | refine Bp (below_set ?_ GE417.out))) : w.heap.size ≤ gb428)); have n15_ := Am ((by rw [hg]; exact (below_size (by repeat first | exact Bl HB | refine Bp (below_set ?_ GE391.out) | refine Bp (below_set ?_ GE405.out) | refine Bp (below_set ?_ GE417.out))) : w.heap.size ≤ gb428)); have n16_ := Am ((by rw [hg]; exact Nat.ne_of_lt (blk_lt (Kl BK391)) : gb391 ≠ gb428)); have n17_ := Am ((by rw [hg]; exact Nat.ne_of_gt (blk_lt (Kl BK391)) : gb428 ≠ gb391)); have n18_ := Am ((by rw [hg]; exact Nat.ne_of_lt (blk_lt (Kl BK405)) : gb405 ≠ gb428)); have n19_ := Am ((by rw [hg]; exact Nat.ne_of_gt (blk_lt (Kl BK405)) : gb428 ≠ gb405)); have n20_ := Am ((by rw [hg]; exact Nat.ne_of_lt (blk_lt (Kl BK417)) : gb417 ≠ gb428)); have n21_ := Am ((by rw [hg]; exact Nat.ne_of_gt (blk_lt (Kl BK417)) : gb428 ≠ gb417)); clear HO_406000 HO_406001 HO_406002 HO_418000 HO_418001 HO_418002 HO420 HO423 HO426 BK391 BK405 BK417 HB; have HO_406000 := n0_; have HO_406001 := n1_; have HO_406002 := n2_; have HO_418000 := n3_; have HO_418001 := n4_; have HO_418002 := n5_; have HO420 := n6_; have HO423 := n7_; have HO426 := n8_; have BK391 := n9_; have BK405 := n10_; have BK417 := n11_; have HB := n12_; have BK428 := n13_; have GW428 := n14_; have GE428 := n15_; have NB391_428 := n16_; have NB428_391 := n17_; have NB405_428 := n18_; have NB428_405 := n19_; have NB417_428 := n20_; have NB428_417 := n21_; clear n0_ n1_ n2_ n3_ n4_ n5_ n6_ n7_ n8_ n9_ n10_ n11_ n12_ n13_ n14_ n15_ n16_ n17_ n18_ n19_ n20_ n21_; clear hb hbox hg; obtain ⟨Ao62, co62, eo62⟩ := Kd.R_slice HO420.out; subst eo62; have hnb63 := NB428_391.out; have hnc63 := NB391_428.out; have hnb64 := NB428_405.out; have hnc64 := NB405_428.out; have hnb65 := NB428_417.out; have hnc65 := NB417_428.out; have hcz66_0 : w61.cell? ⟨gb428, 0, none⟩ = some (.slice none 0 0) := (blk_cell BK428.out 0).trans rfl; have hcz66_1 : w61.cell? ⟨gb428, 1, none⟩ = some (.slice none 0 0) := (blk_cell BK428.out 1).trans rfl; have hcz66_2 : w61.cell? ⟨gb428, 2, none⟩ = some (.slice none 0 0) := (blk_cell BK428.out 2).trans rfl; have hfz66_0 := blk_frozen BK428.out 0; have hfz66_1 := blk_frozen BK428.out 1; have hfz66_2 := blk_frozen BK428.out 2; obtain ⟨Ao67, co67, eo67⟩ := Kd.R_slice HO423.out; subst eo67; obtain ⟨Ao68, co68, eo68⟩ := Kd.S_slice HO426.out; subst eo68; have hcz69_0 : w61.cell? ⟨gb391, 0, none⟩ = some (.slice A0_0 l0_0.length c0_0) := (blk_cell BK391.out 0).trans rfl; have hcz69_1 : w61.cell? ⟨gb391, 1, none⟩ = some (.slice A0_1 l0_1.length c0_1) := (blk_cell BK391.out 1).trans rfl; have hcz69_2 : w61.cell? ⟨gb391, 2, none⟩ = some (.slice A0_2 l0_2.length c0_2) := (blk_cell BK391.out 2).trans rfl; have hfz69_0 := blk_frozen BK391.out 0; have hfz69_1 := blk_frozen BK391.out 1; have hfz69_2 := blk_frozen BK391.out 2) | (go_at_call 44; (with_reducible refine (examboardlaw24_same.calls kj13 _ _ t418 _ _ t421 _ _ t424 _ _ l0_0 _ _ l0_1 _ _ l0_2 true _ ?side1 ?side2 ?side3 ?side4 ?side5 ?side6 ?side7 ?side8 ?side9 ?side10 ?side11 ?side12 A50.out).mono ?_); (case side1 => refine (Kd.R_reads' (e := 3) (base := w.heap.size) (ok := fun k_ => ((((some k_ ≠ (.slice Ao67 t421.length co67 : Value).ownBlock ∧ some k_ ≠ (.slice Ao24 t395.length co24 : Value).ownBlock) ∧ some k_ ≠ (.slice Ao26 t398.length co26 : Value).ownBlock) ∧ some k_ ≠ (.slice Ao36 t407.length co36 : Value).ownBlock) ∧ some k_ ≠ (.slice Ao38 t410.length co38 : Value).ownBlock)) (n := t418.length) (c := co62) ?_).2.2; exact (Rm (Kd.R_mono (Kd.R_far (p := ⟨gb428, 2, none⟩) (Kd.R_far (p := ⟨gb428, 1, none⟩) (Kd.R_far (p := ⟨gb428, 0, none⟩) (Kd.R_types HO420.out BK428.out (by decide)) (fun _ hk => hk.2) (.slice Ao62 t418.length co62)) (fun _ hk => hk.2) (.slice Ao67 t421.length co67)) (fun _ hk => hk.2) (.slice Ao68 t424.length co68)) (fun _ h_ => h_.1)))); (case side2 => exact (Kd.R_reads' HO420.out).2.1); (case side3 => refine (Kd.R_reads' (e := 3) (base := w.heap.size) (ok := fun k_ => ((((some k_ ≠ (.slice Ao62 t418.length co62 : Value).ownBlock ∧ some k_ ≠ (.slice Ao24 t395.length co24 : Value).ownBlock) ∧ some k_ ≠ (.slice Ao26 t398.length co26 : Value).ownBlock) ∧ some k_ ≠ (.slice Ao36 t407.length co36 : Value).ownBlock) ∧ some k_ ≠ (.slice Ao38 t410.length co38 : Value).ownBlock)) (n := t421.length) (c := co67) ?_).2.2; exact (Rm (Kd.R_mono (Kd.R_far (p := ⟨gb428, 2, none⟩) (Kd.R_far (p := ⟨gb428, 1, none⟩) (Kd.R_far (p := ⟨gb428, 0, none⟩) (Kd.R_types HO423.out BK428.out (by decide)) (fun _ hk => hk.2) (.slice Ao62 t418.length co62)) (fun _ hk => hk.2) (.slice Ao67 t421.length co67)) (fun _ hk => hk.2) (.slice Ao68 t424.length co68)) (fun _ h_ => h_.1)))); (case side4 => exact (Kd.R_reads' HO423.out).2.1); (case side5 => refine (Kd.S_reads' (e := 34) (base := w.heap.size) (ok := fun k_ => (((((((some k_ ≠ (.slice Ao62 t418.length co62 : Value).ownBlock ∧ some k_ ≠ (.slice Ao67 t421.length co67 : Value).ownBlock) ∧ some k_ ≠ (.slice Ao24 t395.length co24 : Value).ownBlock) ∧ some k_ ≠ (.slice Ao26 t398.length co26 : Value).ownBlock) ∧ some k_ ≠ (.slice Ao28 t401.length co28 : Value).ownBlock) ∧ some k_ ≠ (.slice Ao36 t407.length co36 : Value).ownBlock) ∧ some k_ ≠ (.slice Ao38 t410.length co38 : Value).ownBlock) ∧ some k_ ≠ (.slice Ao40 t413.length co40 : Value).ownBlock)) (n := t424.length) (c := co68) ?_).2.2; exact (Sm (Kd.S_mono (Kd.S_far (p := ⟨gb428, 2, none⟩) (Kd.S_far (p := ⟨gb428, 1, none⟩) (Kd.S_far (p := ⟨gb428, 0, none⟩) (Kd.S_types HO426.out BK428.out (by decide)) (fun _ hk => hk.2) (.slice Ao62 t418.length co62)) (fun _ hk => hk.2) (.slice Ao67 t421.length co67)) (fun _ hk => hk.2) (.slice Ao68 t424.length co68)) (fun _ h_ => h_.1)))); (case side6 => exact (Kd.S_reads' HO426.out).2.1); (case side7 => exact Kd.C_below HR0_0.out (by repeat first | exact Bl HB | refine Bp (below_set ?_ GE391.out) | refine Bp (below_set ?_ GE405.out) | refine Bp (below_set ?_ GE417.out) | refine Bp (below_set ?_ GE428.out))); (case side8 => exact HC0_0.out); (case side9 => exact Kd.C_below HR0_1.out (by repeat first | exact Bl HB | refine Bp (below_set ?_ GE391.out) | refine Bp (below_set ?_ GE405.out) | refine Bp (below_set ?_ GE417.out) | refine Bp (below_set ?_ GE428.out))); (case side10 => exact HC0_1.out); (case side11 => exact Kd.C_below HR0_2.out (by repeat first | exact Bl HB | refine Bp (below_set ?_ GE391.out) | refine Bp (below_set ?_ GE405.out) | refine Bp (below_set ?_ GE417.out) | refine Bp (below_set ?_ GE428.out))); (case side12 => exact HC0_2.out); rintro e w70 ⟨rfl, hb⟩; have n0_ := Am (Kd.R_below (Rm (Kd.R_mono (Kd.R_far (p := ⟨gb428, 2, none⟩) (Kd.R_far (p := ⟨gb428, 1, none⟩) (Kd.R_far (p := ⟨gb428, 0, none⟩) (Kd.R_types HO_406000.out BK428.out (by decide)) (fun _ hk => hk.2) (.slice Ao62 t418.length co62)) (fun _ hk => hk.2) (.slice Ao67 t421.length co67)) (fun _ hk => hk.2) (.slice Ao68 t424.length co68)) (fun _ h_ => h_.1))) hb); have n1_ := Am (Kd.R_below (Rm (Kd.R_mono (Kd.R_far (p := ⟨gb428, 2, none⟩) (Kd.R_far (p := ⟨gb428, 1, none⟩) (Kd.R_far (p := ⟨gb428, 0, none⟩) (Kd.R_types HO_406001.out BK428.out (by decide)) (fun _ hk => hk.2) (.slice Ao62 t418.length co62)) (fun _ hk => hk.2) (.slice Ao67 t421.length co67)) (fun _ hk => hk.2) (.slice Ao68 t424.length co68)) (fun _ h_ => h_.1))) hb); have n2_ := Am (Kd.S_below (Sm (Kd.S_mono (Kd.S_far (p := ⟨gb428, 2, none⟩) (Kd.S_far (p := ⟨gb428, 1, none⟩) (Kd.S_far (p := ⟨gb428, 0, none⟩) (Kd.S_types HO_406002.out BK428.out (by decide)) (fun _ hk => hk.2) (.slice Ao62 t418.length co62)) (fun _ hk => hk.2) (.slice Ao67 t421.length co67)) (fun _ hk => hk.2) (.slice Ao68 t424.length co68)) (fun _ h_ => h_.1))) hb); have n3_ := Am (Kd.R_below (Rm (Kd.R_mono (Kd.R_far (p := ⟨gb428, 2, none⟩) (Kd.R_far (p := ⟨gb428, 1, none⟩) (Kd.R_far (p := ⟨gb428, 0, none⟩) (Kd.R_types HO_418000.out BK428.out (by decide)) (fun _ hk => hk.2) (.slice Ao62 t418.length co62)) (fun _ hk => hk.2) (.slice Ao67 t421.length co67)) (fun _ hk => hk.2) (.slice Ao68 t424.length co68)) (fun _ h_ => h_.1))) hb); have n4_ := Am (Kd.R_below (Rm (Kd.R_mono (Kd.R_far (p := ⟨gb428, 2, none⟩) (Kd.R_far (p := ⟨gb428, 1, none⟩) (Kd.R_far (p := ⟨gb428, 0, none⟩) (Kd.R_types HO_418001.out BK428.out (by decide)) (fun _ hk => hk.2) (.slice Ao62 t418.length co62)) (fun _ hk => hk.2) (.slice Ao67 t421.length co67)) (fun _ hk => hk.2) (.slice Ao68 t424.length co68)) (fun _ h_ => h_.1))) hb); have n5_ := Am (Kd.S_below (Sm (Kd.S_mono (Kd.S_far (p := ⟨gb428, 2, none⟩) (Kd.S_far (p := ⟨gb428, 1, none⟩) (Kd.S_far (p := ⟨gb428, 0, none⟩) (Kd.S_types HO_418002.out BK428.out (by decide)) (fun _ hk => hk.2) (.slice Ao62 t418.length co62)) (fun _ hk => hk.2) (.slice Ao67 t421.length co67)) (fun _ hk => hk.2) (.slice Ao68 t424.length co68)) (fun _ h_ => h_.1))) hb); have n6_ := Am (Kd.R_below (Rm (Kd.R_mono (Kd.R_far (p := ⟨gb428, 2, none⟩) (Kd.R_far (p := ⟨gb428, 1, none⟩) (Kd.R_far (p := ⟨gb428, 0, none⟩) (Kd.R_types HO420.out BK428.out (by decide)) (fun _ hk => hk.2) (.slice Ao62 t418.length co62)) (fun _ hk => hk.2) (.slice Ao67 t421.length co67)) (fun _ hk => hk.2) (.slice Ao68 t424.length co68)) (fun _ h_ => h_.1))) hb); have n7_ := Am (Kd.R_below (Rm (Kd.R_mono (Kd.R_far (p := ⟨gb428, 2, none⟩) (Kd.R_far (p := ⟨gb428, 1, none⟩) (Kd.R_far (p := ⟨gb428, 0, none⟩) (Kd.R_types HO423.out BK428.out (by decide)) (fun _ hk => hk.2) (.slice Ao62 t418.length co62)) (fun _ hk => hk.2) (.slice Ao67 t421.length co67)) (fun _ hk => hk.2) (.slice Ao68 t424.length co68)) (fun _ h_ => h_.1))) hb); have n8_ := Am (Kd.S_below (Sm (Kd.S_mono (Kd.S_far (p := ⟨gb428, 2, none⟩) (Kd.S_far (p := ⟨gb428, 1, none⟩) (Kd.S_far (p := ⟨gb428, 0, none⟩) (Kd.S_types HO426.out BK428.out (by decide)) (fun _ hk => hk.2) (.slice Ao62 t418.length co62)) (fun _ hk => hk.2) (.slice Ao67 t421.length co67)) (fun _ hk => hk.2) (.slice Ao68 t424.length co68)) (fun _ h_ => h_.1))) hb); have n9_ := Am (blk_below (g := gb391) (o := .cells #[.slice A0_0 l0_0.length c0_0, .slice A0_1 l0_1.length c0_1, .slice A0_2 l0_2.length c0_2] 53 (0, 0)) (by refine Kp ?_; refine blk_far ?_ NB391_428.out _; refine Kp ?_; refine blk_far ?_ NB391_428.out _; refine Kp ?_; refine blk_far ?_ NB391_428.out _; refine Kp ?_; exact BK391.out) hb); have n10_ := Am (blk_below (g := gb405) (o := .cells #[.slice Ao24 t395.length co24, .slice Ao26 t398.length co26, .slice Ao28 t401.length co28] 53 (0, 0)) (by refine Kp ?_; refine blk_far ?_ NB405_428.out _; refine Kp ?_; refine blk_far ?_ NB405_428.out _; refine Kp ?_; refine blk_far ?_ NB405_428.out _; refine Kp ?_; exact BK405.out) hb); have n11_ := Am (blk_below (g := gb417) (o := .cells #[.slice Ao36 t407.length co36, .slice Ao38 t410.length co38, .slice Ao40 t413.length co40] 53 (0, 0)) (by refine Kp ?_; refine blk_far ?_ NB417_428.out _; refine Kp ?_; refine blk_far ?_ NB417_428.out _; refine Kp ?_; refine blk_far ?_ NB417_428.out _; refine Kp ?_; exact BK417.out) hb); have n12_ := Am (blk_below (g := gb428) (o := .cells #[.slice Ao62 t418.length co62, .slice Ao67 t421.length co67, .slice Ao68 t424.length co68] 53 (0, 0)) (by refine Kp ?_; refine blk_put (cs := #[.slice Ao62 t418.length co62, .slice Ao67 t421.length co67, .slice none 0 0]) ?_ 2 _ rfl; refine Kp ?_; refine blk_put (cs := #[.slice Ao62 t418.length co62, .slice none 0 0, .slice none 0 0]) ?_ 1 _ rfl; refine Kp ?_; refine blk_put (cs := #[.slice none 0 0, .slice none 0 0, .slice none 0 0]) ?_ 0 _ rfl; refine Kp ?_; exact BK428.out) hb); have n13_ := Am (below_step (by repeat first | exact Bl HB | refine Bp (below_set ?_ GE391.out) | refine Bp (below_set ?_ GE405.out) | refine Bp (below_set ?_ GE417.out) | refine Bp (below_set ?_ GE428.out)) hb); clear HO_406000 HO_406001 HO_406002 HO_418000 HO_418001 HO_418002 HO420 HO423 HO426 BK391 BK405 BK417 BK428 HB; have HO_406000 := n0_; have HO_406001 := n1_; have HO_406002 := n2_; have HO_418000 := n3_; have HO_418001 := n4_; have HO_418002 := n5_; have HO420 := n6_; have HO423 := n7_; have HO426 := n8_; have BK391 := n9_; have BK405 := n10_; have BK417 := n11_; have BK428 := n12_; have HB := n13_; clear n0_ n1_ n2_ n3_ n4_ n5_ n6_ n7_ n8_ n9_ n10_ n11_ n12_ n13_; (try clear hb); (try clear hb2); (try clear hk); (try clear hi); have hcz71_0 : w70.cell? ⟨gb405, 0, none⟩ = some (.slice Ao24 t395.length co24) := (blk_cell BK405.out 0).trans rfl; have hcz71_1 : w70.cell? ⟨gb405, 1, none⟩ = some (.slice Ao26 t398.length co26) := (blk_cell BK405.out 1).trans rfl; have hcz71_2 : w70.cell? ⟨gb405, 2, none⟩ = some (.slice Ao28 t401.length co28) := (blk_cell BK405.out 2).trans rfl; have hfz71_0 := blk_frozen BK405.out 0; have hfz71_1 := blk_frozen BK405.out 1; have hfz71_2 := blk_frozen BK405.out 2) | (go_at_call 40; (with_reducible refine (matrix_Valid.calls kj13 _ _ t395 _ _ t398 _ _ t401 _ _ l1 t430 _ ?side1 ?side2 ?side3 ?side4 ?side5 ?side6 ?side7 ?side8 A52.out).mono ?_); (case side1 => exact Cm (Kd.R_reads' HO_406000.out).2.2); (case side2 => exact (Kd.R_reads' HO_406000.out).2.1); (case side3 => exact Cm (Kd.R_reads' HO_406001.out).2.2); (case side4 => exact (Kd.R_reads' HO_406001.out).2.1); (case side5 => repeat (first | exact (Kd.S_reads' HO_406002.out).2.2 | (with_reducible refine Kd.C_alloc ?_ _) | (with_reducible refine Kd.C_drewN ?_ _) | (with_reducible refine Kd.C_drew ?_))); (case side6 => exact (Kd.S_reads' HO_406002.out).2.1); (case side7 => repeat (first | exact (Kd.C_below HR1.out HB.out) | (with_reducible refine Kd.C_alloc ?_ _) | (with_reducible refine Kd.C_drewN ?_ _) | (with_reducible refine Kd.C_drew ?_))); (case side8 => exact HC1.out); rintro e w72 ⟨rfl, hb⟩; have n0_ := Am (Kd.R_below (Rl HO_406000) hb); have n1_ := Am (Kd.R_below (Rl HO_406001) hb); have n2_ := Am (Kd.S_below (Sl HO_406002) hb); have n3_ := Am (Kd.R_below (Rl HO_418000) hb); have n4_ := Am (Kd.R_below (Rl HO_418001) hb); have n5_ := Am (Kd.S_below (Sl HO_418002) hb); have n6_ := Am (Kd.R_below (Rl HO420) hb); have n7_ := Am (Kd.R_below (Rl HO423) hb); have n8_ := Am (Kd.S_below (Sl HO426) hb); have n9_ := Am (blk_below (Kl BK391) hb); have n10_ := Am (blk_below (Kl BK405) hb); have n11_ := Am (blk_below (Kl BK417) hb); have n12_ := Am (blk_below (Kl BK428) hb); have n13_ := Am (below_step (by repeat first | exact Bl HB | refine Bp (below_set ?_ GE391.out) | refine Bp (below_set ?_ GE405.out) | refine Bp (below_set ?_ GE417.out) | refine Bp (below_set ?_ GE428.out)) hb); clear HO_406000 HO_406001 HO_406002 HO_418000 HO_418001 HO_418002 HO420 HO423 HO426 BK391 BK405 BK417 BK428 HB; have HO_406000 := n0_; have HO_406001 := n1_; have HO_406002 := n2_; have HO_418000 := n3_; have HO_418001 := n4_; have HO_418002 := n5_; have HO420 := n6_; have HO423 := n7_; have HO426 := n8_; have BK391 := n9_; have BK405 := n10_; have BK417 := n11_; have BK428 := n12_; have HB := n13_; clear n0_ n1_ n2_ n3_ n4_ n5_ n6_ n7_ n8_ n9_ n10_ n11_ n12_ n13_; (try clear hb); (try clear hb2); (try clear hk); (try clear hi)) | (go_at_call 41; (with_reducible refine (examboardlaw24_awake.calls kj13  t431 _ A54.out).mono ?_); rintro e w73 ⟨rfl, hb⟩; have n0_ := Am (Kd.R_below (Rl HO_406000) hb); have n1_ := Am (Kd.R_below (Rl HO_406001) hb); have n2_ := Am (Kd.S_below (Sl HO_406002) hb); have n3_ := Am (Kd.R_below (Rl HO_418000) hb); have n4_ := Am (Kd.R_below (Rl HO_418001) hb); have n5_ := Am (Kd.S_below (Sl HO_418002) hb); have n6_ := Am (Kd.R_below (Rl HO420) hb); have n7_ := Am (Kd.R_below (Rl HO423) hb); have n8_ := Am (Kd.S_below (Sl HO426) hb); have n9_ := Am (blk_below (Kl BK391) hb); have n10_ := Am (blk_below (Kl BK405) hb); have n11_ := Am (blk_below (Kl BK417) hb); have n12_ := Am (blk_below (Kl BK428) hb); have n13_ := Am (below_step (by repeat first | exact Bl HB | refine Bp (below_set ?_ GE391.out) | refine Bp (below_set ?_ GE405.out) | refine Bp (below_set ?_ GE417.out) | refine Bp (below_set ?_ GE428.out)) hb); clear HO_406000 HO_406001 HO_406002 HO_418000 HO_418001 HO_418002 HO420 HO423 HO426 BK391 BK405 BK417 BK428 HB; have HO_406000 := n0_; have HO_406001 := n1_; have HO_406002 := n2_; have HO_418000 := n3_; have HO_418001 := n4_; have HO_418002 := n5_; have HO420 := n6_; have HO423 := n7_; have HO426 := n8_; have BK391 := n9_; have BK405 := n10_; have BK417 := n11_; have BK428 := n12_; have HB := n13_; clear n0_ n1_ n2_ n3_ n4_ n5_ n6_ n7_ n8_ n9_ n10_ n11_ n12_ n13_; (try clear hb); (try clear hb2); (try clear hk); (try clear hi)))
           go_ret
           exact ⟨by first | rfl | (simp [errW_none, errW_some] <;> rfl) | (simp only [← hji7]; first | rfl | (simp [errW_none, errW_some] <;> rfl)) | (simp [*, errW_none, errW_some] <;> rfl), by repeat first | exact Bl HB | refine Bp (below_set ?_ GE391.out) | refine Bp (below_set ?_ GE405.out) | refine Bp (below_set ?_ GE417.out) | refine Bp (below_set ?_ GE428.out)⟩
          ·rw [if_neg c53] at H
           exact absurd H (by simp)
         ·replace c51 := Bool.eq_false_iff.mpr c51
          subst c51
          have H1 : (none) = some r := by rw [if_neg (show ¬ (false = true) by decide)] at H; exact H
          clear H
          have H := H1
          clear H1
          exact absurd H (by simp)
        ·rw [if_neg c49] at H
         exact absurd H (by simp)
    ·rw [if_neg c9] at H
     exact absurd H (by simp)
   ·rw [if_neg c8] at H
    exact absurd H (by simp)
 ·rw [if_neg c5] at H
  have c5b0 : (t392 == 0) = false := beq_eq_false_iff_ne.mpr c5
  have c5b1 : (t392 != 0) = true := bne_iff_ne.mpr c5
  replace H := Option.bind_eq_some_iff.mp H
  obtain ⟨t393, A740, H⟩ := H
  replace H : (some t393) = some r := H
  have A74 := Am A740
  clear A740
  obtain rfl := Option.some.inj H
  go_enter Try.func7, Try.ntmps7
  go_wp2_with (first | ((with_reducible refine gate_dst (N := 3) rfl ?_); (try (refine gate_guard (by rfl) ?_; dsimp only)); refine box_event ?hg (N := 3) ?hd (cs := #[.slice A0_0 l0_0.length c0_0, .slice A0_1 l0_1.length c0_1, .slice A0_2 l0_2.length c0_2]) (t := 53) ?hr ?_; (case hd => rfl); (case hg => rfl); (case hr => first | (go_simp; done) | (go_simp; rfl)); intro gb391 hg w75 hbox hb; have n0_ := Am (below_step (Bl HB) hb); have n1_ := Am (hbox); have n2_ := Am ((by rw [hg]; exact (below_size (Bl HB)) : w.heap.size ≤ gb391)); have n3_ := Am ((by rw [hg]; exact (below_size (Bl HB)) : w.heap.size ≤ gb391)); clear HB; have HB := n0_; have BK391 := n1_; have GW391 := n2_; have GE391 := n3_; clear n0_ n1_ n2_ n3_; clear hb hbox hg; have hcz76_0 : w75.cell? ⟨gb391, 0, none⟩ = some (.slice A0_0 l0_0.length c0_0) := (blk_cell BK391.out 0).trans rfl; have hcz76_1 : w75.cell? ⟨gb391, 1, none⟩ = some (.slice A0_1 l0_1.length c0_1) := (blk_cell BK391.out 1).trans rfl; have hcz76_2 : w75.cell? ⟨gb391, 2, none⟩ = some (.slice A0_2 l0_2.length c0_2) := (blk_cell BK391.out 2).trans rfl; have hfz76_0 := blk_frozen BK391.out 0; have hfz76_1 := blk_frozen BK391.out 1; have hfz76_2 := blk_frozen BK391.out 2) | ((with_reducible refine gate_callee (f := 40) rfl ?_); refine goesL_ (some 16) rfl rfl Try.func40 (by kernel_rfl) rfl #[.agg #[.slice A0_0 l0_0.length c0_0, .slice A0_1 l0_1.length c0_1, .slice A0_2 l0_2.length c0_2], .slice A1 l1.length c1] rfl (by (try simp only [List.map_toArray, List.map_cons, List.map_nil]); first | done | rfl | (simp only [List.length_drop, List.length_take]; rfl)) ?_; (with_reducible refine (matrix_Valid.calls k _ _ l0_0 _ _ l0_1 _ _ l0_2 _ _ l1 t392 _ ?side1 ?side2 ?side3 ?side4 ?side5 ?side6 ?side7 ?side8 A4.out).mono ?_); (case side1 => repeat (first | exact (Kd.C_below HR0_0.out HB.out) | (with_reducible refine Kd.C_alloc ?_ _) | (with_reducible refine Kd.C_drewN ?_ _) | (with_reducible refine Kd.C_drew ?_))); (case side2 => exact HC0_0.out); (case side3 => repeat (first | exact (Kd.C_below HR0_1.out HB.out) | (with_reducible refine Kd.C_alloc ?_ _) | (with_reducible refine Kd.C_drewN ?_ _) | (with_reducible refine Kd.C_drew ?_))); (case side4 => exact HC0_1.out); (case side5 => repeat (first | exact (Kd.C_below HR0_2.out HB.out) | (with_reducible refine Kd.C_alloc ?_ _) | (with_reducible refine Kd.C_drewN ?_ _) | (with_reducible refine Kd.C_drew ?_))); (case side6 => exact HC0_2.out); (case side7 => repeat (first | exact (Kd.C_below HR1.out HB.out) | (with_reducible refine Kd.C_alloc ?_ _) | (with_reducible refine Kd.C_drewN ?_ _) | (with_reducible refine Kd.C_drew ?_))); (case side8 => exact HC1.out); rintro e w77 ⟨rfl, hb⟩; refine ⟨_, rfl, ?_⟩; have n0_ := Am (blk_below (Kl BK391) hb); have n1_ := Am (below_step (by repeat first | exact Bl HB | refine Bp (below_set ?_ GE391.out)) hb); clear BK391 HB; have BK391 := n0_; have HB := n1_; clear n0_ n1_; (try clear hb); (try clear hb2); (try clear hk); (try clear hi)) | ((with_reducible refine gate_callee (f := 41) rfl ?_); refine goesL_ (some 18) rfl rfl Try.func41 (by kernel_rfl) rfl #[] rfl (by (try simp only [List.map_toArray, List.map_cons, List.map_nil]); first | done | rfl | (simp only [List.length_drop, List.length_take]; rfl)) ?_; (with_reducible refine (examboardlaw24_awake.calls k  t393 _ A74.out).mono ?_); rintro e w78 ⟨rfl, hb⟩; refine ⟨_, rfl, ?_⟩; have n0_ := Am (blk_below (Kl BK391) hb); have n1_ := Am (below_step (by repeat first | exact Bl HB | refine Bp (below_set ?_ GE391.out)) hb); clear BK391 HB; have BK391 := n0_; have HB := n1_; clear n0_ n1_; (try clear hb); (try clear hb2); (try clear hk); (try clear hi)))
  go_ret
  exact ⟨by first | rfl | (simp [errW_none, errW_some] <;> rfl) | (simp [*, errW_none, errW_some] <;> rfl), by repeat first | exact Bl HB | refine Bp (below_set ?_ GE391.out)⟩

end Go.Proofs.Ytgeplglggcoaiaa.Matrix
