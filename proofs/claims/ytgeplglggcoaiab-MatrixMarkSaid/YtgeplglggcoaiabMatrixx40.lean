/- Lean functions and walks for Go functions of this seat, written by this claim's own program (wip/tools/xprint.py) over the kit's print. -/
import Derived.Test.YtgeplglggcoaiabMatrixx0
import Derived.Test.YtgeplglggcoaiabMatrixx23
import Derived.Test.YtgeplglggcoaiabMatrixx24
import Derived.Test.YtgeplglggcoaiabMatrixx25
import Derived.Test.YtgeplglggcoaiabMatrixx28
namespace Go.Proofs.Ytgeplglggcoaiab.Matrix
open Go.RowKit Go.Sort Go.Proofs.YtgeplglggcoaiabMakec Go.Proofs.YtgeplglggcoaiabW.PrintWords Go.Proofs.YtgeplglggcoaiabW.PrintLast Go.Proofs.YtgeplglggcoaiabW.PrintMore
attribute [local go_sem] max2_int min2_int max_two min_two max_three min_three max_four min_four   -- for this text's walks alone
set_option linter.unusedVariables false
set_option linter.unusedSimpArgs false

/-! ### examboardlaw24_MatrixMark: function 7 -/
mutual
def examboardlaw24_MatrixMark.j0 : Nat → List Int → List Int → Bool → Option (Bool)
 | 0, _, _, _ => none
 | k + 1, x0, x3, x41 => if x41 = true then (none) else (examboardlaw24_MatrixMark.l0 k x0 x3 (wrap64 ((x3.length : Int) - 1)))
def examboardlaw24_MatrixMark.l0 : Nat → List Int → List Int → Int → Option (Bool)
 | 0, _, _, _ => none
 | k + 1, x0, x3, x8 => if x8 ≥ 0 then (if 0 ≤ x8 then (if x8 < (x3.length : Int) then (examboardlaw24_MatrixMark.j2 k x0 x3 x8 (decide ((rd x3 x8) < 0))) else (none)) else (none)) else (examboardlaw24_MatrixMark.j2 k x0 x3 x8 false)
def examboardlaw24_MatrixMark.j2 : Nat → List Int → List Int → Int → Bool → Option (Bool)
 | 0, _, _, _, _ => none
 | k + 1, x0, x3, x8, x53 => if x53 = true then (if 0 ≤ x8 then (if x8 < (x3.length : Int) then (if (rd x3 x8) = (-1) then (none) else (examboardlaw24_MatrixMark.l0 k x0 x3 (wrap64 (x8 - 1)))) else (none)) else (none)) else (examboardlaw24_MatrixMark.l1 k x0 x3 (x3.length : Int) 0)
def examboardlaw24_MatrixMark.l1 : Nat → List Int → List Int → Int → Int → Option (Bool)
 | 0, _, _, _, _ => none
 | k + 1, x0, x3, x62, x63 => if x63 < x62 then (if 0 ≤ x63 then (if x63 < (x3.length : Int) then (if x63 < (x0.length : Int) then (if (rd x3 x63) = (rd x0 x63) then (examboardlaw24_MatrixMark.l1 k x0 x3 x62 (wrap64 (x63 + 1))) else (if (rd x0 x63) = (-1) then (if (rd x3 x63) = (-2) then (examboardlaw24_MatrixMark.l1 k x0 x3 x62 (wrap64 (x63 + 1))) else (none)) else (none))) else (none)) else (none)) else (none)) else ((examboardlaw24_awake.f k).bind fun t563 => (some t563))
end
def examboardlaw24_MatrixMark.f (k : Nat) (l0 : List Int) : Option (Bool) := (matrix_Mark.f k l0).bind fun t546 => (if (t546.length : Int) = (l0.length : Int) then ((matrix_Total.f k l0).bind fun bt549 => ((matrix_Total.f k t546).bind fun bt551 => (if bt549.1 = bt551.1 then (if bt549.2 = bt551.2 then ((matrix_Mark.f k t546).bind fun t553 => ((examboardlaw24_equal.f k t553 t546).bind fun t556 => (examboardlaw24_MatrixMark.j0 k l0 t546 (!t556)))) else (none)) else (none)))) else (none))
theorem examboardlaw24_MatrixMark.mono_l : ∀ k, (∀ y0 y1 y2, LeO (examboardlaw24_MatrixMark.j0 k y0 y1 y2) (examboardlaw24_MatrixMark.j0 (k + 1) y0 y1 y2)) ∧ (∀ y0 y1 y2, LeO (examboardlaw24_MatrixMark.l0 k y0 y1 y2) (examboardlaw24_MatrixMark.l0 (k + 1) y0 y1 y2)) ∧ (∀ y0 y1 y2 y3, LeO (examboardlaw24_MatrixMark.j2 k y0 y1 y2 y3) (examboardlaw24_MatrixMark.j2 (k + 1) y0 y1 y2 y3)) ∧ (∀ y0 y1 y2 y3, LeO (examboardlaw24_MatrixMark.l1 k y0 y1 y2 y3) (examboardlaw24_MatrixMark.l1 (k + 1) y0 y1 y2 y3))
 | 0 => ⟨fun _ _ _ r h => by simp [examboardlaw24_MatrixMark.j0] at h, fun _ _ _ r h => by simp [examboardlaw24_MatrixMark.l0] at h, fun _ _ _ _ r h => by simp [examboardlaw24_MatrixMark.j2] at h, fun _ _ _ _ r h => by simp [examboardlaw24_MatrixMark.l1] at h⟩
 | k + 1 => by
  obtain ⟨ih0, ih1, ih2, ih3⟩ := examboardlaw24_MatrixMark.mono_l k
  refine ⟨?_, ?_, ?_, ?_⟩
  ·intro y0 y1 y2
   unfold examboardlaw24_MatrixMark.j0
   repeat' first
   | (with_reducible exact ih0 _ _ _)
   | (with_reducible exact ih1 _ _ _)
   | (with_reducible exact ih2 _ _ _ _)
   | (with_reducible exact ih3 _ _ _ _)
   | (with_reducible exact examboardlaw24_awake.mono _)
   | (with_reducible exact examboardlaw24_equal.mono _ _ _)
   | (with_reducible exact matrix_Mark.mono _ _)
   | (with_reducible exact matrix_Total.mono _ _)
   | (with_reducible exact LeO.refl _)
   | (with_reducible exact LeO.none _)
   | (with_reducible refine LeO.ite ?_ ?_)
   | (with_reducible refine LeO.bind ?_ (fun _ => ?_))
   | exact ih0 _ _ _
   | exact ih1 _ _ _
   | exact ih2 _ _ _ _
   | exact ih3 _ _ _ _
   | exact examboardlaw24_awake.mono _
   | exact examboardlaw24_equal.mono _ _ _
   | exact matrix_Mark.mono _ _
   | exact matrix_Total.mono _ _
   | exact LeO.none _
   | refine LeO.ite ?_ ?_
   | refine LeO.bind ?_ (fun _ => ?_)
  ·intro y0 y1 y2
   unfold examboardlaw24_MatrixMark.l0
   repeat' first
   | (with_reducible exact ih0 _ _ _)
   | (with_reducible exact ih1 _ _ _)
   | (with_reducible exact ih2 _ _ _ _)
   | (with_reducible exact ih3 _ _ _ _)
   | (with_reducible exact examboardlaw24_awake.mono _)
   | (with_reducible exact examboardlaw24_equal.mono _ _ _)
   | (with_reducible exact matrix_Mark.mono _ _)
   | (with_reducible exact matrix_Total.mono _ _)
   | (with_reducible exact LeO.refl _)
   | (with_reducible exact LeO.none _)
   | (with_reducible refine LeO.ite ?_ ?_)
   | (with_reducible refine LeO.bind ?_ (fun _ => ?_))
   | exact ih0 _ _ _
   | exact ih1 _ _ _
   | exact ih2 _ _ _ _
   | exact ih3 _ _ _ _
   | exact examboardlaw24_awake.mono _
   | exact examboardlaw24_equal.mono _ _ _
   | exact matrix_Mark.mono _ _
   | exact matrix_Total.mono _ _
   | exact LeO.none _
   | refine LeO.ite ?_ ?_
   | refine LeO.bind ?_ (fun _ => ?_)
  ·intro y0 y1 y2 y3
   unfold examboardlaw24_MatrixMark.j2
   repeat' first
   | (with_reducible exact ih0 _ _ _)
   | (with_reducible exact ih1 _ _ _)
   | (with_reducible exact ih2 _ _ _ _)
   | (with_reducible exact ih3 _ _ _ _)
   | (with_reducible exact examboardlaw24_awake.mono _)
   | (with_reducible exact examboardlaw24_equal.mono _ _ _)
   | (with_reducible exact matrix_Mark.mono _ _)
   | (with_reducible exact matrix_Total.mono _ _)
   | (with_reducible exact LeO.refl _)
   | (with_reducible exact LeO.none _)
   | (with_reducible refine LeO.ite ?_ ?_)
   | (with_reducible refine LeO.bind ?_ (fun _ => ?_))
   | exact ih0 _ _ _
   | exact ih1 _ _ _
   | exact ih2 _ _ _ _
   | exact ih3 _ _ _ _
   | exact examboardlaw24_awake.mono _
   | exact examboardlaw24_equal.mono _ _ _
   | exact matrix_Mark.mono _ _
   | exact matrix_Total.mono _ _
   | exact LeO.none _
   | refine LeO.ite ?_ ?_
   | refine LeO.bind ?_ (fun _ => ?_)
  ·intro y0 y1 y2 y3
   unfold examboardlaw24_MatrixMark.l1
   repeat' first
   | (with_reducible exact ih0 _ _ _)
   | (with_reducible exact ih1 _ _ _)
   | (with_reducible exact ih2 _ _ _ _)
   | (with_reducible exact ih3 _ _ _ _)
   | (with_reducible exact examboardlaw24_awake.mono _)
   | (with_reducible exact examboardlaw24_equal.mono _ _ _)
   | (with_reducible exact matrix_Mark.mono _ _)
   | (with_reducible exact matrix_Total.mono _ _)
   | (with_reducible exact LeO.refl _)
   | (with_reducible exact LeO.none _)
   | (with_reducible refine LeO.ite ?_ ?_)
   | (with_reducible refine LeO.bind ?_ (fun _ => ?_))
   | exact ih0 _ _ _
   | exact ih1 _ _ _
   | exact ih2 _ _ _ _
   | exact ih3 _ _ _ _
   | exact examboardlaw24_awake.mono _
   | exact examboardlaw24_equal.mono _ _ _
   | exact matrix_Mark.mono _ _
   | exact matrix_Total.mono _ _
   | exact LeO.none _
   | refine LeO.ite ?_ ?_
   | refine LeO.bind ?_ (fun _ => ?_)
theorem examboardlaw24_MatrixMark.mono : ∀ a0 k, LeO (examboardlaw24_MatrixMark.f k a0) (examboardlaw24_MatrixMark.f (k + 1) a0) := by
 intro a0 k
 obtain ⟨ih0, ih1, ih2, ih3⟩ := examboardlaw24_MatrixMark.mono_l k
 unfold examboardlaw24_MatrixMark.f
 repeat' first
   | (with_reducible exact ih0 _ _ _)
   | (with_reducible exact ih1 _ _ _)
   | (with_reducible exact ih2 _ _ _ _)
   | (with_reducible exact ih3 _ _ _ _)
   | (with_reducible exact examboardlaw24_awake.mono _)
   | (with_reducible exact examboardlaw24_equal.mono _ _ _)
   | (with_reducible exact matrix_Mark.mono _ _)
   | (with_reducible exact matrix_Total.mono _ _)
   | (with_reducible exact LeO.refl _)
   | (with_reducible exact LeO.none _)
   | (with_reducible refine LeO.ite ?_ ?_)
   | (with_reducible refine LeO.bind ?_ (fun _ => ?_))
   | exact ih0 _ _ _
   | exact ih1 _ _ _
   | exact ih2 _ _ _ _
   | exact ih3 _ _ _ _
   | exact examboardlaw24_awake.mono _
   | exact examboardlaw24_equal.mono _ _ _
   | exact matrix_Mark.mono _ _
   | exact matrix_Total.mono _ _
   | exact LeO.none _
   | refine LeO.ite ?_ ?_
   | refine LeO.bind ?_ (fun _ => ?_)
set_option maxHeartbeats 8000000 in
set_option maxRecDepth 100000 in
theorem examboardlaw24_MatrixMark.calls (k : Nat) (A0 : Option Addr) (c0 : Nat) (l0 : List Int) (r : Bool) (w : World) (hr0 : Kd.C (Kd.int .i64) w A0 l0.length l0) (hc0 : l0.length ≤ c0) (h : examboardlaw24_MatrixMark.f k l0 = some r) :
  Calls Try.prog 7 #[.slice A0 l0.length c0] w fun e w' => e = .returned (.bool r) ∧ Below w.heap.size w w' := by
 have HR0 := Am hr0
 have HC0 := Am hc0
 clear hr0 hc0
 have HB := Am (Below.refl w.heap.size w)
 have H : ((matrix_Mark.f k l0).bind fun t546 => (if (t546.length : Int) = (l0.length : Int) then ((matrix_Total.f k l0).bind fun bt549 => ((matrix_Total.f k t546).bind fun bt551 => (if bt549.1 = bt551.1 then (if bt549.2 = bt551.2 then ((matrix_Mark.f k t546).bind fun t553 => ((examboardlaw24_equal.f k t553 t546).bind fun t556 => (examboardlaw24_MatrixMark.j0 k l0 t546 (!t556)))) else (none)) else (none)))) else (none))) = some r := h
 clear h
 replace H := Option.bind_eq_some_iff.mp H
 obtain ⟨t546, A20, H⟩ := H
 replace H : (if (t546.length : Int) = (l0.length : Int) then ((matrix_Total.f k l0).bind fun bt549 => ((matrix_Total.f k t546).bind fun bt551 => (if bt549.1 = bt551.1 then (if bt549.2 = bt551.2 then ((matrix_Mark.f k t546).bind fun t553 => ((examboardlaw24_equal.f k t553 t546).bind fun t556 => (examboardlaw24_MatrixMark.j0 k l0 t546 (!t556)))) else (none)) else (none)))) else (none)) = some r := H
 have A2 := Am A20
 clear A20
 by_cases c3 : (t546.length : Int) = (l0.length : Int)
 ·rw [if_pos c3] at H
  have c3b0 : ((t546.length : Int) == (l0.length : Int)) = true := beq_iff_eq.mpr c3
  have c3b1 : ((t546.length : Int) != (l0.length : Int)) = false := bne_eq_false_iff_eq.mpr c3
  have c3b2 : (t546.length == l0.length) = true := by first | simpa using c3 | (simp at c3 ⊢; omega)
  clear c3
  replace H := Option.bind_eq_some_iff.mp H
  obtain ⟨⟨t549, t550⟩, A40, H⟩ := H
  replace H : ((matrix_Total.f k t546).bind fun bt551 => (if t549 = bt551.1 then (if t550 = bt551.2 then ((matrix_Mark.f k t546).bind fun t553 => ((examboardlaw24_equal.f k t553 t546).bind fun t556 => (examboardlaw24_MatrixMark.j0 k l0 t546 (!t556)))) else (none)) else (none))) = some r := H
  have A4 := Am A40
  clear A40
  replace H := Option.bind_eq_some_iff.mp H
  obtain ⟨⟨t551, t552⟩, A50, H⟩ := H
  replace H : (if t549 = t551 then (if t550 = t552 then ((matrix_Mark.f k t546).bind fun t553 => ((examboardlaw24_equal.f k t553 t546).bind fun t556 => (examboardlaw24_MatrixMark.j0 k l0 t546 (!t556)))) else (none)) else (none)) = some r := H
  have A5 := Am A50
  clear A50
  have HC6 := Am H
  clear H
  go_enter Try.func7, Try.ntmps7
  go_upto_region 6 with (first | (go_at_call 21; (with_reducible refine (matrix_Mark.calls k _ _ l0 t546 _ ?side1 ?side2 A2.out).mono ?_); (case side1 => repeat (first | exact HR0.out | (with_reducible refine Kd.C_alloc ?_ _) | (with_reducible refine Kd.C_drewN ?_ _) | (with_reducible refine Kd.C_drew ?_))); (case side2 => exact HC0.out); rintro e w7 ⟨v547, rfl, ho0, hb⟩; have n0_ := Am (Kd.R_lower ho0 (below_size (Bl HB))); have n1_ := Am (below_step (Bl HB) hb); clear HB; have HO548 := n0_; have HB := n1_; clear n0_ n1_; (try clear hb); (try clear hb2); (try clear hk); (try clear hi); (try clear ho0); obtain ⟨Ao8, co8, eo8⟩ := Kd.R_slice HO548.out; subst eo8) | (go_at_call 22; (with_reducible refine (matrix_Total.calls k _ _ l0 t549 t550 _ ?side1 ?side2 A4.out).mono ?_); (case side1 => repeat (first | exact (Kd.C_below HR0.out HB.out) | (with_reducible refine Kd.C_alloc ?_ _) | (with_reducible refine Kd.C_drewN ?_ _) | (with_reducible refine Kd.C_drew ?_))); (case side2 => exact HC0.out); rintro e w9 ⟨rfl, hb⟩; have n0_ := Am (Kd.R_below (Rl HO548) hb); have n1_ := Am (below_step (Bl HB) hb); clear HO548 HB; have HO548 := n0_; have HB := n1_; clear n0_ n1_; (try clear hb); (try clear hb2); (try clear hk); (try clear hi)) | (go_at_call 22; (with_reducible refine (matrix_Total.calls k _ _ t546 t551 t552 _ ?side1 ?side2 A5.out).mono ?_); (case side1 => exact Cm (Kd.R_reads' HO548.out).2.2); (case side2 => exact (Kd.R_reads' HO548.out).2.1); rintro e w10 ⟨rfl, hb⟩; have n0_ := Am (Kd.R_below (Rl HO548) hb); have n1_ := Am (below_step (Bl HB) hb); clear HO548 HB; have HO548 := n0_; have HB := n1_; clear n0_ n1_; (try clear hb); (try clear hb2); (try clear hk); (try clear hi)))
  repeat (go_quiet (first | (go_at_call 21; (with_reducible refine (matrix_Mark.calls k _ _ l0 t546 _ ?side1 ?side2 A2.out).mono ?_); (case side1 => repeat (first | exact HR0.out | (with_reducible refine Kd.C_alloc ?_ _) | (with_reducible refine Kd.C_drewN ?_ _) | (with_reducible refine Kd.C_drew ?_))); (case side2 => exact HC0.out); rintro e w7 ⟨v547, rfl, ho0, hb⟩; have n0_ := Am (Kd.R_lower ho0 (below_size (Bl HB))); have n1_ := Am (below_step (Bl HB) hb); clear HB; have HO548 := n0_; have HB := n1_; clear n0_ n1_; (try clear hb); (try clear hb2); (try clear hk); (try clear hi); (try clear ho0); obtain ⟨Ao8, co8, eo8⟩ := Kd.R_slice HO548.out; subst eo8) | (go_at_call 22; (with_reducible refine (matrix_Total.calls k _ _ l0 t549 t550 _ ?side1 ?side2 A4.out).mono ?_); (case side1 => repeat (first | exact (Kd.C_below HR0.out HB.out) | (with_reducible refine Kd.C_alloc ?_ _) | (with_reducible refine Kd.C_drewN ?_ _) | (with_reducible refine Kd.C_drew ?_))); (case side2 => exact HC0.out); rintro e w9 ⟨rfl, hb⟩; have n0_ := Am (Kd.R_below (Rl HO548) hb); have n1_ := Am (below_step (Bl HB) hb); clear HO548 HB; have HO548 := n0_; have HB := n1_; clear n0_ n1_; (try clear hb); (try clear hb2); (try clear hk); (try clear hi)) | (go_at_call 22; (with_reducible refine (matrix_Total.calls k _ _ t546 t551 t552 _ ?side1 ?side2 A5.out).mono ?_); (case side1 => exact Cm (Kd.R_reads' HO548.out).2.2); (case side2 => exact (Kd.R_reads' HO548.out).2.1); rintro e w10 ⟨rfl, hb⟩; have n0_ := Am (Kd.R_below (Rl HO548) hb); have n1_ := Am (below_step (Bl HB) hb); clear HO548 HB; have HO548 := n0_; have HB := n1_; clear n0_ n1_; (try clear hb); (try clear hb2); (try clear hk); (try clear hi))); go_upto_region 6 with (first | (go_at_call 21; (with_reducible refine (matrix_Mark.calls k _ _ l0 t546 _ ?side1 ?side2 A2.out).mono ?_); (case side1 => repeat (first | exact HR0.out | (with_reducible refine Kd.C_alloc ?_ _) | (with_reducible refine Kd.C_drewN ?_ _) | (with_reducible refine Kd.C_drew ?_))); (case side2 => exact HC0.out); rintro e w7 ⟨v547, rfl, ho0, hb⟩; have n0_ := Am (Kd.R_lower ho0 (below_size (Bl HB))); have n1_ := Am (below_step (Bl HB) hb); clear HB; have HO548 := n0_; have HB := n1_; clear n0_ n1_; (try clear hb); (try clear hb2); (try clear hk); (try clear hi); (try clear ho0); obtain ⟨Ao8, co8, eo8⟩ := Kd.R_slice HO548.out; subst eo8) | (go_at_call 22; (with_reducible refine (matrix_Total.calls k _ _ l0 t549 t550 _ ?side1 ?side2 A4.out).mono ?_); (case side1 => repeat (first | exact (Kd.C_below HR0.out HB.out) | (with_reducible refine Kd.C_alloc ?_ _) | (with_reducible refine Kd.C_drewN ?_ _) | (with_reducible refine Kd.C_drew ?_))); (case side2 => exact HC0.out); rintro e w9 ⟨rfl, hb⟩; have n0_ := Am (Kd.R_below (Rl HO548) hb); have n1_ := Am (below_step (Bl HB) hb); clear HO548 HB; have HO548 := n0_; have HB := n1_; clear n0_ n1_; (try clear hb); (try clear hb2); (try clear hk); (try clear hi)) | (go_at_call 22; (with_reducible refine (matrix_Total.calls k _ _ t546 t551 t552 _ ?side1 ?side2 A5.out).mono ?_); (case side1 => exact Cm (Kd.R_reads' HO548.out).2.2); (case side2 => exact (Kd.R_reads' HO548.out).2.1); rintro e w10 ⟨rfl, hb⟩; have n0_ := Am (Kd.R_below (Rl HO548) hb); have n1_ := Am (below_step (Bl HB) hb); clear HO548 HB; have HO548 := n0_; have HB := n1_; clear n0_ n1_; (try clear hb); (try clear hb2); (try clear hk); (try clear hi))))
  (try simp only [Act.put, List.setIfInBounds_toArray, List.set_cons_zero, List.set_cons_succ])
  go_cut [41] (fun v41 wc => ∃ (kq : Nat) (x41_5 : Bool), v41 = .bool x41_5 ∧ Aside0 (examboardlaw24_MatrixMark.j0 kq l0 t546 x41_5 = some r) ∧ Aside0 (kq ≤ k) ∧ Aside0 (Kd.R (Kd.int .i64) 3 wc w.heap.size (fun _ => True) (.slice Ao8 t546.length co8) t546) ∧ Aside0 (Below w.heap.size w wc))
  case first =>
   have H := HC6.out
   clear HC6
   by_cases c11 : t549 = t551
   ·rw [if_pos c11] at H
    have c11b0 : (t549 == t551) = true := beq_iff_eq.mpr c11
    have c11b1 : (t549 != t551) = false := bne_eq_false_iff_eq.mpr c11
    clear c11
    (first | rw [c11b0] | (simp only [i64_w, i32_w]; rw [c11b0]) | skip)
    by_cases c12 : t550 = t552
    ·rw [if_pos c12] at H
     have c12b0 : (t550 == t552) = true := beq_iff_eq.mpr c12
     have c12b1 : (t550 != t552) = false := bne_eq_false_iff_eq.mpr c12
     clear c12
     replace H := Option.bind_eq_some_iff.mp H
     obtain ⟨t553, A130, H⟩ := H
     replace H : ((examboardlaw24_equal.f k t553 t546).bind fun t556 => (examboardlaw24_MatrixMark.j0 k l0 t546 (!t556))) = some r := H
     have A13 := Am A130
     clear A130
     replace H := Option.bind_eq_some_iff.mp H
     obtain ⟨t556, A140, H⟩ := H
     replace H : (examboardlaw24_MatrixMark.j0 k l0 t546 (!t556)) = some r := H
     have A14 := Am A140
     clear A140
     have H' := Am H
     clear H
     go_wp2_with (first | (go_at_call 21; (with_reducible refine (matrix_Mark.calls k _ _ t546 t553 _ ?side1 ?side2 A13.out).mono ?_); (case side1 => exact Cm (Kd.R_reads' HO548.out).2.2); (case side2 => exact (Kd.R_reads' HO548.out).2.1); rintro e w15 ⟨v554, rfl, ho0, hb⟩; have n0_ := Am (Kd.R_elder' (Rl HO548) (Kd.R_base ho0) hb); have n1_ := Am (Kd.R_lower (Kd.R_new' ho0 (Rb HO548)) (below_size (Bl HB))); have n2_ := Am (below_step (Bl HB) hb); clear HO548 HB; have HO548 := n0_; have HO555 := n1_; have HB := n2_; clear n0_ n1_ n2_; (try clear hb); (try clear hb2); (try clear hk); (try clear hi); (try clear ho0); obtain ⟨Ao16, co16, eo16⟩ := Kd.R_slice HO555.out; subst eo16) | (go_at_call 23; (with_reducible refine (examboardlaw24_equal.calls k _ _ t553 _ _ t546 t556 _ ?side1 ?side2 ?side3 ?side4 A14.out).mono ?_); (case side1 => exact Cm (Kd.R_reads' HO555.out).2.2); (case side2 => exact (Kd.R_reads' HO555.out).2.1); (case side3 => exact Cm (Kd.R_reads' HO548.out).2.2); (case side4 => exact (Kd.R_reads' HO548.out).2.1); rintro e w' ⟨rfl, ⟨nd, rfl⟩⟩; (try first | exact ⟨rfl, _, World.drewN_drewN _ _ _⟩ | exact ⟨rfl, _, Eq.trans (World.drewN_drewN _ _ _) (congrArg (World.drewN _) (Nat.add_assoc _ _ _))⟩)))
     repeat (go_quiet (first | (go_at_call 21; (with_reducible refine (matrix_Mark.calls k _ _ t546 t553 _ ?side1 ?side2 A13.out).mono ?_); (case side1 => exact Cm (Kd.R_reads' HO548.out).2.2); (case side2 => exact (Kd.R_reads' HO548.out).2.1); rintro e w15 ⟨v554, rfl, ho0, hb⟩; have n0_ := Am (Kd.R_elder' (Rl HO548) (Kd.R_base ho0) hb); have n1_ := Am (Kd.R_lower (Kd.R_new' ho0 (Rb HO548)) (below_size (Bl HB))); have n2_ := Am (below_step (Bl HB) hb); clear HO548 HB; have HO548 := n0_; have HO555 := n1_; have HB := n2_; clear n0_ n1_ n2_; (try clear hb); (try clear hb2); (try clear hk); (try clear hi); (try clear ho0); obtain ⟨Ao16, co16, eo16⟩ := Kd.R_slice HO555.out; subst eo16) | (go_at_call 23; (with_reducible refine (examboardlaw24_equal.calls k _ _ t553 _ _ t546 t556 _ ?side1 ?side2 ?side3 ?side4 A14.out).mono ?_); (case side1 => exact Cm (Kd.R_reads' HO555.out).2.2); (case side2 => exact (Kd.R_reads' HO555.out).2.1); (case side3 => exact Cm (Kd.R_reads' HO548.out).2.2); (case side4 => exact (Kd.R_reads' HO548.out).2.1); rintro e w' ⟨rfl, ⟨nd, rfl⟩⟩; (try first | exact ⟨rfl, _, World.drewN_drewN _ _ _⟩ | exact ⟨rfl, _, Eq.trans (World.drewN_drewN _ _ _) (congrArg (World.drewN _) (Nat.add_assoc _ _ _))⟩))); try go_wp2_with (first | (go_at_call 21; (with_reducible refine (matrix_Mark.calls k _ _ t546 t553 _ ?side1 ?side2 A13.out).mono ?_); (case side1 => exact Cm (Kd.R_reads' HO548.out).2.2); (case side2 => exact (Kd.R_reads' HO548.out).2.1); rintro e w15 ⟨v554, rfl, ho0, hb⟩; have n0_ := Am (Kd.R_elder' (Rl HO548) (Kd.R_base ho0) hb); have n1_ := Am (Kd.R_lower (Kd.R_new' ho0 (Rb HO548)) (below_size (Bl HB))); have n2_ := Am (below_step (Bl HB) hb); clear HO548 HB; have HO548 := n0_; have HO555 := n1_; have HB := n2_; clear n0_ n1_ n2_; (try clear hb); (try clear hb2); (try clear hk); (try clear hi); (try clear ho0); obtain ⟨Ao16, co16, eo16⟩ := Kd.R_slice HO555.out; subst eo16) | (go_at_call 23; (with_reducible refine (examboardlaw24_equal.calls k _ _ t553 _ _ t546 t556 _ ?side1 ?side2 ?side3 ?side4 A14.out).mono ?_); (case side1 => exact Cm (Kd.R_reads' HO555.out).2.2); (case side2 => exact (Kd.R_reads' HO555.out).2.1); (case side3 => exact Cm (Kd.R_reads' HO548.out).2.2); (case side4 => exact (Kd.R_reads' HO548.out).2.1); rintro e w' ⟨rfl, ⟨nd, rfl⟩⟩; (try first | exact ⟨rfl, _, World.drewN_drewN _ _ _⟩ | exact ⟨rfl, _, Eq.trans (World.drewN_drewN _ _ _) (congrArg (World.drewN _) (Nat.add_assoc _ _ _))⟩))))
     go_meet
     case rel => exact ⟨_, (!t556), (by first | rfl | (simp; done) | (simp [*]; done)), H', ⟨by first | omega | exact Nat.le_refl _⟩, ⟨Rm (Kd.R_mono HO548.out (fun _ hk => trivial))⟩, ⟨Bl HB⟩⟩
    ·rw [if_neg c12] at H
     exact absurd H (by simp)
   ·rw [if_neg c11] at H
    exact absurd H (by simp)
  case rest =>
   clear HC6
   try clear c1
   try clear p2
   try clear c3
   try clear c3b0
   try clear c3b1
   try clear c3b2
   try clear c7
   try clear c11
   try clear c11b0
   try clear c11b1
   try clear c12
   try clear c12b0
   try clear c12b1
   obtain ⟨kq, x41_5, rfl, HA, HJ5, HO_3, HB⟩ := hcut
   cases kq with
   | zero => exact absurd HA.out (by simp [examboardlaw24_MatrixMark.j0])
   | succ kj5 =>
    have H := HA.out
    clear HA
    simp only [examboardlaw24_MatrixMark.j0] at H
    by_cases c17 : x41_5 = true
    ·subst c17
     have H1 : (none) = some r := by rw [if_pos rfl] at H; exact H
     clear H
     have H := H1
     clear H1
     exact absurd H (by simp)
    ·replace c17 := Bool.eq_false_iff.mpr c17
     subst c17
     have H1 : (examboardlaw24_MatrixMark.l0 kj5 l0 t546 (wrap64 ((t546.length : Int) - 1))) = some r := by rw [if_neg (show ¬ (false = true) by decide)] at H; exact H
     clear H
     have H := H1
     clear H1
     have H' := Am H
     clear H
     go_wp2
     repeat (go_quiet (fail); try go_wp2)
     go_loopg [8] kj5 (fun kq v8 w' => ∃ (x8_2 : Int), v8 = .int .i64 x8_2 ∧ Aside0 (examboardlaw24_MatrixMark.l0 kq l0 t546 x8_2 = some r) ∧ Aside0 (kq ≤ kj5) ∧ Aside0 (Kd.R (Kd.int .i64) 3 w' w.heap.size (fun _ => True) (.slice Ao8 t546.length co8) t546) ∧ Aside0 (Below w.heap.size w w'))
     case atStart => exact ⟨(wrap64 ((t546.length : Int) - 1)), (by first | rfl | (simp; done) | (simp [*]; done)), H', ⟨Nat.le_refl _⟩, ⟨Rl HO_3⟩, ⟨Bl HB⟩⟩
     case round =>
      clear H'
      try clear c1
      try clear p2
      try clear c3
      try clear c3b0
      try clear c3b1
      try clear c3b2
      try clear p6
      try clear c7
      try clear c11
      try clear c11b0
      try clear c11b1
      try clear c12
      try clear c12b0
      try clear c12b1
      try clear c17
      try clear p2
      obtain ⟨x8_2, rfl, HA, HK2, HO_3, HB⟩ := hrel
      cases gk with
      | zero => exact absurd HA.out (by simp [examboardlaw24_MatrixMark.l0])
      | succ k2 =>
       have H := HA.out
       clear HA
       simp only [examboardlaw24_MatrixMark.l0] at H
       have HC18 := Am H
       clear H
       go_upto_region 9 with (fail)
       repeat (go_quiet (fail); go_upto_region 9 with (fail))
       go_cut [53] (fun v53 wc => ∃ (kq : Nat) (x53_17 : Bool), v53 = .bool x53_17 ∧ Aside0 (examboardlaw24_MatrixMark.j2 kq l0 t546 x8_2 x53_17 = some r) ∧ Aside0 (kq ≤ k2) ∧ Aside0 (Kd.R (Kd.int .i64) 3 wc w.heap.size (fun _ => True) (.slice Ao8 t546.length co8) t546) ∧ Aside0 (Below w.heap.size w wc))
       case first =>
        have H := HC18.out
        clear HC18
        by_cases c19 : x8_2 ≥ 0
        ·rw [if_pos c19] at H
         have c19b0 : decide (0 ≤ x8_2) = true := decide_eq_true c19
         clear c19
         (first | rw [c19b0] | (simp only [i64_w, i32_w]; rw [c19b0]) | skip)
         by_cases c20 : 0 ≤ x8_2
         ·rw [if_pos c20] at H
          have c20b0 : decide (0 ≤ x8_2) = true := decide_eq_true c20
          clear c20
          by_cases c21 : x8_2 < (t546.length : Int)
          ·rw [if_pos c21] at H
           have c21b0 : decide (x8_2 < (t546.length : Int)) = true := decide_eq_true c21
           clear c21
           have H' := Am H
           clear H
           have p557 : 0 ≤ (x8_2 : Int) := of_decide_eq_true (by first | (with_reducible assumption) | assumption)
           have q557 : x8_2 < (t546.length : Int) := of_decide_eq_true (by first | (with_reducible assumption) | assumption)
           obtain ⟨ad557, e557, hx557_0⟩ := Kd.at_int (Kd.R_reads' HO_3.out).2.2 x8_2 p557 q557
           cases e557
           replace p557 := eq_true p557
           replace q557 := eq_true q557
           go_wp2
           repeat (go_quiet (fail); try go_wp2)
           go_meet
           case rel => exact ⟨_, (decide ((rd t546 x8_2) < 0)), (by first | rfl | (simp; done) | (simp [*]; done)), H', ⟨by have := HJ5.out; have := HK2.out; first | omega | exact Nat.le_refl _⟩, ⟨Rl HO_3⟩, ⟨Bl HB⟩⟩
          ·rw [if_neg c21] at H
           exact absurd H (by simp)
         ·rw [if_neg c20] at H
          exact absurd H (by simp)
        ·rw [if_neg c19] at H
         have c19b0 : decide (0 ≤ x8_2) = false := decide_eq_false c19
         clear c19
         (first | rw [c19b0] | (simp only [i64_w, i32_w]; rw [c19b0]) | skip)
         have H' := Am H
         clear H
         go_wp2
         repeat (go_quiet (fail); try go_wp2)
         go_meet
         case rel => exact ⟨_, (false), (by first | rfl | (simp; done) | (simp [*]; done)), H', ⟨by have := HJ5.out; have := HK2.out; first | omega | exact Nat.le_refl _⟩, ⟨Rl HO_3⟩, ⟨Bl HB⟩⟩
       case rest =>
        clear HC18
        try clear c1
        try clear c2
        try clear p2
        try clear c3
        try clear c3b0
        try clear c3b1
        try clear c3b2
        try clear p5
        try clear q5
        try clear hx5
        try clear p6
        try clear c7
        try clear c11
        try clear c11b0
        try clear c11b1
        try clear c12
        try clear c12b0
        try clear c12b1
        try clear c17
        try clear c19
        try clear c19b0
        try clear c20
        try clear c20b0
        try clear c21
        try clear c21b0
        try clear hx557_0
        try clear p2
        try clear p557
        try clear p6
        try clear q557
        obtain ⟨kq, x53_17, rfl, HA, HJ17, HO_3, HB⟩ := hcut
        cases kq with
        | zero => exact absurd HA.out (by simp [examboardlaw24_MatrixMark.j2])
        | succ kj17 =>
         have H := HA.out
         clear HA
         simp only [examboardlaw24_MatrixMark.j2] at H
         by_cases c22 : x53_17 = true
         ·subst c22
          have H1 : (if 0 ≤ x8_2 then (if x8_2 < (t546.length : Int) then (if (rd t546 x8_2) = (-1) then (none) else (examboardlaw24_MatrixMark.l0 kj17 l0 t546 (wrap64 (x8_2 - 1)))) else (none)) else (none)) = some r := by rw [if_pos rfl] at H; exact H
          clear H
          have H := H1
          clear H1
          by_cases c23 : 0 ≤ x8_2
          ·rw [if_pos c23] at H
           have c23b0 : decide (0 ≤ x8_2) = true := decide_eq_true c23
           clear c23
           by_cases c24 : x8_2 < (t546.length : Int)
           ·rw [if_pos c24] at H
            have c24b0 : decide (x8_2 < (t546.length : Int)) = true := decide_eq_true c24
            clear c24
            by_cases c25 : (rd t546 x8_2) = (-1)
            ·rw [if_pos c25] at H
             exact absurd H (by simp)
            ·rw [if_neg c25] at H
             have c25b0 : ((rd t546 x8_2) == (-1)) = false := beq_eq_false_iff_ne.mpr c25
             have c25b1 : ((rd t546 x8_2) != (-1)) = true := bne_iff_ne.mpr c25
             have H' := Am H
             clear H
             have p558 : 0 ≤ (x8_2 : Int) := of_decide_eq_true (by first | (with_reducible assumption) | assumption)
             have q558 : x8_2 < (t546.length : Int) := of_decide_eq_true (by first | (with_reducible assumption) | assumption)
             obtain ⟨ad558, e558, hx558_0⟩ := Kd.at_int (Kd.R_reads' HO_3.out).2.2 x8_2 p558 q558
             cases e558
             replace p558 := eq_true p558
             replace q558 := eq_true q558
             go_wp2
             repeat (go_quiet (fail); try go_wp2)
             go_roundg kj17
             case measure => have := HJ5.out; have := HK2.out; have := HJ17.out; omega
             case rel => exact ⟨(wrap64 (x8_2 - 1)), (by first | rfl | (simp; done) | (simp [*]; done)), H', ⟨by have := HJ5.out; have := HK2.out; have := HJ17.out; omega⟩, ⟨Rl HO_3⟩, ⟨Bl HB⟩⟩
           ·rw [if_neg c24] at H
            exact absurd H (by simp)
          ·rw [if_neg c23] at H
           exact absurd H (by simp)
         ·replace c22 := Bool.eq_false_iff.mpr c22
          subst c22
          have H1 : (examboardlaw24_MatrixMark.l1 kj17 l0 t546 (t546.length : Int) 0) = some r := by rw [if_neg (show ¬ (false = true) by decide)] at H; exact H
          clear H
          have H := H1
          clear H1
          have H' := Am H
          clear H
          go_wp2
          repeat (go_quiet (fail); try go_wp2)
          go_loopg [63] kj17 (fun kq v63 w' => ∃ (x63_4 : Int), v63 = .int .i64 x63_4 ∧ Aside0 (examboardlaw24_MatrixMark.l1 kq l0 t546 (t546.length : Int) x63_4 = some r) ∧ Aside0 (kq ≤ kj17) ∧ Aside0 (Kd.R (Kd.int .i64) 3 w' w.heap.size (fun _ => True) (.slice Ao8 t546.length co8) t546) ∧ Aside0 (Below w.heap.size w w'))
          case atStart => exact ⟨(0), (by first | rfl | (simp; done) | (simp [*]; done)), H', ⟨Nat.le_refl _⟩, ⟨Rl HO_3⟩, ⟨Bl HB⟩⟩
          case round =>
           clear H'
           try clear c1
           try clear c2
           try clear p2
           try clear c3
           try clear c3b0
           try clear c3b1
           try clear c3b2
           try clear p5
           try clear q5
           try clear hx5
           try clear p6
           try clear c7
           try clear c11
           try clear c11b0
           try clear c11b1
           try clear c12
           try clear c12b0
           try clear c12b1
           try clear c17
           try clear c19
           try clear c19b0
           try clear c20
           try clear c20b0
           try clear c21
           try clear c21b0
           try clear c22
           try clear c23
           try clear c23b0
           try clear c24
           try clear c24b0
           try clear c25
           try clear c25b0
           try clear c25b1
           try clear hx557_0
           try clear hx558_0
           try clear p2
           try clear p5
           try clear p557
           try clear p558
           try clear p6
           try clear q5
           try clear q557
           try clear q558
           obtain ⟨x63_4, rfl, HA, HK4, HO_3, HB⟩ := hrel
           cases gk with
           | zero => exact absurd HA.out (by simp [examboardlaw24_MatrixMark.l1])
           | succ k4 =>
            have H := HA.out
            clear HA
            simp only [examboardlaw24_MatrixMark.l1] at H
            by_cases c26 : x63_4 < (t546.length : Int)
            ·rw [if_pos c26] at H
             have c26b0 : decide (x63_4 < (t546.length : Int)) = true := decide_eq_true c26
             clear c26
             by_cases c27 : 0 ≤ x63_4
             ·rw [if_pos c27] at H
              have c27b0 : decide (0 ≤ x63_4) = true := decide_eq_true c27
              clear c27
              by_cases c28 : x63_4 < (t546.length : Int)
              ·rw [if_pos c28] at H
               have c28b0 : decide (x63_4 < (t546.length : Int)) = true := decide_eq_true c28
               clear c28
               by_cases c29 : x63_4 < (l0.length : Int)
               ·rw [if_pos c29] at H
                have c29b0 : decide (x63_4 < (l0.length : Int)) = true := decide_eq_true c29
                clear c29
                by_cases c30 : (rd t546 x63_4) = (rd l0 x63_4)
                ·rw [if_pos c30] at H
                 have c30b0 : ((rd t546 x63_4) == (rd l0 x63_4)) = true := beq_iff_eq.mpr c30
                 have c30b1 : ((rd t546 x63_4) != (rd l0 x63_4)) = false := bne_eq_false_iff_eq.mpr c30
                 clear c30
                 have H' := Am H
                 clear H
                 have p559 : 0 ≤ (x63_4 : Int) := of_decide_eq_true (by first | (with_reducible assumption) | assumption)
                 have q559 : x63_4 < (t546.length : Int) := of_decide_eq_true (by first | (with_reducible assumption) | assumption)
                 obtain ⟨ad559, e559, hx559_0⟩ := Kd.at_int (Kd.R_reads' HO_3.out).2.2 x63_4 p559 q559
                 cases e559
                 replace p559 := eq_true p559
                 replace q559 := eq_true q559
                 have p560 : 0 ≤ (x63_4 : Int) := of_decide_eq_true (by first | (with_reducible assumption) | assumption)
                 have q560 : x63_4 < (l0.length : Int) := of_decide_eq_true (by first | (with_reducible assumption) | assumption)
                 obtain ⟨ad560, e560, hx560_0⟩ := Kd.at_int HR0.out x63_4 p560 q560
                 cases e560
                 replace hx560_0 := (HB.out.cell (World.block_lt_of_cell? w _ hx560_0)).trans hx560_0
                 replace p560 := eq_true p560
                 replace q560 := eq_true q560
                 go_wp2
                 repeat (go_quiet (fail); try go_wp2)
                 go_roundg k4
                 case measure => have := HJ5.out; have := HK2.out; have := HJ17.out; have := HK4.out; omega
                 case rel => exact ⟨(wrap64 (x63_4 + 1)), (by first | rfl | (simp; done) | (simp [*]; done)), H', ⟨by have := HJ5.out; have := HK2.out; have := HJ17.out; have := HK4.out; omega⟩, ⟨Rl HO_3⟩, ⟨Bl HB⟩⟩
                ·rw [if_neg c30] at H
                 have c30b0 : ((rd t546 x63_4) == (rd l0 x63_4)) = false := beq_eq_false_iff_ne.mpr c30
                 have c30b1 : ((rd t546 x63_4) != (rd l0 x63_4)) = true := bne_iff_ne.mpr c30
                 by_cases c31 : (rd l0 x63_4) = (-1)
                 ·rw [if_pos c31] at H
                  have c31b0 : ((rd l0 x63_4) == (-1)) = true := beq_iff_eq.mpr c31
                  have c31b1 : ((rd l0 x63_4) != (-1)) = false := bne_eq_false_iff_eq.mpr c31
                  clear c31
                  by_cases c32 : (rd t546 x63_4) = (-2)
                  ·rw [if_pos c32] at H
                   have c32b0 : ((rd t546 x63_4) == (-2)) = true := beq_iff_eq.mpr c32
                   have c32b1 : ((rd t546 x63_4) != (-2)) = false := bne_eq_false_iff_eq.mpr c32
                   clear c32
                   have H' := Am H
                   clear H
                   have p559 : 0 ≤ (x63_4 : Int) := of_decide_eq_true (by first | (with_reducible assumption) | assumption)
                   have q559 : x63_4 < (t546.length : Int) := of_decide_eq_true (by first | (with_reducible assumption) | assumption)
                   obtain ⟨ad559, e559, hx559_0⟩ := Kd.at_int (Kd.R_reads' HO_3.out).2.2 x63_4 p559 q559
                   cases e559
                   replace p559 := eq_true p559
                   replace q559 := eq_true q559
                   have p560 : 0 ≤ (x63_4 : Int) := of_decide_eq_true (by first | (with_reducible assumption) | assumption)
                   have q560 : x63_4 < (l0.length : Int) := of_decide_eq_true (by first | (with_reducible assumption) | assumption)
                   obtain ⟨ad560, e560, hx560_0⟩ := Kd.at_int HR0.out x63_4 p560 q560
                   cases e560
                   replace hx560_0 := (HB.out.cell (World.block_lt_of_cell? w _ hx560_0)).trans hx560_0
                   replace p560 := eq_true p560
                   replace q560 := eq_true q560
                   have p561 : 0 ≤ (x63_4 : Int) := of_decide_eq_true (by first | (with_reducible assumption) | assumption)
                   have q561 : x63_4 < (l0.length : Int) := of_decide_eq_true (by first | (with_reducible assumption) | assumption)
                   obtain ⟨ad561, e561, hx561_0⟩ := Kd.at_int HR0.out x63_4 p561 q561
                   obtain rfl : ad560 = ad561 := (by injection e561)
                   replace hx561_0 := (HB.out.cell (World.block_lt_of_cell? w _ hx561_0)).trans hx561_0
                   replace p561 := eq_true p561
                   replace q561 := eq_true q561
                   have p562 : 0 ≤ (x63_4 : Int) := of_decide_eq_true (by first | (with_reducible assumption) | assumption)
                   have q562 : x63_4 < (t546.length : Int) := of_decide_eq_true (by first | (with_reducible assumption) | assumption)
                   obtain ⟨ad562, e562, hx562_0⟩ := Kd.at_int (Kd.R_reads' HO_3.out).2.2 x63_4 p562 q562
                   obtain rfl : ad559 = ad562 := (by injection e562)
                   replace p562 := eq_true p562
                   replace q562 := eq_true q562
                   go_wp2
                   repeat (go_quiet (fail); try go_wp2)
                   go_roundg k4
                   case measure => have := HJ5.out; have := HK2.out; have := HJ17.out; have := HK4.out; omega
                   case rel => exact ⟨(wrap64 (x63_4 + 1)), (by first | rfl | (simp; done) | (simp [*]; done)), H', ⟨by have := HJ5.out; have := HK2.out; have := HJ17.out; have := HK4.out; omega⟩, ⟨Rl HO_3⟩, ⟨Bl HB⟩⟩
                  ·rw [if_neg c32] at H
                   exact absurd H (by simp)
                 ·rw [if_neg c31] at H
                  exact absurd H (by simp)
               ·rw [if_neg c29] at H
                exact absurd H (by simp)
              ·rw [if_neg c28] at H
               exact absurd H (by simp)
             ·rw [if_neg c27] at H
              exact absurd H (by simp)
            ·rw [if_neg c26] at H
             have c26b0 : decide (x63_4 < (t546.length : Int)) = false := decide_eq_false c26
             clear c26
             replace H := Option.bind_eq_some_iff.mp H
             obtain ⟨t563, A330, H⟩ := H
             replace H : (some t563) = some r := H
             have A33 := Am A330
             clear A330
             obtain rfl := Option.some.inj H
             go_wp2_with (first | (go_at_call 15; (with_reducible refine (examboardlaw24_awake.calls k4  t563 _ A33.out).mono ?_); rintro e w34 ⟨rfl, hb⟩; have n0_ := Am (Kd.R_below (Rl HO_3) hb); have n1_ := Am (below_step (Bl HB) hb); clear HO_3 HB; have HO_3 := n0_; have HB := n1_; clear n0_ n1_; (try clear hb); (try clear hb2); (try clear hk); (try clear hi)))
             repeat (go_quiet (first | (go_at_call 15; (with_reducible refine (examboardlaw24_awake.calls k4  t563 _ A33.out).mono ?_); rintro e w34 ⟨rfl, hb⟩; have n0_ := Am (Kd.R_below (Rl HO_3) hb); have n1_ := Am (below_step (Bl HB) hb); clear HO_3 HB; have HO_3 := n0_; have HB := n1_; clear n0_ n1_; (try clear hb); (try clear hb2); (try clear hk); (try clear hi))); try go_wp2_with (first | (go_at_call 15; (with_reducible refine (examboardlaw24_awake.calls k4  t563 _ A33.out).mono ?_); rintro e w34 ⟨rfl, hb⟩; have n0_ := Am (Kd.R_below (Rl HO_3) hb); have n1_ := Am (below_step (Bl HB) hb); clear HO_3 HB; have HO_3 := n0_; have HB := n1_; clear n0_ n1_; (try clear hb); (try clear hb2); (try clear hk); (try clear hi))))
             go_ret
             exact ⟨by first | rfl | (simp [errW_none, errW_some] <;> rfl) | (simp [*, errW_none, errW_some] <;> rfl), Bl HB⟩
 ·rw [if_neg c3] at H
  exact absurd H (by simp)

/-- THE ONE PURE STATEMENT of examboardlaw24_MatrixMark: yours. -/
def examboardlaw24_MatrixMark.Pure : Prop := ∀ (l0 : List Int), l0.length ≤ maxLen → l0.length * 8 ≤ 140737488351232 → (∀ x ∈ l0, (Lit.int .i64 x).wf = true) → ∃ k, examboardlaw24_MatrixMark.f k l0 = some true
theorem examboardlaw24_MatrixMark.walk (P : examboardlaw24_MatrixMark.Pure) (a0 : Option Addr) (len0 cap0 : Nat) (z0 : List Int) (w : World) (w0 : (a0 = none ∧ len0 = 0 ∧ cap0 = 0 ∧ z0 = []) ∨ ∃ x, a0 = some x ∧ len0 ≤ cap0 ∧ cap0 ≤ maxLen ∧ z0.length = cap0 ∧ (∀ i, i < z0.length → w.cell? (x.add i) = some (.int .i64 (z0.getD i 0))) ∧ ∀ n ∈ z0, (Lit.int .i64 n).wf = true) (y0 : len0 * 8 ≤ 140737488351232) :
  Calls Try.prog 7 #[.slice a0 len0 cap0] w fun e w' => e = .returned (.bool true) ∧ Below w.heap.size w w' := by
 obtain ⟨l0, rfl, hr0, hm0, hw0, hc0⟩ := ReadsInt.ofRowC w0
 obtain ⟨k, h⟩ := P l0 hm0 y0 hw0
 refine (examboardlaw24_MatrixMark.calls k _ _ l0 true w (Kd.C_of_reads (d := (0 : Int)) (h1 := fun _ => rfl) hr0) hc0 h).mono ?_
 rintro e w' ⟨rfl, hd⟩
 exact ⟨rfl, hd⟩

end Go.Proofs.Ytgeplglggcoaiab.Matrix
