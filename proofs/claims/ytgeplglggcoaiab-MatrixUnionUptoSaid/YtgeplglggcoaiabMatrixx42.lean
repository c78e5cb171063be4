/- Lean functions and walks for Go functions of this seat, written by this claim's own program (wip/tools/xprint.py) over the kit's print. -/
import Derived.Test.YtgeplglggcoaiabMatrixx0
import Derived.Test.YtgeplglggcoaiabMatrixx41
namespace Go.Proofs.Ytgeplglggcoaiab.Matrix
open Go.RowKit Go.Sort Go.Proofs.YtgeplglggcoaiabMakec Go.Proofs.YtgeplglggcoaiabW.PrintWords Go.Proofs.YtgeplglggcoaiabW.PrintLast Go.Proofs.YtgeplglggcoaiabW.PrintMore
attribute [local go_sem] max2_int min2_int max_two min_two max_three min_three max_four min_four   -- for this text's walks alone
set_option linter.unusedVariables false
set_option linter.unusedSimpArgs false

/-! ### examboardlaw24_fits: function 24 -/
mutual
def examboardlaw24_fits.j0 : Nat → Bool → List Int → List Int → List (List Int) → Option (Bool)
 | 0, _, _, _, _ => none
 | k + 1, x23, x567000, x567001, x567002 => if x23 = true then (some false) else (examboardlaw24_fits.l0 k x567002 (x567002.length : Int) 0 x567000 x567001 x567002)
def examboardlaw24_fits.l0 : Nat → List (List Int) → Int → Int → List Int → List Int → List (List Int) → Option (Bool)
 | 0, _, _, _, _, _, _ => none
 | k + 1, x25, x26, x27, x567000, x567001, x567002 => if x27 < x26 then (if 0 ≤ x27 then (if x27 < (x25.length : Int) then (if ((rd_L1 x25 x27).length : Int) = (x567001.length : Int) then (examboardlaw24_fits.l0 k x25 x26 (wrap64 (x27 + 1)) x567000 x567001 x567002) else (some false)) else (none)) else (none)) else (some true)
end
def examboardlaw24_fits.f (k : Nat) (l0_0 : List Int) (l0_1 : List Int) (l0_2 : List (List Int)) : Option (Bool) := if (l0_2.length : Int) = (l0_0.length : Int) then ((examboardlaw24_rising.f k l0_0).bind fun t567 => (if t567 = true then ((examboardlaw24_rising.f k l0_1).bind fun t568 => (examboardlaw24_fits.j0 k (!t568) l0_0 l0_1 l0_2)) else (examboardlaw24_fits.j0 k true l0_0 l0_1 l0_2))) else (examboardlaw24_fits.j0 k true l0_0 l0_1 l0_2)
theorem examboardlaw24_fits.mono_l : ∀ k, (∀ y0 y1 y2 y3, LeO (examboardlaw24_fits.j0 k y0 y1 y2 y3) (examboardlaw24_fits.j0 (k + 1) y0 y1 y2 y3)) ∧ (∀ y0 y1 y2 y3 y4 y5, LeO (examboardlaw24_fits.l0 k y0 y1 y2 y3 y4 y5) (examboardlaw24_fits.l0 (k + 1) y0 y1 y2 y3 y4 y5))
 | 0 => ⟨fun _ _ _ _ r h => by simp [examboardlaw24_fits.j0] at h, fun _ _ _ _ _ _ r h => by simp [examboardlaw24_fits.l0] at h⟩
 | k + 1 => by
  obtain ⟨ih0, ih1⟩ := examboardlaw24_fits.mono_l k
  refine ⟨?_, ?_⟩
  ·intro y0 y1 y2 y3
   unfold examboardlaw24_fits.j0
   repeat' first
   | (with_reducible exact ih0 _ _ _ _)
   | (with_reducible exact ih1 _ _ _ _ _ _)
   | (with_reducible exact examboardlaw24_rising.mono _ _)
   | (with_reducible exact LeO.refl _)
   | (with_reducible exact LeO.none _)
   | (with_reducible refine LeO.ite ?_ ?_)
   | (with_reducible refine LeO.bind ?_ (fun _ => ?_))
   | exact ih0 _ _ _ _
   | exact ih1 _ _ _ _ _ _
   | exact examboardlaw24_rising.mono _ _
   | exact LeO.none _
   | refine LeO.ite ?_ ?_
   | refine LeO.bind ?_ (fun _ => ?_)
  ·intro y0 y1 y2 y3 y4 y5
   unfold examboardlaw24_fits.l0
   repeat' first
   | (with_reducible exact ih0 _ _ _ _)
   | (with_reducible exact ih1 _ _ _ _ _ _)
   | (with_reducible exact examboardlaw24_rising.mono _ _)
   | (with_reducible exact LeO.refl _)
   | (with_reducible exact LeO.none _)
   | (with_reducible refine LeO.ite ?_ ?_)
   | (with_reducible refine LeO.bind ?_ (fun _ => ?_))
   | exact ih0 _ _ _ _
   | exact ih1 _ _ _ _ _ _
   | exact examboardlaw24_rising.mono _ _
   | exact LeO.none _
   | refine LeO.ite ?_ ?_
   | refine LeO.bind ?_ (fun _ => ?_)
theorem examboardlaw24_fits.mono : ∀ a0 a1 a2 k, LeO (examboardlaw24_fits.f k a0 a1 a2) (examboardlaw24_fits.f (k + 1) a0 a1 a2) := by
 intro a0 a1 a2 k
 obtain ⟨ih0, ih1⟩ := examboardlaw24_fits.mono_l k
 unfold examboardlaw24_fits.f
 repeat' first
   | (with_reducible exact ih0 _ _ _ _)
   | (with_reducible exact ih1 _ _ _ _ _ _)
   | (with_reducible exact examboardlaw24_rising.mono _ _)
   | (with_reducible exact LeO.refl _)
   | (with_reducible exact LeO.none _)
   | (with_reducible refine LeO.ite ?_ ?_)
   | (with_reducible refine LeO.bind ?_ (fun _ => ?_))
   | exact ih0 _ _ _ _
   | exact ih1 _ _ _ _ _ _
   | exact examboardlaw24_rising.mono _ _
   | exact LeO.none _
   | refine LeO.ite ?_ ?_
   | refine LeO.bind ?_ (fun _ => ?_)
set_option maxHeartbeats 8000000 in
set_option maxRecDepth 100000 in
theorem examboardlaw24_fits.calls (k : Nat) (A0_0 : Option Addr) (c0_0 : Nat) (l0_0 : List Int) (A0_1 : Option Addr) (c0_1 : Nat) (l0_1 : List Int) (A0_2 : Option Addr) (c0_2 : Nat) (l0_2 : List (List Int)) (r : Bool) (w : World) (hr0_0 : Kd.C (Kd.int .i64) w A0_0 l0_0.length l0_0) (hc0_0 : l0_0.length ≤ c0_0) (hr0_1 : Kd.C (Kd.int .i64) w A0_1 l0_1.length l0_1) (hc0_1 : l0_1.length ≤ c0_1) (hr0_2 : Kd.C (Kd.slice 3 (Kd.int .i64)) w A0_2 l0_2.length l0_2) (hc0_2 : l0_2.length ≤ c0_2) (h : examboardlaw24_fits.f k l0_0 l0_1 l0_2 = some r) :
  Calls Try.prog 24 #[.agg #[.slice A0_0 l0_0.length c0_0, .slice A0_1 l0_1.length c0_1, .slice A0_2 l0_2.length c0_2]] w fun e w' => e = .returned (.bool r) ∧ Below w.heap.size w w' := by
 have hu39 := Try.underlying39
 have HR0_0 := Am hr0_0
 have HC0_0 := Am hc0_0
 clear hr0_0 hc0_0
 have HR0_1 := Am hr0_1
 have HC0_1 := Am hc0_1
 clear hr0_1 hc0_1
 have HR0_2 := Am hr0_2
 have HC0_2 := Am hc0_2
 clear hr0_2 hc0_2
 have HB := Am (Below.refl w.heap.size w)
 have H : (if (l0_2.length : Int) = (l0_0.length : Int) then ((examboardlaw24_rising.f k l0_0).bind fun t567 => (if t567 = true then ((examboardlaw24_rising.f k l0_1).bind fun t568 => (examboardlaw24_fits.j0 k (!t568) l0_0 l0_1 l0_2)) else (examboardlaw24_fits.j0 k true l0_0 l0_1 l0_2))) else (examboardlaw24_fits.j0 k true l0_0 l0_1 l0_2)) = some r := h
 clear h
 have HC2 := Am H
 clear H
 go_enter Try.func24, Try.ntmps24
 go_upto_region 1 with (first | ((with_reducible refine gate_dst (N := 1) rfl ?_); refine box_event ?hg (N := 1) ?hd (cs := #[.slice A0_0 l0_0.length c0_0, .slice A0_1 l0_1.length c0_1, .slice A0_2 l0_2.length c0_2]) (t := 39) ?hr ?_; (case hd => rfl); (case hg => rfl); (case hr => first | (go_simp; done) | (go_simp; rfl)); intro gb566 hg w3 hbox hb; have n0_ := Am (below_step (Bl HB) hb); have n1_ := Am (hbox); have n2_ := Am ((by rw [hg]; exact (below_size (Bl HB)) : w.heap.size ≤ gb566)); have n3_ := Am ((by rw [hg]; exact (below_size (Bl HB)) : w.heap.size ≤ gb566)); clear HB; have HB := n0_; have BK566 := n1_; have GW566 := n2_; have GE566 := n3_; clear n0_ n1_ n2_ n3_; clear hb hbox hg))
 (try simp only [Act.put, List.setIfInBounds_toArray, List.set_cons_zero, List.set_cons_succ])
 go_cut [23] (fun v23 wc => ∃ (kq : Nat) (x23_1 : Bool), v23 = .bool x23_1 ∧ Aside0 (examboardlaw24_fits.j0 kq x23_1 l0_0 l0_1 l0_2 = some r) ∧ Aside0 (kq ≤ k) ∧ Aside0 (wc.heap[gb566]? = some (.cells #[(.slice A0_0 l0_0.length c0_0), (.slice A0_1 l0_1.length c0_1), (.slice A0_2 l0_2.length c0_2)] 39 (0, 0))) ∧ Aside0 (Below w.heap.size w wc))
 case first =>
  have H := HC2.out
  clear HC2
  by_cases c4 : (l0_2.length : Int) = (l0_0.length : Int)
  ·rw [if_pos c4] at H
   have c4b0 : ((l0_2.length : Int) == (l0_0.length : Int)) = true := beq_iff_eq.mpr c4
   have c4b1 : ((l0_2.length : Int) != (l0_0.length : Int)) = false := bne_eq_false_iff_eq.mpr c4
   have c4b2 : (l0_2.length == l0_0.length) = true := by first | simpa using c4 | (simp at c4 ⊢; omega)
   clear c4
   (first | rw [c4b0] | (simp only [i64_w, i32_w]; rw [c4b0]) | skip)
   replace H := Option.bind_eq_some_iff.mp H
   obtain ⟨t567, A50, H⟩ := H
   replace H : (if t567 = true then ((examboardlaw24_rising.f k l0_1).bind fun t568 => (examboardlaw24_fits.j0 k (!t568) l0_0 l0_1 l0_2)) else (examboardlaw24_fits.j0 k true l0_0 l0_1 l0_2)) = some r := H
   have A5 := Am A50
   clear A50
   by_cases c6 : t567 = true
   ·subst c6
    have H1 : ((examboardlaw24_rising.f k l0_1).bind fun t568 => (examboardlaw24_fits.j0 k (!t568) l0_0 l0_1 l0_2)) = some r := by rw [if_pos rfl] at H; exact H
    clear H
    have H := H1
    clear H1
    replace H := Option.bind_eq_some_iff.mp H
    obtain ⟨t568, A70, H⟩ := H
    replace H : (examboardlaw24_fits.j0 k (!t568) l0_0 l0_1 l0_2) = some r := H
    have A7 := Am A70
    clear A70
    have H' := Am H
    clear H
    have hcz8_0 : w3.cell? ⟨gb566, 0, none⟩ = some (.slice A0_0 l0_0.length c0_0) := (blk_cell BK566.out 0).trans rfl
    have hcz8_1 : w3.cell? ⟨gb566, 1, none⟩ = some (.slice A0_1 l0_1.length c0_1) := (blk_cell BK566.out 1).trans rfl
    have hcz8_2 : w3.cell? ⟨gb566, 2, none⟩ = some (.slice A0_2 l0_2.length c0_2) := (blk_cell BK566.out 2).trans rfl
    have hfz8_0 := blk_frozen BK566.out 0
    have hfz8_1 := blk_frozen BK566.out 1
    have hfz8_2 := blk_frozen BK566.out 2
    go_wp2_with (first | (go_at_call 46; (with_reducible refine (examboardlaw24_rising.calls k _ _ l0_0 true _ ?side1 ?side2 A5.out).mono ?_); (case side1 => repeat (first | exact (Kd.C_below HR0_0.out HB.out) | (with_reducible refine Kd.C_alloc ?_ _) | (with_reducible refine Kd.C_drewN ?_ _) | (with_reducible refine Kd.C_drew ?_))); (case side2 => exact HC0_0.out); rintro e w' ⟨rfl, ⟨nd, rfl⟩⟩) | (go_at_call 46; (with_reducible refine (examboardlaw24_rising.calls k _ _ l0_1 t568 _ ?side1 ?side2 A7.out).mono ?_); (case side1 => repeat (first | exact (Kd.C_below HR0_1.out (by repeat first | exact Bl HB | refine Bp (below_set ?_ GE566.out))) | (with_reducible refine Kd.C_alloc ?_ _) | (with_reducible refine Kd.C_drewN ?_ _) | (with_reducible refine Kd.C_drew ?_))); (case side2 => exact HC0_1.out); rintro e w' ⟨rfl, ⟨nd, rfl⟩⟩))
    go_meet
    case rel => exact ⟨_, (!t568), (by first | rfl | (simp; done) | (simp [*]; done)), H', ⟨by first | omega | exact Nat.le_refl _⟩, ⟨Kl BK566⟩, ⟨by repeat first | exact Bl HB | refine Bp (below_set ?_ GE566.out)⟩⟩
   ·replace c6 := Bool.eq_false_iff.mpr c6
    subst c6
    have H1 : (examboardlaw24_fits.j0 k true l0_0 l0_1 l0_2) = some r := by rw [if_neg (show ¬ (false = true) by decide)] at H; exact H
    clear H
    have H := H1
    clear H1
    have H' := Am H
    clear H
    have hcz9_0 : w3.cell? ⟨gb566, 0, none⟩ = some (.slice A0_0 l0_0.length c0_0) := (blk_cell BK566.out 0).trans rfl
    have hcz9_1 : w3.cell? ⟨gb566, 1, none⟩ = some (.slice A0_1 l0_1.length c0_1) := (blk_cell BK566.out 1).trans rfl
    have hcz9_2 : w3.cell? ⟨gb566, 2, none⟩ = some (.slice A0_2 l0_2.length c0_2) := (blk_cell BK566.out 2).trans rfl
    have hfz9_0 := blk_frozen BK566.out 0
    have hfz9_1 := blk_frozen BK566.out 1
    have hfz9_2 := blk_frozen BK566.out 2
    go_wp2_with (first | (go_at_call 46; (with_reducible refine (examboardlaw24_rising.calls k _ _ l0_0 false _ ?side1 ?side2 A5.out).mono ?_); (case side1 => repeat (first | exact (Kd.C_below HR0_0.out HB.out) | (with_reducible refine Kd.C_alloc ?_ _) | (with_reducible refine Kd.C_drewN ?_ _) | (with_reducible refine Kd.C_drew ?_))); (case side2 => exact HC0_0.out); rintro e w' ⟨rfl, ⟨nd, rfl⟩⟩))
    go_meet
    case rel => exact ⟨_, (true), (by first | rfl | (simp; done) | (simp [*]; done)), H', ⟨by first | omega | exact Nat.le_refl _⟩, ⟨Kl BK566⟩, ⟨by repeat first | exact Bl HB | refine Bp (below_set ?_ GE566.out)⟩⟩
  ·rw [if_neg c4] at H
   have c4b0 : ((l0_2.length : Int) == (l0_0.length : Int)) = false := beq_eq_false_iff_ne.mpr c4
   have c4b1 : ((l0_2.length : Int) != (l0_0.length : Int)) = true := bne_iff_ne.mpr c4
   have c4b2 : (l0_2.length == l0_0.length) = false := by first | simpa using c4 | (simp at c4 ⊢; omega)
   (first | rw [c4b0] | (simp only [i64_w, i32_w]; rw [c4b0]) | skip)
   have H' := Am H
   clear H
   have hcz10_0 : w3.cell? ⟨gb566, 0, none⟩ = some (.slice A0_0 l0_0.length c0_0) := (blk_cell BK566.out 0).trans rfl
   have hcz10_1 : w3.cell? ⟨gb566, 1, none⟩ = some (.slice A0_1 l0_1.length c0_1) := (blk_cell BK566.out 1).trans rfl
   have hcz10_2 : w3.cell? ⟨gb566, 2, none⟩ = some (.slice A0_2 l0_2.length c0_2) := (blk_cell BK566.out 2).trans rfl
   have hfz10_0 := blk_frozen BK566.out 0
   have hfz10_1 := blk_frozen BK566.out 1
   have hfz10_2 := blk_frozen BK566.out 2
   go_wp2
   go_meet
   case rel => exact ⟨_, (true), (by first | rfl | (simp; done) | (simp [*]; done)), H', ⟨by first | omega | exact Nat.le_refl _⟩, ⟨Kl BK566⟩, ⟨by repeat first | exact Bl HB | refine Bp (below_set ?_ GE566.out)⟩⟩
 case rest =>
  clear HC2
  try clear c2
  try clear p2
  try clear c4
  try clear c4b0
  try clear c4b1
  try clear c4b2
  try clear c6
  try clear hcz10_0
  try clear hcz10_1
  try clear hcz10_2
  try clear hcz8_0
  try clear hcz8_1
  try clear hcz8_2
  try clear hcz9_0
  try clear hcz9_1
  try clear hcz9_2
  try clear hfz10_0
  try clear hfz10_1
  try clear hfz10_2
  try clear hfz8_0
  try clear hfz8_1
  try clear hfz8_2
  try clear hfz9_0
  try clear hfz9_1
  try clear hfz9_2
  obtain ⟨kq, x23_1, rfl, HA, HJ1, BK566, HB⟩ := hcut
  cases kq with
  | zero => exact absurd HA.out (by simp [examboardlaw24_fits.j0])
  | succ kj1 =>
   have H := HA.out
   clear HA
   simp only [examboardlaw24_fits.j0] at H
   by_cases c11 : x23_1 = true
   ·subst c11
    have H1 : (some false) = some r := by rw [if_pos rfl] at H; exact H
    clear H
    have H := H1
    clear H1
    obtain rfl := Option.some.inj H
    go_wp2
    go_ret
    exact ⟨by first | rfl | (simp [errW_none, errW_some] <;> rfl) | (simp [*, errW_none, errW_some] <;> rfl), by repeat first | exact Bl HB | refine Bp (below_set ?_ GE566.out)⟩
   ·replace c11 := Bool.eq_false_iff.mpr c11
    subst c11
    have H1 : (examboardlaw24_fits.l0 kj1 l0_2 (l0_2.length : Int) 0 l0_0 l0_1 l0_2) = some r := by rw [if_neg (show ¬ (false = true) by decide)] at H; exact H
    clear H
    have H := H1
    clear H1
    have H' := Am H
    clear H
    have hcz12_0 : wc.cell? ⟨gb566, 0, none⟩ = some (.slice A0_0 l0_0.length c0_0) := (blk_cell BK566.out 0).trans rfl
    have hcz12_1 : wc.cell? ⟨gb566, 1, none⟩ = some (.slice A0_1 l0_1.length c0_1) := (blk_cell BK566.out 1).trans rfl
    have hcz12_2 : wc.cell? ⟨gb566, 2, none⟩ = some (.slice A0_2 l0_2.length c0_2) := (blk_cell BK566.out 2).trans rfl
    have hfz12_0 := blk_frozen BK566.out 0
    have hfz12_1 := blk_frozen BK566.out 1
    have hfz12_2 := blk_frozen BK566.out 2
    go_wp2
    go_loopg [27] kj1 (fun kq v27 w' => ∃ (x27_2 : Int), v27 = .int .i64 x27_2 ∧ Aside0 (examboardlaw24_fits.l0 kq l0_2 (l0_2.length : Int) x27_2 l0_0 l0_1 l0_2 = some r) ∧ Aside0 (kq ≤ kj1) ∧ Aside0 (w'.heap[gb566]? = some (.cells #[(.slice A0_0 l0_0.length c0_0), (.slice A0_1 l0_1.length c0_1), (.slice A0_2 l0_2.length c0_2)] 39 (0, 0))) ∧ Aside0 (Below w.heap.size w w'))
    case atStart => exact ⟨(0), (by first | rfl | (simp; done) | (simp [*]; done)), H', ⟨Nat.le_refl _⟩, ⟨Kl BK566⟩, ⟨by repeat first | exact Bl HB | refine Bp (below_set ?_ GE566.out)⟩⟩
    case round =>
     clear H'
     try clear c1
     try clear c2
     try clear p2
     try clear c4
     try clear c4b0
     try clear c4b1
     try clear c4b2
     try clear c6
     try clear c11
     try clear hcz10_0
     try clear hcz10_1
     try clear hcz10_2
     try clear hcz12_0
     try clear hcz12_1
     try clear hcz12_2
     try clear hcz8_0
     try clear hcz8_1
     try clear hcz8_2
     try clear hcz9_0
     try clear hcz9_1
     try clear hcz9_2
     try clear hfz10_0
     try clear hfz10_1
     try clear hfz10_2
     try clear hfz12_0
     try clear hfz12_1
     try clear hfz12_2
     try clear hfz8_0
     try clear hfz8_1
     try clear hfz8_2
     try clear hfz9_0
     try clear hfz9_1
     try clear hfz9_2
     try clear p2
     obtain ⟨x27_2, rfl, HA, HK2, BK566, HB⟩ := hrel
     cases gk with
     | zero => exact absurd HA.out (by simp [examboardlaw24_fits.l0])
     | succ k2 =>
      have H := HA.out
      clear HA
      simp only [examboardlaw24_fits.l0] at H
      by_cases c13 : x27_2 < (l0_2.length : Int)
      ·rw [if_pos c13] at H
       have c13b0 : decide (x27_2 < (l0_2.length : Int)) = true := decide_eq_true c13
       clear c13
       by_cases c14 : 0 ≤ x27_2
       ·rw [if_pos c14] at H
        have c14b0 : decide (0 ≤ x27_2) = true := decide_eq_true c14
        clear c14
        by_cases c15 : x27_2 < (l0_2.length : Int)
        ·rw [if_pos c15] at H
         have c15b0 : decide (x27_2 < (l0_2.length : Int)) = true := decide_eq_true c15
         clear c15
         by_cases c16 : ((rd_L1 l0_2 x27_2).length : Int) = (l0_1.length : Int)
         ·rw [if_pos c16] at H
          have c16b0 : (((rd_L1 l0_2 x27_2).length : Int) == (l0_1.length : Int)) = true := beq_iff_eq.mpr c16
          have c16b1 : (((rd_L1 l0_2 x27_2).length : Int) != (l0_1.length : Int)) = false := bne_eq_false_iff_eq.mpr c16
          have c16b2 : ((rd_L1 l0_2 x27_2).length == l0_1.length) = true := by first | simpa using c16 | (simp at c16 ⊢; omega)
          clear c16
          have H' := Am H
          clear H
          have p569 : 0 ≤ (x27_2 : Int) := of_decide_eq_true (by first | (with_reducible assumption) | assumption)
          have q569 : x27_2 < (l0_2.length : Int) := of_decide_eq_true (by first | (with_reducible assumption) | assumption)
          obtain ⟨ad569, A569_0, c569_0, e569, hx569_0, hl569_0, hi569_0⟩ := at_L1 HR0_2.out x27_2 p569 q569
          cases e569
          replace hx569_0 := (HB.out.cell (World.block_lt_of_cell? w _ hx569_0)).trans hx569_0
          have HR569_0 := Am hi569_0
          have HC569_0 := Am hl569_0
          clear hi569_0 hl569_0
          replace p569 := eq_true p569
          replace q569 := eq_true q569
          have hcz17_0 : wr.cell? ⟨gb566, 0, none⟩ = some (.slice A0_0 l0_0.length c0_0) := (blk_cell BK566.out 0).trans rfl
          have hcz17_1 : wr.cell? ⟨gb566, 1, none⟩ = some (.slice A0_1 l0_1.length c0_1) := (blk_cell BK566.out 1).trans rfl
          have hcz17_2 : wr.cell? ⟨gb566, 2, none⟩ = some (.slice (some ad569) l0_2.length c0_2) := (blk_cell BK566.out 2).trans rfl
          have hfz17_0 := blk_frozen BK566.out 0
          have hfz17_1 := blk_frozen BK566.out 1
          have hfz17_2 := blk_frozen BK566.out 2
          go_wp2
          go_roundg k2
          case measure => have := HJ1.out; have := HK2.out; omega
          case rel => exact ⟨(wrap64 (x27_2 + 1)), (by first | rfl | (simp; done) | (simp [*]; done)), H', ⟨by have := HJ1.out; have := HK2.out; omega⟩, ⟨Kl BK566⟩, ⟨by repeat first | exact Bl HB | refine Bp (below_set ?_ GE566.out)⟩⟩
         ·rw [if_neg c16] at H
          have c16b0 : (((rd_L1 l0_2 x27_2).length : Int) == (l0_1.length : Int)) = false := beq_eq_false_iff_ne.mpr c16
          have c16b1 : (((rd_L1 l0_2 x27_2).length : Int) != (l0_1.length : Int)) = true := bne_iff_ne.mpr c16
          have c16b2 : ((rd_L1 l0_2 x27_2).length == l0_1.length) = false := by first | simpa using c16 | (simp at c16 ⊢; omega)
          obtain rfl := Option.some.inj H
          have p569 : 0 ≤ (x27_2 : Int) := of_decide_eq_true (by first | (with_reducible assumption) | assumption)
          have q569 : x27_2 < (l0_2.length : Int) := of_decide_eq_true (by first | (with_reducible assumption) | assumption)
          obtain ⟨ad569, A569_0, c569_0, e569, hx569_0, hl569_0, hi569_0⟩ := at_L1 HR0_2.out x27_2 p569 q569
          cases e569
          replace hx569_0 := (HB.out.cell (World.block_lt_of_cell? w _ hx569_0)).trans hx569_0
          have HR569_0 := Am hi569_0
          have HC569_0 := Am hl569_0
          clear hi569_0 hl569_0
          replace p569 := eq_true p569
          replace q569 := eq_true q569
          have hcz18_0 : wr.cell? ⟨gb566, 0, none⟩ = some (.slice A0_0 l0_0.length c0_0) := (blk_cell BK566.out 0).trans rfl
          have hcz18_1 : wr.cell? ⟨gb566, 1, none⟩ = some (.slice A0_1 l0_1.length c0_1) := (blk_cell BK566.out 1).trans rfl
          have hcz18_2 : wr.cell? ⟨gb566, 2, none⟩ = some (.slice (some ad569) l0_2.length c0_2) := (blk_cell BK566.out 2).trans rfl
          have hfz18_0 := blk_frozen BK566.out 0
          have hfz18_1 := blk_frozen BK566.out 1
          have hfz18_2 := blk_frozen BK566.out 2
          go_wp2
          go_ret
          exact ⟨by first | rfl | (simp [errW_none, errW_some] <;> rfl) | (simp [*, errW_none, errW_some] <;> rfl), by repeat first | exact Bl HB | refine Bp (below_set ?_ GE566.out)⟩
        ·rw [if_neg c15] at H
         exact absurd H (by simp)
       ·rw [if_neg c14] at H
        exact absurd H (by simp)
      ·rw [if_neg c13] at H
       have c13b0 : decide (x27_2 < (l0_2.length : Int)) = false := decide_eq_false c13
       clear c13
       obtain rfl := Option.some.inj H
       go_wp2
       go_ret
       exact ⟨by first | rfl | (simp [errW_none, errW_some] <;> rfl) | (simp [*, errW_none, errW_some] <;> rfl), by repeat first | exact Bl HB | refine Bp (below_set ?_ GE566.out)⟩

end Go.Proofs.Ytgeplglggcoaiab.Matrix
