/- Lean functions and walks for Go functions of this seat, written by this claim's own program (wip/tools/xprint.py) over the kit's print. -/
import Derived.Test.YtgeplglggcoaiabMatrixx0
import Derived.Test.YtgeplglggcoaiabMatrixx30
namespace Go.Proofs.Ytgeplglggcoaiab.Matrix
open Go.RowKit Go.Sort Go.Proofs.YtgeplglggcoaiabMakec Go.Proofs.YtgeplglggcoaiabW.PrintWords Go.Proofs.YtgeplglggcoaiabW.PrintLast Go.Proofs.YtgeplglggcoaiabW.PrintMore
attribute [local go_sem] max2_int min2_int max_two min_two max_three min_three max_four min_four   -- for this text's walks alone
set_option linter.unusedVariables false
set_option linter.unusedSimpArgs false

/-! ### examboardref24_cell: function 45 -/
def examboardref24_cell.f (k : Nat) (l0_0 : List Int) (l0_1 : List Int) (l0_2 : List (List Int)) (a1 : Int) (a2 : Int) : Option (Int × Bool) := (examboardref24_find.f k l0_0 a1).bind fun t485 => ((examboardref24_find.f k l0_1 a2).bind fun t486 => (if t485 < 0 then (some ((-1), false)) else (if t486 < 0 then (some ((-1), false)) else (if 0 ≤ t485 then (if t485 < (l0_2.length : Int) then (if 0 ≤ t486 then (if t486 < ((rd_L1 l0_2 t485).length : Int) then (some (rd (rd_L1 l0_2 t485) t486, true)) else (none)) else (none)) else (none)) else (none)))))
theorem examboardref24_cell.mono : ∀ a0 a1 a2 a3 a4 k, LeO (examboardref24_cell.f k a0 a1 a2 a3 a4) (examboardref24_cell.f (k + 1) a0 a1 a2 a3 a4) := by
 intro a0 a1 a2 a3 a4 k
 unfold examboardref24_cell.f
 repeat' first
   | (with_reducible exact examboardref24_find.mono _ _ _)
   | (with_reducible exact LeO.refl _)
   | (with_reducible exact LeO.none _)
   | (with_reducible refine LeO.ite ?_ ?_)
   | (with_reducible refine LeO.bind ?_ (fun _ => ?_))
   | exact examboardref24_find.mono _ _ _
   | exact LeO.none _
   | refine LeO.ite ?_ ?_
   | refine LeO.bind ?_ (fun _ => ?_)
set_option maxHeartbeats 8000000 in
set_option maxRecDepth 100000 in
theorem examboardref24_cell.calls (k : Nat) (A0_0 : Option Addr) (c0_0 : Nat) (l0_0 : List Int) (A0_1 : Option Addr) (c0_1 : Nat) (l0_1 : List Int) (A0_2 : Option Addr) (c0_2 : Nat) (l0_2 : List (List Int)) (a1 : Int) (a2 : Int) (r1 : Int) (r2 : Bool) (w : World) (hr0_0 : Kd.C (Kd.int .i64) w A0_0 l0_0.length l0_0) (hc0_0 : l0_0.length ≤ c0_0) (hr0_1 : Kd.C (Kd.int .i64) w A0_1 l0_1.length l0_1) (hc0_1 : l0_1.length ≤ c0_1) (hr0_2 : Kd.C (Kd.slice 3 (Kd.int .i64)) w A0_2 l0_2.length l0_2) (hc0_2 : l0_2.length ≤ c0_2) (h : examboardref24_cell.f k l0_0 l0_1 l0_2 a1 a2 = some (r1, r2)) :
  Calls Try.prog 45 #[.agg #[.slice A0_0 l0_0.length c0_0, .slice A0_1 l0_1.length c0_1, .slice A0_2 l0_2.length c0_2], .int .i64 a1, .int .i64 a2] w fun e w' => e = .returned (.tuple #[.int .i64 r1, .bool r2]) ∧ Below w.heap.size w w' := by
 have hu39 := Try.underlying39
 have HR0_0 := Am hr0_0
 have HC0_0 := Am hc0_0
 clear hr0_0 hc0_0
 have HR0_1 := Am hr0_1
 have HC0_1 := Am hc0_1
 clear hr0_1 hc0_1
 have HR0_2 := Am hr0_2
 have HC0_2 := Am hc0_2
 clear hr0_2 hc0_2
 have HB := Am (Below.refl w.heap.size w)
 have H : ((examboardref24_find.f k l0_0 a1).bind fun t485 => ((examboardref24_find.f k l0_1 a2).bind fun t486 => (if t485 < 0 then (some ((-1), false)) else (if t486 < 0 then (some ((-1), false)) else (if 0 ≤ t485 then (if t485 < (l0_2.length : Int) then (if 0 ≤ t486 then (if t486 < ((rd_L1 l0_2 t485).length : Int) then (some (rd (rd_L1 l0_2 t485) t486, true)) else (none)) else (none)) else (none)) else (none)))))) = some (r1, r2) := h
 clear h
 replace H := Option.bind_eq_some_iff.mp H
 obtain ⟨t485, A40, H⟩ := H
 replace H : ((examboardref24_find.f k l0_1 a2).bind fun t486 => (if t485 < 0 then (some ((-1), false)) else (if t486 < 0 then (some ((-1), false)) else (if 0 ≤ t485 then (if t485 < (l0_2.length : Int) then (if 0 ≤ t486 then (if t486 < ((rd_L1 l0_2 t485).length : Int) then (some (rd (rd_L1 l0_2 t485) t486, true)) else (none)) else (none)) else (none)) else (none))))) = some (r1, r2) := H
 have A4 := Am A40
 clear A40
 replace H := Option.bind_eq_some_iff.mp H
 obtain ⟨t486, A50, H⟩ := H
 replace H : (if t485 < 0 then (some ((-1), false)) else (if t486 < 0 then (some ((-1), false)) else (if 0 ≤ t485 then (if t485 < (l0_2.length : Int) then (if 0 ≤ t486 then (if t486 < ((rd_L1 l0_2 t485).length : Int) then (some (rd (rd_L1 l0_2 t485) t486, true)) else (none)) else (none)) else (none)) else (none)))) = some (r1, r2) := H
 have A5 := Am A50
 clear A50
 by_cases c6 : t485 < 0
 ·rw [if_pos c6] at H
  have c6b0 : decide (t485 < 0) = true := decide_eq_true c6
  clear c6
  simp only [Option.some.injEq, Prod.mk.injEq] at H
  obtain ⟨rfl, rfl⟩ := H
  go_enter Try.func45, Try.ntmps45
  go_wp2_with (first | ((with_reducible refine gate_dst (N := 3) rfl ?_); refine box_event ?hg (N := 3) ?hd (cs := #[.slice A0_0 l0_0.length c0_0, .slice A0_1 l0_1.length c0_1, .slice A0_2 l0_2.length c0_2]) (t := 39) ?hr ?_; (case hd => rfl); (case hg => rfl); (case hr => first | (go_simp; done) | (go_simp; rfl)); intro gb484 hg w7 hbox hb; have n0_ := Am (below_step (Bl HB) hb); have n1_ := Am (hbox); have n2_ := Am ((by rw [hg]; exact (below_size (Bl HB)) : w.heap.size ≤ gb484)); have n3_ := Am ((by rw [hg]; exact (below_size (Bl HB)) : w.heap.size ≤ gb484)); clear HB; have HB := n0_; have BK484 := n1_; have GW484 := n2_; have GE484 := n3_; clear n0_ n1_ n2_ n3_; clear hb hbox hg; have hcz8_0 : w7.cell? ⟨gb484, 0, none⟩ = some (.slice A0_0 l0_0.length c0_0) := (blk_cell BK484.out 0).trans rfl; have hcz8_1 : w7.cell? ⟨gb484, 1, none⟩ = some (.slice A0_1 l0_1.length c0_1) := (blk_cell BK484.out 1).trans rfl; have hcz8_2 : w7.cell? ⟨gb484, 2, none⟩ = some (.slice A0_2 l0_2.length c0_2) := (blk_cell BK484.out 2).trans rfl; have hfz8_0 := blk_frozen BK484.out 0; have hfz8_1 := blk_frozen BK484.out 1; have hfz8_2 := blk_frozen BK484.out 2) | ((with_reducible refine gate_callee (f := 41) rfl ?_); refine goesL_ (some 13) rfl rfl Try.func41 (by kernel_rfl) rfl #[.slice A0_0 l0_0.length c0_0, .int .i64 a1] rfl (by (try simp only [List.map_toArray, List.map_cons, List.map_nil]); first | done | rfl | (simp only [List.length_drop, List.length_take]; rfl)) ?_; (with_reducible refine (examboardref24_find.calls k _ _ l0_0 a1 t485 _ ?side1 ?side2 A4.out).mono ?_); (case side1 => repeat (first | exact (Kd.C_below HR0_0.out HB.out) | (with_reducible refine Kd.C_alloc ?_ _) | (with_reducible refine Kd.C_drewN ?_ _) | (with_reducible refine Kd.C_drew ?_))); (case side2 => exact HC0_0.out); rintro e w' ⟨rfl, ⟨nd, rfl⟩⟩; refine ⟨_, rfl, ?_⟩) | ((with_reducible refine gate_callee (f := 41) rfl ?_); refine goesL_ (some 17) rfl rfl Try.func41 (by kernel_rfl) rfl #[.slice A0_1 l0_1.length c0_1, .int .i64 a2] rfl (by (try simp only [List.map_toArray, List.map_cons, List.map_nil]); first | done | rfl | (simp only [List.length_drop, List.length_take]; rfl)) ?_; (with_reducible refine (examboardref24_find.calls k _ _ l0_1 a2 t486 _ ?side1 ?side2 A5.out).mono ?_); (case side1 => repeat (first | exact (Kd.C_below HR0_1.out (by repeat first | exact Bl HB | refine Bp (below_set ?_ GE484.out))) | (with_reducible refine Kd.C_alloc ?_ _) | (with_reducible refine Kd.C_drewN ?_ _) | (with_reducible refine Kd.C_drew ?_))); (case side2 => exact HC0_1.out); rintro e w' ⟨rfl, ⟨nd, rfl⟩⟩; refine ⟨_, rfl, ?_⟩))
  go_ret2
  exact ⟨by first | rfl | (simp [errW_none, errW_some] <;> rfl) | (simp [*, errW_none, errW_some] <;> rfl), by repeat first | exact Bl HB | refine Bp (below_set ?_ GE484.out)⟩
 ·rw [if_neg c6] at H
  have c6b0 : decide (t485 < 0) = false := decide_eq_false c6
  clear c6
  by_cases c9 : t486 < 0
  ·rw [if_pos c9] at H
   have c9b0 : decide (t486 < 0) = true := decide_eq_true c9
   clear c9
   simp only [Option.some.injEq, Prod.mk.injEq] at H
   obtain ⟨rfl, rfl⟩ := H
   go_enter Try.func45, Try.ntmps45
   go_wp2_with (first | ((with_reducible refine gate_dst (N := 3) rfl ?_); refine box_event ?hg (N := 3) ?hd (cs := #[.slice A0_0 l0_0.length c0_0, .slice A0_1 l0_1.length c0_1, .slice A0_2 l0_2.length c0_2]) (t := 39) ?hr ?_; (case hd => rfl); (case hg => rfl); (case hr => first | (go_simp; done) | (go_simp; rfl)); intro gb484 hg w10 hbox hb; have n0_ := Am (below_step (Bl HB) hb); have n1_ := Am (hbox); have n2_ := Am ((by rw [hg]; exact (below_size (Bl HB)) : w.heap.size ≤ gb484)); have n3_ := Am ((by rw [hg]; exact (below_size (Bl HB)) : w.heap.size ≤ gb484)); clear HB; have HB := n0_; have BK484 := n1_; have GW484 := n2_; have GE484 := n3_; clear n0_ n1_ n2_ n3_; clear hb hbox hg; have hcz11_0 : w10.cell? ⟨gb484, 0, none⟩ = some (.slice A0_0 l0_0.length c0_0) := (blk_cell BK484.out 0).trans rfl; have hcz11_1 : w10.cell? ⟨gb484, 1, none⟩ = some (.slice A0_1 l0_1.length c0_1) := (blk_cell BK484.out 1).trans rfl; have hcz11_2 : w10.cell? ⟨gb484, 2, none⟩ = some (.slice A0_2 l0_2.length c0_2) := (blk_cell BK484.out 2).trans rfl; have hfz11_0 := blk_frozen BK484.out 0; have hfz11_1 := blk_frozen BK484.out 1; have hfz11_2 := blk_frozen BK484.out 2) | ((with_reducible refine gate_callee (f := 41) rfl ?_); refine goesL_ (some 13) rfl rfl Try.func41 (by kernel_rfl) rfl #[.slice A0_0 l0_0.length c0_0, .int .i64 a1] rfl (by (try simp only [List.map_toArray, List.map_cons, List.map_nil]); first | done | rfl | (simp only [List.length_drop, List.length_take]; rfl)) ?_; (with_reducible refine (examboardref24_find.calls k _ _ l0_0 a1 t485 _ ?side1 ?side2 A4.out).mono ?_); (case side1 => repeat (first | exact (Kd.C_below HR0_0.out HB.out) | (with_reducible refine Kd.C_alloc ?_ _) | (with_reducible refine Kd.C_drewN ?_ _) | (with_reducible refine Kd.C_drew ?_))); (case side2 => exact HC0_0.out); rintro e w' ⟨rfl, ⟨nd, rfl⟩⟩; refine ⟨_, rfl, ?_⟩) | ((with_reducible refine gate_callee (f := 41) rfl ?_); refine goesL_ (some 17) rfl rfl Try.func41 (by kernel_rfl) rfl #[.slice A0_1 l0_1.length c0_1, .int .i64 a2] rfl (by (try simp only [List.map_toArray, List.map_cons, List.map_nil]); first | done | rfl | (simp only [List.length_drop, List.length_take]; rfl)) ?_; (with_reducible refine (examboardref24_find.calls k _ _ l0_1 a2 t486 _ ?side1 ?side2 A5.out).mono ?_); (case side1 => repeat (first | exact (Kd.C_below HR0_1.out (by repeat first | exact Bl HB | refine Bp (below_set ?_ GE484.out))) | (with_reducible refine Kd.C_alloc ?_ _) | (with_reducible refine Kd.C_drewN ?_ _) | (with_reducible refine Kd.C_drew ?_))); (case side2 => exact HC0_1.out); rintro e w' ⟨rfl, ⟨nd, rfl⟩⟩; refine ⟨_, rfl, ?_⟩))
   go_ret2
   exact ⟨by first | rfl | (simp [errW_none, errW_some] <;> rfl) | (simp [*, errW_none, errW_some] <;> rfl), by repeat first | exact Bl HB | refine Bp (below_set ?_ GE484.out)⟩
  ·rw [if_neg c9] at H
   have c9b0 : decide (t486 < 0) = false := decide_eq_false c9
   clear c9
   by_cases c12 : 0 ≤ t485
   ·rw [if_pos c12] at H
    have c12b0 : decide (0 ≤ t485) = true := decide_eq_true c12
    clear c12
    by_cases c13 : t485 < (l0_2.length : Int)
    ·rw [if_pos c13] at H
     have c13b0 : decide (t485 < (l0_2.length : Int)) = true := decide_eq_true c13
     clear c13
     by_cases c14 : 0 ≤ t486
     ·rw [if_pos c14] at H
      have c14b0 : decide (0 ≤ t486) = true := decide_eq_true c14
      clear c14
      by_cases c15 : t486 < ((rd_L1 l0_2 t485).length : Int)
      ·rw [if_pos c15] at H
       have c15b0 : decide (t486 < ((rd_L1 l0_2 t485).length : Int)) = true := decide_eq_true c15
       clear c15
       simp only [Option.some.injEq, Prod.mk.injEq] at H
       obtain ⟨rfl, rfl⟩ := H
       go_enter Try.func45, Try.ntmps45
       go_wp2_with (first | ((with_reducible refine gate_dst (N := 3) rfl ?_); refine box_event ?hg (N := 3) ?hd (cs := #[.slice A0_0 l0_0.length c0_0, .slice A0_1 l0_1.length c0_1, .slice A0_2 l0_2.length c0_2]) (t := 39) ?hr ?_; (case hd => rfl); (case hg => rfl); (case hr => first | (go_simp; done) | (go_simp; rfl)); intro gb484 hg w16 hbox hb; have n0_ := Am (below_step (Bl HB) hb); have n1_ := Am (hbox); have n2_ := Am ((by rw [hg]; exact (below_size (Bl HB)) : w.heap.size ≤ gb484)); have n3_ := Am ((by rw [hg]; exact (below_size (Bl HB)) : w.heap.size ≤ gb484)); clear HB; have HB := n0_; have BK484 := n1_; have GW484 := n2_; have GE484 := n3_; clear n0_ n1_ n2_ n3_; clear hb hbox hg; have hcz17_0 : w16.cell? ⟨gb484, 0, none⟩ = some (.slice A0_0 l0_0.length c0_0) := (blk_cell BK484.out 0).trans rfl; have hcz17_1 : w16.cell? ⟨gb484, 1, none⟩ = some (.slice A0_1 l0_1.length c0_1) := (blk_cell BK484.out 1).trans rfl; have hcz17_2 : w16.cell? ⟨gb484, 2, none⟩ = some (.slice A0_2 l0_2.length c0_2) := (blk_cell BK484.out 2).trans rfl; have hfz17_0 := blk_frozen BK484.out 0; have hfz17_1 := blk_frozen BK484.out 1; have hfz17_2 := blk_frozen BK484.out 2) | ((with_reducible refine gate_callee (f := 41) rfl ?_); refine goesL_ (some 13) rfl rfl Try.func41 (by kernel_rfl) rfl #[.slice A0_0 l0_0.length c0_0, .int .i64 a1] rfl (by (try simp only [List.map_toArray, List.map_cons, List.map_nil]); first | done | rfl | (simp only [List.length_drop, List.length_take]; rfl)) ?_; (with_reducible refine (examboardref24_find.calls k _ _ l0_0 a1 t485 _ ?side1 ?side2 A4.out).mono ?_); (case side1 => repeat (first | exact (Kd.C_below HR0_0.out HB.out) | (with_reducible refine Kd.C_alloc ?_ _) | (with_reducible refine Kd.C_drewN ?_ _) | (with_reducible refine Kd.C_drew ?_))); (case side2 => exact HC0_0.out); rintro e w' ⟨rfl, ⟨nd, rfl⟩⟩; refine ⟨_, rfl, ?_⟩) | ((with_reducible refine gate_callee (f := 41) rfl ?_); refine goesL_ (some 17) rfl rfl Try.func41 (by kernel_rfl) rfl #[.slice A0_1 l0_1.length c0_1, .int .i64 a2] rfl (by (try simp only [List.map_toArray, List.map_cons, List.map_nil]); first | done | rfl | (simp only [List.length_drop, List.length_take]; rfl)) ?_; (with_reducible refine (examboardref24_find.calls k _ _ l0_1 a2 t486 _ ?side1 ?side2 A5.out).mono ?_); (case side1 => repeat (first | exact (Kd.C_below HR0_1.out (by repeat first | exact Bl HB | refine Bp (below_set ?_ GE484.out))) | (with_reducible refine Kd.C_alloc ?_ _) | (with_reducible refine Kd.C_drewN ?_ _) | (with_reducible refine Kd.C_drew ?_))); (case side2 => exact HC0_1.out); rintro e w' ⟨rfl, ⟨nd, rfl⟩⟩; refine ⟨_, rfl, ?_⟩; have p487 : 0 ≤ (t485 : Int) := of_decide_eq_true (by first | (with_reducible assumption) | assumption); have q487 : t485 < (l0_2.length : Int) := of_decide_eq_true (by first | (with_reducible assumption) | assumption); obtain ⟨ad487, A487_0, c487_0, e487, hx487_0, hl487_0, hi487_0⟩ := at_L1 HR0_2.out t485 p487 q487; cases e487; replace hx487_0 := (HB.out.cell (World.block_lt_of_cell? w _ hx487_0)).trans hx487_0; have HR487_0 := Am hi487_0; have HC487_0 := Am hl487_0; clear hi487_0 hl487_0; replace p487 := eq_true p487; replace q487 := eq_true q487; have p488 : 0 ≤ (t486 : Int) := of_decide_eq_true (by first | (with_reducible assumption) | assumption); have q488 : t486 < ((rd_L1 l0_2 t485).length : Int) := of_decide_eq_true (by first | (with_reducible assumption) | assumption); obtain ⟨ad488, e488, hx488_0⟩ := Kd.at_int HR487_0.out t486 p488 q488; cases e488; replace hx488_0 := (HB.out.cell (World.block_lt_of_cell? w _ hx488_0)).trans hx488_0; replace p488 := eq_true p488; replace q488 := eq_true q488))
       go_ret2
       exact ⟨by first | rfl | (simp [errW_none, errW_some] <;> rfl) | (simp [*, errW_none, errW_some] <;> rfl), by repeat first | exact Bl HB | refine Bp (below_set ?_ GE484.out)⟩
      ·rw [if_neg c15] at H
       exact absurd H (by simp)
     ·rw [if_neg c14] at H
      exact absurd H (by simp)
    ·rw [if_neg c13] at H
     exact absurd H (by simp)
   ·rw [if_neg c12] at H
    exact absurd H (by simp)

end Go.Proofs.Ytgeplglggcoaiab.Matrix
