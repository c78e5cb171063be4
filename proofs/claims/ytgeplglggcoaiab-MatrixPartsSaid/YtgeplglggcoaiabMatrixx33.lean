/- Lean functions and walks for Go functions of this seat, written by this claim's own program (wip/tools/xprint.py) over the kit's print. -/
import Derived.Test.YtgeplglggcoaiabMatrixx0
import Derived.Test.YtgeplglggcoaiabMatrixx5
import Derived.Test.YtgeplglggcoaiabMatrixx30
import Derived.Test.YtgeplglggcoaiabMatrixx31
import Derived.Test.YtgeplglggcoaiabMatrixx32
namespace Go.Proofs.Ytgeplglggcoaiab.Matrix
open Go.RowKit Go.Sort Go.Proofs.YtgeplglggcoaiabMakec Go.Proofs.YtgeplglggcoaiabW.PrintWords Go.Proofs.YtgeplglggcoaiabW.PrintLast Go.Proofs.YtgeplglggcoaiabW.PrintMore
attribute [local go_sem] max2_int min2_int max_two min_two max_three min_three max_four min_four   -- for this text's walks alone
set_option linter.unusedVariables false
set_option linter.unusedSimpArgs false

/-! ### examboardref24_Select: function 17 -/
mutual
def examboardref24_Select.l0 : Nat → List Int → List Int → List Int → List Int → Int → Int → List Int → List Int → List (List Int) → List (List Int) → Option (List Int × List Int × (List (List Int)) × Int)
 | 0, _, _, _, _, _, _, _, _, _, _ => none
 | k + 1, x2, x37, x39, x41, x42, x43, x409000, x409001, x409002, x420002 => if x43 < x42 then (if 0 ≤ x43 then (if x43 < (x41.length : Int) then (examboardref24_Select.l1 k x2 (rd x41 x43) ([] : List Int) x37 x39 x41 x42 x43 x2 (x2.length : Int) 0 x409000 x409001 x409002 x420002) else (none)) else (none)) else (some (x37, x39, x420002, 0))
def examboardref24_Select.l1 : Nat → List Int → Int → List Int → List Int → List Int → List Int → Int → Int → List Int → Int → Int → List Int → List Int → List (List Int) → List (List Int) → Option (List Int × List Int × (List (List Int)) × Int)
 | 0, _, _, _, _, _, _, _, _, _, _, _, _, _, _, _ => none
 | k + 1, x2, x12, x13, x37, x39, x41, x42, x43, x47, x48, x49, x409000, x409001, x409002, x420002 => if x49 < x48 then (if 0 ≤ x49 then (if x49 < (x47.length : Int) then ((examboardref24_find.f k x409000 x12).bind fun t422 => (if 0 ≤ t422 then (if t422 < (x409002.length : Int) then ((examboardref24_find.f k x409001 (rd x47 x49)).bind fun t424 => (if 0 ≤ t424 then (if t424 < ((rd_L1 x409002 t422).length : Int) then (if x13.length < 17592186044416 then (examboardref24_Select.l1 k x2 x12 (x13 ++ [rd (rd_L1 x409002 t422) t424]) x37 x39 x41 x42 x43 x47 x48 (wrap64 (x49 + 1)) x409000 x409001 x409002 x420002) else (none)) else (none)) else (none))) else (none)) else (none))) else (none)) else (none)) else (if x420002.length < 5864062014805 then (examboardref24_Select.l0 k x2 x37 x39 x41 x42 (wrap64 (x43 + 1)) x409000 x409001 x409002 (x420002 ++ [x13])) else (none))
end
def examboardref24_Select.f (k : Nat) (l0_0 : List Int) (l0_1 : List Int) (l0_2 : List (List Int)) (l1 : List Int) (l2 : List Int) : Option (List Int × List Int × (List (List Int)) × Int) := (examboardref24_shaped.f k l0_0 l0_1 l0_2).bind fun t410 => (if t410 = true then ((examboardref24_wanted.f k l1 l0_0).bind fun t411 => (if t411 = 0 then ((examboardref24_wanted.f k l2 l0_1).bind fun t412 => (if t412 = 0 then ((examboardref24_copied.f k l1).bind fun t413 => ((examboardref24_copied.f k l2).bind fun t416 => (examboardref24_Select.l0 k l2 t413 t416 l1 (l1.length : Int) 0 l0_0 l0_1 l0_2 ([] : List (List Int))))) else (some (([] : List Int), ([] : List Int), ([] : List (List Int)), t412)))) else (some (([] : List Int), ([] : List Int), ([] : List (List Int)), t411)))) else (some (([] : List Int), ([] : List Int), ([] : List (List Int)), 1)))
theorem examboardref24_Select.mono_l : ∀ k, (∀ y0 y1 y2 y3 y4 y5 y6 y7 y8 y9, LeO (examboardref24_Select.l0 k y0 y1 y2 y3 y4 y5 y6 y7 y8 y9) (examboardref24_Select.l0 (k + 1) y0 y1 y2 y3 y4 y5 y6 y7 y8 y9)) ∧ (∀ y0 y1 y2 y3 y4 y5 y6 y7 y8 y9 y10 y11 y12 y13 y14, LeO (examboardref24_Select.l1 k y0 y1 y2 y3 y4 y5 y6 y7 y8 y9 y10 y11 y12 y13 y14) (examboardref24_Select.l1 (k + 1) y0 y1 y2 y3 y4 y5 y6 y7 y8 y9 y10 y11 y12 y13 y14))
 | 0 => ⟨fun _ _ _ _ _ _ _ _ _ _ r h => by simp [examboardref24_Select.l0] at h, fun _ _ _ _ _ _ _ _ _ _ _ _ _ _ _ r h => by simp [examboardref24_Select.l1] at h⟩
 | k + 1 => by
  obtain ⟨ih0, ih1⟩ := examboardref24_Select.mono_l k
  refine ⟨?_, ?_⟩
  ·intro y0 y1 y2 y3 y4 y5 y6 y7 y8 y9
   unfold examboardref24_Select.l0
   repeat' first
   | (with_reducible exact ih0 _ _ _ _ _ _ _ _ _ _)
   | (with_reducible exact ih1 _ _ _ _ _ _ _ _ _ _ _ _ _ _ _)
   | (with_reducible exact examboardref24_copied.mono _ _)
   | (with_reducible exact examboardref24_find.mono _ _ _)
   | (with_reducible exact examboardref24_shaped.mono _ _ _ _)
   | (with_reducible exact examboardref24_wanted.mono _ _ _)
   | (with_reducible exact LeO.refl _)
   | (with_reducible exact LeO.none _)
   | (with_reducible refine LeO.ite ?_ ?_)
   | (with_reducible refine LeO.bind ?_ (fun _ => ?_))
   | exact ih0 _ _ _ _ _ _ _ _ _ _
   | exact ih1 _ _ _ _ _ _ _ _ _ _ _ _ _ _ _
   | exact examboardref24_copied.mono _ _
   | exact examboardref24_find.mono _ _ _
   | exact examboardref24_shaped.mono _ _ _ _
   | exact examboardref24_wanted.mono _ _ _
   | exact LeO.none _
   | refine LeO.ite ?_ ?_
   | refine LeO.bind ?_ (fun _ => ?_)
  ·intro y0 y1 y2 y3 y4 y5 y6 y7 y8 y9 y10 y11 y12 y13 y14
   unfold examboardref24_Select.l1
   repeat' first
   | (with_reducible exact ih0 _ _ _ _ _ _ _ _ _ _)
   | (with_reducible exact ih1 _ _ _ _ _ _ _ _ _ _ _ _ _ _ _)
   | (with_reducible exact examboardref24_copied.mono _ _)
   | (with_reducible exact examboardref24_find.mono _ _ _)
   | (with_reducible exact examboardref24_shaped.mono _ _ _ _)
   | (with_reducible exact examboardref24_wanted.mono _ _ _)
   | (with_reducible exact LeO.refl _)
   | (with_reducible exact LeO.none _)
   | (with_reducible refine LeO.ite ?_ ?_)
   | (with_reducible refine LeO.bind ?_ (fun _ => ?_))
   | exact ih0 _ _ _ _ _ _ _ _ _ _
   | exact ih1 _ _ _ _ _ _ _ _ _ _ _ _ _ _ _
   | exact examboardref24_copied.mono _ _
   | exact examboardref24_find.mono _ _ _
   | exact examboardref24_shaped.mono _ _ _ _
   | exact examboardref24_wanted.mono _ _ _
   | exact LeO.none _
   | refine LeO.ite ?_ ?_
   | refine LeO.bind ?_ (fun _ => ?_)
theorem examboardref24_Select.mono : ∀ a0 a1 a2 a3 a4 k, LeO (examboardref24_Select.f k a0 a1 a2 a3 a4) (examboardref24_Select.f (k + 1) a0 a1 a2 a3 a4) := by
 intro a0 a1 a2 a3 a4 k
 obtain ⟨ih0, ih1⟩ := examboardref24_Select.mono_l k
 unfold examboardref24_Select.f
 repeat' first
   | (with_reducible exact ih0 _ _ _ _ _ _ _ _ _ _)
   | (with_reducible exact ih1 _ _ _ _ _ _ _ _ _ _ _ _ _ _ _)
   | (with_reducible exact examboardref24_copied.mono _ _)
   | (with_reducible exact examboardref24_find.mono _ _ _)
   | (with_reducible exact examboardref24_shaped.mono _ _ _ _)
   | (with_reducible exact examboardref24_wanted.mono _ _ _)
   | (with_reducible exact LeO.refl _)
   | (with_reducible exact LeO.none _)
   | (with_reducible refine LeO.ite ?_ ?_)
   | (with_reducible refine LeO.bind ?_ (fun _ => ?_))
   | exact ih0 _ _ _ _ _ _ _ _ _ _
   | exact ih1 _ _ _ _ _ _ _ _ _ _ _ _ _ _ _
   | exact examboardref24_copied.mono _ _
   | exact examboardref24_find.mono _ _ _
   | exact examboardref24_shaped.mono _ _ _ _
   | exact examboardref24_wanted.mono _ _ _
   | exact LeO.none _
   | refine LeO.ite ?_ ?_
   | refine LeO.bind ?_ (fun _ => ?_)
def examboardref24_Select.T17 : Bool × List (List Nat × List Nat) := (true, [([], []), ([], []), ([1], [1]), ([], []), ([3], [3]), ([], []), ([4, 5], [4, 5]), ([2, 6], [2, 6]), ([7], [7]), ([], []), ([9], [9]), ([], []), ([10, 11, 6], [10, 11]), ([8, 12], [8, 12]), ([13], [13]), ([14], [14]), ([0, 15, 12], [0, 15]), ([16, 16, 0, 1, 2, 3, 4, 5, 6, 7, 8, 9, 10, 11, 12, 13, 14, 15, 16], [0, 16])])
def examboardref24_Select.B17 : List Nat := [0, 0, 2, 0, 8, 0, 56, 126, 254, 0, 512, 0, 3704, 8190, 16382, 32766, 65535, 131071]
theorem examboardref24_Select.tab17 : rtab .any (opsOf Try.f17 17) = examboardref24_Select.T17 := by kernel_rfl
theorem examboardref24_Select.bits17 : waitsOk examboardref24_Select.T17.2 examboardref24_Select.B17 = true := by kernel_rfl
set_option maxHeartbeats 8000000 in
set_option maxRecDepth 100000 in
theorem examboardref24_Select.calls (k : Nat) (A0_0 : Option Addr) (c0_0 : Nat) (l0_0 : List Int) (A0_1 : Option Addr) (c0_1 : Nat) (l0_1 : List Int) (A0_2 : Option Addr) (c0_2 : Nat) (l0_2 : List (List Int)) (A1 : Option Addr) (c1 : Nat) (l1 : List Int) (A2 : Option Addr) (c2 : Nat) (l2 : List Int) (r1 : List Int) (r2 : List Int) (r3 : List (List Int)) (r4 : Int) (w : World) (hr0_0 : Kd.C (Kd.int .i64) w A0_0 l0_0.length l0_0) (hc0_0 : l0_0.length ≤ c0_0) (hr0_1 : Kd.C (Kd.int .i64) w A0_1 l0_1.length l0_1) (hc0_1 : l0_1.length ≤ c0_1) (hr0_2 : Kd.C (Kd.slice 3 (Kd.int .i64)) w A0_2 l0_2.length l0_2) (hc0_2 : l0_2.length ≤ c0_2) (hr1 : Kd.C (Kd.int .i64) w A1 l1.length l1) (hc1 : l1.length ≤ c1) (hr2 : Kd.C (Kd.int .i64) w A2 l2.length l2) (hc2 : l2.length ≤ c2) (h : examboardref24_Select.f k l0_0 l0_1 l0_2 l1 l2 = some (r1, r2, r3, r4)) :
  Calls Try.prog 17 #[.agg #[.slice A0_0 l0_0.length c0_0, .slice A0_1 l0_1.length c0_1, .slice A0_2 l0_2.length c0_2], .slice A1 l1.length c1, .slice A2 l2.length c2] w fun e w' => ∃ v0_ v1_ v2_ : Value, e = .returned (.tuple #[.agg #[v0_, v1_, v2_], .int .i64 r4]) ∧ Kd.R (Kd.int .i64) 3 w' w.heap.size (fun k_ => some k_ ≠ (v1_ : Value).ownBlock) v0_ r1 ∧ Kd.R (Kd.int .i64) 3 w' w.heap.size (fun k_ => some k_ ≠ (v0_ : Value).ownBlock) v1_ r2 ∧ Kd.S (Kd.slice 3 (Kd.int .i64)) 36 w' w.heap.size (fun k_ => some k_ ≠ (v0_ : Value).ownBlock ∧ some k_ ≠ (v1_ : Value).ownBlock) v2_ r3 ∧ Below w.heap.size w w' := by
 have hu39 := Try.underlying39
 have HR0_0 := Am hr0_0
 have HC0_0 := Am hc0_0
 clear hr0_0 hc0_0
 have HR0_1 := Am hr0_1
 have HC0_1 := Am hc0_1
 clear hr0_1 hc0_1
 have HR0_2 := Am hr0_2
 have HC0_2 := Am hc0_2
 clear hr0_2 hc0_2
 have HR1 := Am hr1
 have HC1 := Am hc1
 clear hr1 hc1
 have HR2 := Am hr2
 have HC2 := Am hc2
 clear hr2 hc2
 have HB := Am (Below.refl w.heap.size w)
 have H : ((examboardref24_shaped.f k l0_0 l0_1 l0_2).bind fun t410 => (if t410 = true then ((examboardref24_wanted.f k l1 l0_0).bind fun t411 => (if t411 = 0 then ((examboardref24_wanted.f k l2 l0_1).bind fun t412 => (if t412 = 0 then ((examboardref24_copied.f k l1).bind fun t413 => ((examboardref24_copied.f k l2).bind fun t416 => (examboardref24_Select.l0 k l2 t413 t416 l1 (l1.length : Int) 0 l0_0 l0_1 l0_2 ([] : List (List Int))))) else (some (([] : List Int), ([] : List Int), ([] : List (List Int)), t412)))) else (some (([] : List Int), ([] : List Int), ([] : List (List Int)), t411)))) else (some (([] : List Int), ([] : List Int), ([] : List (List Int)), 1)))) = some (r1, r2, r3, r4) := h
 clear h
 replace H := Option.bind_eq_some_iff.mp H
 obtain ⟨t410, A40, H⟩ := H
 replace H : (if t410 = true then ((examboardref24_wanted.f k l1 l0_0).bind fun t411 => (if t411 = 0 then ((examboardref24_wanted.f k l2 l0_1).bind fun t412 => (if t412 = 0 then ((examboardref24_copied.f k l1).bind fun t413 => ((examboardref24_copied.f k l2).bind fun t416 => (examboardref24_Select.l0 k l2 t413 t416 l1 (l1.length : Int) 0 l0_0 l0_1 l0_2 ([] : List (List Int))))) else (some (([] : List Int), ([] : List Int), ([] : List (List Int)), t412)))) else (some (([] : List Int), ([] : List Int), ([] : List (List Int)), t411)))) else (some (([] : List Int), ([] : List Int), ([] : List (List Int)), 1))) = some (r1, r2, r3, r4) := H
 have A4 := Am A40
 clear A40
 by_cases c5 : t410 = true
 ·subst c5
  have H1 : ((examboardref24_wanted.f k l1 l0_0).bind fun t411 => (if t411 = 0 then ((examboardref24_wanted.f k l2 l0_1).bind fun t412 => (if t412 = 0 then ((examboardref24_copied.f k l1).bind fun t413 => ((examboardref24_copied.f k l2).bind fun t416 => (examboardref24_Select.l0 k l2 t413 t416 l1 (l1.length : Int) 0 l0_0 l0_1 l0_2 ([] : List (List Int))))) else (some (([] : List Int), ([] : List Int), ([] : List (List Int)), t412)))) else (some (([] : List Int), ([] : List Int), ([] : List (List Int)), t411)))) = some (r1, r2, r3, r4) := by rw [if_pos rfl] at H; exact H
  clear H
  have H := H1
  clear H1
  replace H := Option.bind_eq_some_iff.mp H
  obtain ⟨t411, A60, H⟩ := H
  replace H : (if t411 = 0 then ((examboardref24_wanted.f k l2 l0_1).bind fun t412 => (if t412 = 0 then ((examboardref24_copied.f k l1).bind fun t413 => ((examboardref24_copied.f k l2).bind fun t416 => (examboardref24_Select.l0 k l2 t413 t416 l1 (l1.length : Int) 0 l0_0 l0_1 l0_2 ([] : List (List Int))))) else (some (([] : List Int), ([] : List Int), ([] : List (List Int)), t412)))) else (some (([] : List Int), ([] : List Int), ([] : List (List Int)), t411))) = some (r1, r2, r3, r4) := H
  have A6 := Am A60
  clear A60
  by_cases c7 : t411 = 0
  ·rw [if_pos c7] at H
   have c7b0 : (t411 == 0) = true := beq_iff_eq.mpr c7
   have c7b1 : (t411 != 0) = false := bne_eq_false_iff_eq.mpr c7
   clear c7
   replace H := Option.bind_eq_some_iff.mp H
   obtain ⟨t412, A80, H⟩ := H
   replace H : (if t412 = 0 then ((examboardref24_copied.f k l1).bind fun t413 => ((examboardref24_copied.f k l2).bind fun t416 => (examboardref24_Select.l0 k l2 t413 t416 l1 (l1.length : Int) 0 l0_0 l0_1 l0_2 ([] : List (List Int))))) else (some (([] : List Int), ([] : List Int), ([] : List (List Int)), t412))) = some (r1, r2, r3, r4) := H
   have A8 := Am A80
   clear A80
   by_cases c9 : t412 = 0
   ·rw [if_pos c9] at H
    have c9b0 : (t412 == 0) = true := beq_iff_eq.mpr c9
    have c9b1 : (t412 != 0) = false := bne_eq_false_iff_eq.mpr c9
    clear c9
    replace H := Option.bind_eq_some_iff.mp H
    obtain ⟨t413, A100, H⟩ := H
    replace H : ((examboardref24_copied.f k l2).bind fun t416 => (examboardref24_Select.l0 k l2 t413 t416 l1 (l1.length : Int) 0 l0_0 l0_1 l0_2 ([] : List (List Int)))) = some (r1, r2, r3, r4) := H
    have A10 := Am A100
    clear A100
    replace H := Option.bind_eq_some_iff.mp H
    obtain ⟨t416, A110, H⟩ := H
    replace H : (examboardref24_Select.l0 k l2 t413 t416 l1 (l1.length : Int) 0 l0_0 l0_1 l0_2 ([] : List (List Int))) = some (r1, r2, r3, r4) := H
    have A11 := Am A110
    clear A110
    have H' := Am H
    clear H
    go_enter Try.func17, Try.ntmps17
    go_wp2_with (first | ((with_reducible refine gate_dst (N := 3) rfl ?_); refine box_event ?hg (N := 3) ?hd (cs := #[.slice A0_0 l0_0.length c0_0, .slice A0_1 l0_1.length c0_1, .slice A0_2 l0_2.length c0_2]) (t := 39) ?hr ?_; (case hd => rfl); (case hg => rfl); (case hr => first | (go_simp; done) | (go_simp; rfl)); intro gb408 hg w12 hbox hb; have n0_ := Am (below_step (Bl HB) hb); have n1_ := Am (hbox); have n2_ := Am ((by rw [hg]; exact (below_size (Bl HB)) : w.heap.size ≤ gb408)); have n3_ := Am ((by rw [hg]; exact (below_size (Bl HB)) : w.heap.size ≤ gb408)); clear HB; have HB := n0_; have BK408 := n1_; have GW408 := n2_; have GE408 := n3_; clear n0_ n1_ n2_ n3_; clear hb hbox hg) | ((with_reducible refine gate_dst (N := 6) rfl ?_); refine box_event ?hg (N := 6) ?hd (cs := #[.slice none 0 0, .slice none 0 0, .slice none 0 0]) (t := 39) ?hr ?_; (case hd => rfl); (case hg => rfl); (case hr => first | (go_simp; done) | (go_simp; rfl)); intro gb409 hg w13 hbox hb; have n0_ := Am (blk_below (Kl BK408) hb); have n1_ := Am (below_step (by repeat first | exact Bl HB | refine Bp (below_set ?_ GE408.out)) hb); have n2_ := Am (hbox); have n3_ := Am ((by rw [hg]; exact (below_size (by repeat first | exact Bl HB | refine Bp (below_set ?_ GE408.out))) : w.heap.size ≤ gb409)); have n4_ := Am ((by rw [hg]; exact (below_size (by repeat first | exact Bl HB | refine Bp (below_set ?_ GE408.out))) : w.heap.size ≤ gb409)); have n5_ := Am ((by rw [hg]; exact Nat.ne_of_lt (blk_lt (Kl BK408)) : gb408 ≠ gb409)); have n6_ := Am ((by rw [hg]; exact Nat.ne_of_gt (blk_lt (Kl BK408)) : gb409 ≠ gb408)); clear BK408 HB; have BK408 := n0_; have HB := n1_; have BK409 := n2_; have GW409 := n3_; have GE409 := n4_; have NB408_409 := n5_; have NB409_408 := n6_; clear n0_ n1_ n2_ n3_ n4_ n5_ n6_; clear hb hbox hg; have hnb14 := NB408_409.out; have hnc14 := NB409_408.out; have hcz15_0 : w13.cell? ⟨gb408, 0, none⟩ = some (.slice A0_0 l0_0.length c0_0) := (blk_cell BK408.out 0).trans rfl; have hcz15_1 : w13.cell? ⟨gb408, 1, none⟩ = some (.slice A0_1 l0_1.length c0_1) := (blk_cell BK408.out 1).trans rfl; have hcz15_2 : w13.cell? ⟨gb408, 2, none⟩ = some (.slice A0_2 l0_2.length c0_2) := (blk_cell BK408.out 2).trans rfl; have hfz15_0 := blk_frozen BK408.out 0; have hfz15_1 := blk_frozen BK408.out 1; have hfz15_2 := blk_frozen BK408.out 2) | ((with_reducible refine gate_callee (f := 35) rfl ?_); refine goesL_ (some 17) rfl rfl Try.func35 (by kernel_rfl) rfl #[.agg #[.slice A0_0 l0_0.length c0_0, .slice A0_1 l0_1.length c0_1, .slice A0_2 l0_2.length c0_2]] rfl (by (try simp only [List.map_toArray, List.map_cons, List.map_nil]); first | done | rfl | (simp only [List.length_drop, List.length_take]; rfl)) ?_; (with_reducible refine (examboardref24_shaped.calls k _ _ l0_0 _ _ l0_1 _ _ l0_2 true _ ?side1 ?side2 ?side3 ?side4 ?side5 ?side6 A4.out).mono ?_); (case side1 => repeat (first | exact (Kd.C_below HR0_0.out HB.out) | (with_reducible refine Kd.C_alloc ?_ _) | (with_reducible refine Kd.C_drewN ?_ _) | (with_reducible refine Kd.C_drew ?_))); (case side2 => exact HC0_0.out); (case side3 => repeat (first | exact (Kd.C_below HR0_1.out HB.out) | (with_reducible refine Kd.C_alloc ?_ _) | (with_reducible refine Kd.C_drewN ?_ _) | (with_reducible refine Kd.C_drew ?_))); (case side4 => exact HC0_1.out); (case side5 => repeat (first | exact (Kd.C_below HR0_2.out HB.out) | (with_reducible refine Kd.C_alloc ?_ _) | (with_reducible refine Kd.C_drewN ?_ _) | (with_reducible refine Kd.C_drew ?_))); (case side6 => exact HC0_2.out); rintro e w16 ⟨rfl, hb⟩; refine ⟨_, rfl, ?_⟩; have n0_ := Am (blk_below (Kl BK408) hb); have n1_ := Am (blk_below (Kl BK409) hb); have n2_ := Am (below_step (by repeat first | exact Bl HB | refine Bp (below_set ?_ GE408.out) | refine Bp (below_set ?_ GE409.out)) hb); clear BK408 BK409 HB; have BK408 := n0_; have BK409 := n1_; have HB := n2_; clear n0_ n1_ n2_; (try clear hb); (try clear hb2); (try clear hk); (try clear hi); have hcz17_0 : w16.cell? ⟨gb408, 0, none⟩ = some (.slice A0_0 l0_0.length c0_0) := (blk_cell BK408.out 0).trans rfl; have hcz17_1 : w16.cell? ⟨gb408, 1, none⟩ = some (.slice A0_1 l0_1.length c0_1) := (blk_cell BK408.out 1).trans rfl; have hcz17_2 : w16.cell? ⟨gb408, 2, none⟩ = some (.slice A0_2 l0_2.length c0_2) := (blk_cell BK408.out 2).trans rfl; have hfz17_0 := blk_frozen BK408.out 0; have hfz17_1 := blk_frozen BK408.out 1; have hfz17_2 := blk_frozen BK408.out 2) | ((with_reducible refine gate_callee (f := 39) rfl ?_); refine goesL_ (some 23) rfl rfl Try.func39 (by kernel_rfl) rfl #[.slice A1 l1.length c1, .slice A0_0 l0_0.length c0_0] rfl (by (try simp only [List.map_toArray, List.map_cons, List.map_nil]); first | done | rfl | (simp only [List.length_drop, List.length_take]; rfl)) ?_; (with_reducible refine (examboardref24_wanted.calls k _ _ l1 _ _ l0_0 t411 _ ?side1 ?side2 ?side3 ?side4 A6.out).mono ?_); (case side1 => repeat (first | exact (Kd.C_below HR1.out HB.out) | (with_reducible refine Kd.C_alloc ?_ _) | (with_reducible refine Kd.C_drewN ?_ _) | (with_reducible refine Kd.C_drew ?_))); (case side2 => exact HC1.out); (case side3 => repeat (first | exact (Kd.C_below HR0_0.out HB.out) | (with_reducible refine Kd.C_alloc ?_ _) | (with_reducible refine Kd.C_drewN ?_ _) | (with_reducible refine Kd.C_drew ?_))); (case side4 => exact HC0_0.out); rintro e w' ⟨rfl, ⟨nd, rfl⟩⟩; refine ⟨_, rfl, ?_⟩) | ((with_reducible refine gate_callee (f := 39) rfl ?_); refine goesL_ (some 31) rfl rfl Try.func39 (by kernel_rfl) rfl #[.slice A2 l2.length c2, .slice A0_1 l0_1.length c0_1] rfl (by (try simp only [List.map_toArray, List.map_cons, List.map_nil]); first | done | rfl | (simp only [List.length_drop, List.length_take]; rfl)) ?_; (with_reducible refine (examboardref24_wanted.calls k _ _ l2 _ _ l0_1 t412 _ ?side1 ?side2 ?side3 ?side4 A8.out).mono ?_); (case side1 => repeat (first | exact (Kd.C_below HR2.out HB.out) | (with_reducible refine Kd.C_alloc ?_ _) | (with_reducible refine Kd.C_drewN ?_ _) | (with_reducible refine Kd.C_drew ?_))); (case side2 => exact HC2.out); (case side3 => repeat (first | exact (Kd.C_below HR0_1.out HB.out) | (with_reducible refine Kd.C_alloc ?_ _) | (with_reducible refine Kd.C_drewN ?_ _) | (with_reducible refine Kd.C_drew ?_))); (case side4 => exact HC0_1.out); rintro e w' ⟨rfl, ⟨nd, rfl⟩⟩; refine ⟨_, rfl, ?_⟩) | ((with_reducible refine gate_callee (f := 40) rfl ?_); refine goesL_ (some 37) rfl rfl Try.func40 (by kernel_rfl) rfl #[.slice A1 l1.length c1] rfl (by (try simp only [List.map_toArray, List.map_cons, List.map_nil]); first | done | rfl | (simp only [List.length_drop, List.length_take]; rfl)) ?_; (with_reducible refine (examboardref24_copied.calls k _ _ l1 t413 _ ?side1 ?side2 A10.out).mono ?_); (case side1 => repeat (first | exact (Kd.C_below HR1.out HB.out) | (with_reducible refine Kd.C_alloc ?_ _) | (with_reducible refine Kd.C_drewN ?_ _) | (with_reducible refine Kd.C_drew ?_))); (case side2 => exact HC1.out); rintro e w18 ⟨v414, rfl, ho0, hb⟩; refine ⟨_, rfl, ?_⟩; have n0_ := Am (Kd.R_lower ho0 (below_size (by repeat first | exact Bl HB | refine Bp (below_set ?_ GE408.out) | refine Bp (below_set ?_ GE409.out)))); have n1_ := Am (blk_below (Kl BK408) hb); have n2_ := Am (blk_below (Kl BK409) hb); have n3_ := Am (below_step (by repeat first | exact Bl HB | refine Bp (below_set ?_ GE408.out) | refine Bp (below_set ?_ GE409.out)) hb); clear BK408 BK409 HB; have HO415 := n0_; have BK408 := n1_; have BK409 := n2_; have HB := n3_; clear n0_ n1_ n2_ n3_; (try clear hb); (try clear hb2); (try clear hk); (try clear hi); (try clear ho0)) | ((with_reducible refine gate_callee (f := 40) rfl ?_); refine goesL_ (some 39) rfl rfl Try.func40 (by kernel_rfl) rfl #[.slice A2 l2.length c2] rfl (by (try simp only [List.map_toArray, List.map_cons, List.map_nil]); first | done | rfl | (simp only [List.length_drop, List.length_take]; rfl)) ?_; (with_reducible refine (examboardref24_copied.calls k _ _ l2 t416 _ ?side1 ?side2 A11.out).mono ?_); (case side1 => repeat (first | exact (Kd.C_below HR2.out HB.out) | (with_reducible refine Kd.C_alloc ?_ _) | (with_reducible refine Kd.C_drewN ?_ _) | (with_reducible refine Kd.C_drew ?_))); (case side2 => exact HC2.out); rintro e w19 ⟨v417, rfl, ho0, hb⟩; refine ⟨_, rfl, ?_⟩; have n0_ := Am (Kd.R_elder' (Rl HO415) (Kd.R_base ho0) hb); have n1_ := Am (Kd.R_lower (Kd.R_new' ho0 (Rb HO415)) (below_size (by repeat first | exact Bl HB | refine Bp (below_set ?_ GE408.out) | refine Bp (below_set ?_ GE409.out)))); have n2_ := Am (blk_below (Kl BK408) hb); have n3_ := Am (blk_below (Kl BK409) hb); have n4_ := Am (below_step (by repeat first | exact Bl HB | refine Bp (below_set ?_ GE408.out) | refine Bp (below_set ?_ GE409.out)) hb); clear HO415 BK408 BK409 HB; have HO415 := n0_; have HO418 := n1_; have BK408 := n2_; have BK409 := n3_; have HB := n4_; clear n0_ n1_ n2_ n3_ n4_; (try clear hb); (try clear hb2); (try clear hk); (try clear hi); (try clear ho0); obtain ⟨Ao20, co20, eo20⟩ := Kd.R_slice HO418.out; subst eo20; obtain ⟨Ao21, co21, eo21⟩ := Kd.R_slice HO415.out; subst eo21) | ((with_reducible refine gate_dst (N := 10) rfl ?_); refine box_event ?hg (N := 10) ?hd (cs := #[.slice none 0 0, .slice none 0 0, .slice none 0 0]) (t := 39) ?hr ?_; (case hd => rfl); (case hg => rfl); (case hr => first | (go_simp; done) | (go_simp; rfl)); intro gb419 hg w22 hbox hb; have n0_ := Am (Kd.R_below (Rl HO415) hb); have n1_ := Am (Kd.R_below (Rl HO418) hb); have n2_ := Am (blk_below (Kl BK408) hb); have n3_ := Am (blk_below (Kl BK409) hb); have n4_ := Am (below_step (by repeat first | exact Bl HB | refine Bp (below_set ?_ GE408.out) | refine Bp (below_set ?_ GE409.out)) hb); have n5_ := Am (hbox); have n6_ := Am ((by rw [hg]; exact (below_size (by repeat first | exact Bl HB | refine Bp (below_set ?_ GE408.out) | refine Bp (below_set ?_ GE409.out))) : w.heap.size ≤ gb419)); have n7_ := Am ((by rw [hg]; exact (below_size (by repeat first | exact Bl HB | refine Bp (below_set ?_ GE408.out) | refine Bp (below_set ?_ GE409.out))) : w.heap.size ≤ gb419)); have n8_ := Am ((by rw [hg]; exact Nat.ne_of_lt (blk_lt (Kl BK408)) : gb408 ≠ gb419)); have n9_ := Am ((by rw [hg]; exact Nat.ne_of_gt (blk_lt (Kl BK408)) : gb419 ≠ gb408)); have n10_ := Am ((by rw [hg]; exact Nat.ne_of_lt (blk_lt (Kl BK409)) : gb409 ≠ gb419)); have n11_ := Am ((by rw [hg]; exact Nat.ne_of_gt (blk_lt (Kl BK409)) : gb419 ≠ gb409)); clear HO415 HO418 BK408 BK409 HB; have HO415 := n0_; have HO418 := n1_; have BK408 := n2_; have BK409 := n3_; have HB := n4_; have BK419 := n5_; have GW419 := n6_; have GE419 := n7_; have NB408_419 := n8_; have NB419_408 := n9_; have NB409_419 := n10_; have NB419_409 := n11_; clear n0_ n1_ n2_ n3_ n4_ n5_ n6_ n7_ n8_ n9_ n10_ n11_; clear hb hbox hg; have hnb23 := NB419_408.out; have hnc23 := NB408_419.out; have hnb24 := NB419_409.out; have hnc24 := NB409_419.out; have hcz25_0 : w22.cell? ⟨gb419, 0, none⟩ = some (.slice none 0 0) := (blk_cell BK419.out 0).trans rfl; have hcz25_1 : w22.cell? ⟨gb419, 1, none⟩ = some (.slice none 0 0) := (blk_cell BK419.out 1).trans rfl; have hcz25_2 : w22.cell? ⟨gb419, 2, none⟩ = some (.slice none 0 0) := (blk_cell BK419.out 2).trans rfl; have hfz25_0 := blk_frozen BK419.out 0; have hfz25_1 := blk_frozen BK419.out 1; have hfz25_2 := blk_frozen BK419.out 2))
    go_loopg [43] k (fun kq v43 w' => ∃ (x43_1 : Int) (x420002_1 : List (List Int)) (u420002 : Value), v43 = .int .i64 x43_1 ∧ Aside0 (examboardref24_Select.l0 kq l2 t413 t416 l1 (l1.length : Int) x43_1 l0_0 l0_1 l0_2 x420002_1 = some (r1, r2, r3, r4)) ∧ Aside0 (kq ≤ k) ∧ Aside0 (Kd.R (Kd.int .i64) 3 w' w.heap.size (fun k_ => some k_ ≠ ((.slice Ao20 t416.length co20) : Value).ownBlock) (.slice Ao21 t413.length co21) t413) ∧ Aside0 (Kd.R (Kd.int .i64) 3 w' w.heap.size (fun k_ => some k_ ≠ ((.slice Ao21 t413.length co21) : Value).ownBlock) (.slice Ao20 t416.length co20) t416) ∧ Aside0 (Kd.S (Kd.slice 3 (Kd.int .i64)) 36 w' w.heap.size (fun k_ => some k_ ≠ ((.slice Ao21 t413.length co21) : Value).ownBlock ∧ some k_ ≠ ((.slice Ao20 t416.length co20) : Value).ownBlock) u420002 x420002_1) ∧ Aside0 (w'.heap[gb408]? = some (.cells #[(.slice A0_0 l0_0.length c0_0), (.slice A0_1 l0_1.length c0_1), (.slice A0_2 l0_2.length c0_2)] 39 (0, 0))) ∧ Aside0 (w'.heap[gb409]? = some (.cells #[(.slice none 0 0), (.slice none 0 0), (.slice none 0 0)] 39 (0, 0))) ∧ Aside0 (w'.heap[gb419]? = some (.cells #[(.slice Ao21 t413.length co21), (.slice Ao20 t416.length co20), u420002] 39 (0, 0))) ∧ Aside0 (Below w.heap.size w w'))
    case atStart => exact ⟨(0), (([] : List (List Int))), (.slice none 0 0), (by first | rfl | (simp; done) | (simp [*]; done)), H', ⟨Nat.le_refl _⟩, ⟨Rm (Kd.R_mono (Kd.R_far (p := ⟨gb419, 2, none⟩) (Kd.R_far (p := ⟨gb419, 1, none⟩) (Kd.R_far (p := ⟨gb419, 0, none⟩) (Kd.R_types HO415.out BK419.out (by decide)) (fun _ hk => hk.2) (.slice Ao21 t413.length co21)) (fun _ hk => hk.2) (.slice Ao20 t416.length co20)) (fun _ hk => hk.2) (.slice none 0 0)) (fun _ hk => hk.1.2))⟩, ⟨Rm (Kd.R_mono (Kd.R_far (p := ⟨gb419, 2, none⟩) (Kd.R_far (p := ⟨gb419, 1, none⟩) (Kd.R_far (p := ⟨gb419, 0, none⟩) (Kd.R_types HO418.out BK419.out (by decide)) (fun _ hk => hk.2) (.slice Ao21 t413.length co21)) (fun _ hk => hk.2) (.slice Ao20 t416.length co20)) (fun _ hk => hk.2) (.slice none 0 0)) (fun _ hk => hk.1.2))⟩, ⟨by first | exact Kd.S_nil _ _ _ _ _ | exact Kd.N_nil _ _ _ _ _ | exact Kd.V_nil _ _ _ _ _ | exact Kd.Q_nil _ _ _ _ _ | exact Kd.R_nil _ _ _ _ _⟩, ⟨by refine Kp ?_; refine blk_far ?_ NB408_419.out _; refine Kp ?_; refine blk_far ?_ NB408_419.out _; refine Kp ?_; refine blk_far ?_ NB408_419.out _; refine Kp ?_; exact BK408.out⟩, ⟨by refine Kp ?_; refine blk_far ?_ NB409_419.out _; refine Kp ?_; refine blk_far ?_ NB409_419.out _; refine Kp ?_; refine blk_far ?_ NB409_419.out _; refine Kp ?_; exact BK409.out⟩, ⟨by refine Kp ?_; refine blk_put (cs := #[.slice Ao21 t413.length co21, .slice Ao20 t416.length co20, .slice none 0 0]) ?_ 2 _ rfl; refine Kp ?_; refine blk_put (cs := #[.slice Ao21 t413.length co21, .slice none 0 0, .slice none 0 0]) ?_ 1 _ rfl; refine Kp ?_; refine blk_put (cs := #[.slice none 0 0, .slice none 0 0, .slice none 0 0]) ?_ 0 _ rfl; refine Kp ?_; exact BK419.out⟩, ⟨by repeat first | exact Bl HB | refine Bp (below_set ?_ GE408.out) | refine Bp (below_set ?_ GE409.out) | refine Bp (below_set ?_ GE419.out)⟩⟩
    case round =>
     clear H'
     try clear c1
     try clear c2
     try clear p2
     try clear c3
     try clear c4
     try clear c5
     try clear c7
     try clear c7b0
     try clear c7b1
     try clear c9
     try clear c9b0
     try clear c9b1
     try clear c14
     try clear c17
     try clear c23
     try clear c24
     try clear hcz15_0
     try clear hcz15_1
     try clear hcz15_2
     try clear hcz17_0
     try clear hcz17_1
     try clear hcz17_2
     try clear hcz25_0
     try clear hcz25_1
     try clear hcz25_2
     try clear hfz15_0
     try clear hfz15_1
     try clear hfz15_2
     try clear hfz17_0
     try clear hfz17_1
     try clear hfz17_2
     try clear hfz25_0
     try clear hfz25_1
     try clear hfz25_2
     obtain ⟨x43_1, x420002_1, u420002, rfl, HA, HK1, HO_37, HO_39, HO_420002, BK408, BK409, BK419, HB⟩ := hrel
     cases gk with
     | zero => exact absurd HA.out (by simp [examboardref24_Select.l0])
     | succ k1 =>
      have H := HA.out
      clear HA
      simp only [examboardref24_Select.l0] at H
      by_cases c26 : x43_1 < (l1.length : Int)
      ·rw [if_pos c26] at H
       have c26b0 : decide (x43_1 < (l1.length : Int)) = true := decide_eq_true c26
       clear c26
       by_cases c27 : 0 ≤ x43_1
       ·rw [if_pos c27] at H
        have c27b0 : decide (0 ≤ x43_1) = true := decide_eq_true c27
        clear c27
        by_cases c28 : x43_1 < (l1.length : Int)
        ·rw [if_pos c28] at H
         have c28b0 : decide (x43_1 < (l1.length : Int)) = true := decide_eq_true c28
         clear c28
         have H' := Am H
         clear H
         have p420 : 0 ≤ (x43_1 : Int) := of_decide_eq_true (by first | (with_reducible assumption) | assumption)
         have q420 : x43_1 < (l1.length : Int) := of_decide_eq_true (by first | (with_reducible assumption) | assumption)
         obtain ⟨ad420, e420, hx420_0⟩ := Kd.at_int HR1.out x43_1 p420 q420
         cases e420
         replace hx420_0 := (HB.out.cell (World.block_lt_of_cell? w _ hx420_0)).trans hx420_0
         replace p420 := eq_true p420
         replace q420 := eq_true q420
         go_wp2
         go_loopg [13, 49] k1 (fun kq v13 v49 w' => ∃ (x13_2 : List Int) (x49_2 : Int), v49 = .int .i64 x49_2 ∧ Aside0 (examboardref24_Select.l1 kq l2 (rd l1 x43_1) x13_2 t413 t416 l1 (l1.length : Int) x43_1 l2 (l2.length : Int) x49_2 l0_0 l0_1 l0_2 x420002_1 = some (r1, r2, r3, r4)) ∧ Aside0 (kq ≤ k1) ∧ Aside0 (Kd.R (Kd.int .i64) 3 w' w.heap.size (fun k_ => some k_ ≠ ((.slice Ao21 t413.length co21) : Value).ownBlock ∧ some k_ ≠ ((.slice Ao20 t416.length co20) : Value).ownBlock) v13 x13_2) ∧ Aside0 (Kd.R (Kd.int .i64) 3 w' w.heap.size (fun k_ => some k_ ≠ (v13 : Value).ownBlock ∧ some k_ ≠ ((.slice Ao20 t416.length co20) : Value).ownBlock) (.slice Ao21 t413.length co21) t413) ∧ Aside0 (Kd.R (Kd.int .i64) 3 w' w.heap.size (fun k_ => some k_ ≠ (v13 : Value).ownBlock ∧ some k_ ≠ ((.slice Ao21 t413.length co21) : Value).ownBlock) (.slice Ao20 t416.length co20) t416) ∧ Aside0 (Kd.S (Kd.slice 3 (Kd.int .i64)) 36 w' w.heap.size (fun k_ => some k_ ≠ (v13 : Value).ownBlock ∧ some k_ ≠ ((.slice Ao21 t413.length co21) : Value).ownBlock ∧ some k_ ≠ ((.slice Ao20 t416.length co20) : Value).ownBlock) u420002 x420002_1) ∧ Aside0 (w'.heap[gb408]? = some (.cells #[(.slice A0_0 l0_0.length c0_0), (.slice A0_1 l0_1.length c0_1), (.slice A0_2 l0_2.length c0_2)] 39 (0, 0))) ∧ Aside0 (w'.heap[gb409]? = some (.cells #[(.slice none 0 0), (.slice none 0 0), (.slice none 0 0)] 39 (0, 0))) ∧ Aside0 (w'.heap[gb419]? = some (.cells #[(.slice Ao21 t413.length co21), (.slice Ao20 t416.length co20), u420002] 39 (0, 0))) ∧ Aside0 (Below w.heap.size w w'))
         case atStart => exact ⟨(([] : List Int)), (0), (by first | rfl | (simp; done) | (simp [*]; done)), H', ⟨Nat.le_refl _⟩, ⟨by first | exact Kd.R_nil _ _ _ _ _ | exact Kd.N_nil _ _ _ _ _ | exact Kd.V_nil _ _ _ _ _ | exact Kd.Q_nil _ _ _ _ _ | exact Kd.S_nil _ _ _ _ _⟩, ⟨Rm (Kd.R_mono HO_37.out (fun _ hk => ⟨(by simp [Value.ownBlock]), hk⟩))⟩, ⟨Rm (Kd.R_mono HO_39.out (fun _ hk => ⟨(by simp [Value.ownBlock]), hk⟩))⟩, ⟨Sm (Kd.S_mono HO_420002.out (fun _ hk => ⟨(by simp [Value.ownBlock]), ⟨hk.1, hk.2⟩⟩))⟩, ⟨Kl BK408⟩, ⟨Kl BK409⟩, ⟨Kl BK419⟩, ⟨by repeat first | exact Bl HB | refine Bp (below_set ?_ GE408.out) | refine Bp (below_set ?_ GE409.out) | refine Bp (below_set ?_ GE419.out)⟩⟩
         case round =>
          clear H'
          try clear c1
          try clear c2
          try clear p2
          try clear c3
          try clear c4
          try clear p4
          try clear q4
          try clear hx4
          try clear c5
          try clear c7
          try clear c7b0
          try clear c7b1
          try clear c9
          try clear c9b0
          try clear c9b1
          try clear c14
          try clear c17
          try clear c23
          try clear c24
          try clear c26
          try clear c26b0
          try clear c27
          try clear c27b0
          try clear c28
          try clear c28b0
          try clear hcz15_0
          try clear hcz15_1
          try clear hcz15_2
          try clear hcz17_0
          try clear hcz17_1
          try clear hcz17_2
          try clear hcz25_0
          try clear hcz25_1
          try clear hcz25_2
          try clear hfz15_0
          try clear hfz15_1
          try clear hfz15_2
          try clear hfz17_0
          try clear hfz17_1
          try clear hfz17_2
          try clear hfz25_0
          try clear hfz25_1
          try clear hfz25_2
          try clear hx420_0
          try clear p2
          try clear p420
          try clear q420
          obtain ⟨x13_2, x49_2, rfl, HA, HK2, HO_13, HO_37, HO_39, HO_420002, BK408, BK409, BK419, HB⟩ := hrel
          cases gk with
          | zero => exact absurd HA.out (by simp [examboardref24_Select.l1])
          | succ k2 =>
           have H := HA.out
           clear HA
           simp only [examboardref24_Select.l1] at H
           by_cases c29 : x49_2 < (l2.length : Int)
           ·rw [if_pos c29] at H
            have c29b0 : decide (x49_2 < (l2.length : Int)) = true := decide_eq_true c29
            clear c29
            by_cases c30 : 0 ≤ x49_2
            ·rw [if_pos c30] at H
             have c30b0 : decide (0 ≤ x49_2) = true := decide_eq_true c30
             clear c30
             by_cases c31 : x49_2 < (l2.length : Int)
             ·rw [if_pos c31] at H
              have c31b0 : decide (x49_2 < (l2.length : Int)) = true := decide_eq_true c31
              clear c31
              replace H := Option.bind_eq_some_iff.mp H
              obtain ⟨t422, A320, H⟩ := H
              replace H : (if 0 ≤ t422 then (if t422 < (l0_2.length : Int) then ((examboardref24_find.f k2 l0_1 (rd l2 x49_2)).bind fun t424 => (if 0 ≤ t424 then (if t424 < ((rd_L1 l0_2 t422).length : Int) then (if x13_2.length < 17592186044416 then (examboardref24_Select.l1 k2 l2 (rd l1 x43_1) (x13_2 ++ [rd (rd_L1 l0_2 t422) t424]) t413 t416 l1 (l1.length : Int) x43_1 l2 (l2.length : Int) (wrap64 (x49_2 + 1)) l0_0 l0_1 l0_2 x420002_1) else (none)) else (none)) else (none))) else (none)) else (none)) = some (r1, r2, r3, r4) := H
              have A32 := Am A320
              clear A320
              by_cases c33 : 0 ≤ t422
              ·rw [if_pos c33] at H
               have c33b0 : decide (0 ≤ t422) = true := decide_eq_true c33
               clear c33
               by_cases c34 : t422 < (l0_2.length : Int)
               ·rw [if_pos c34] at H
                have c34b0 : decide (t422 < (l0_2.length : Int)) = true := decide_eq_true c34
                clear c34
                replace H := Option.bind_eq_some_iff.mp H
                obtain ⟨t424, A350, H⟩ := H
                replace H : (if 0 ≤ t424 then (if t424 < ((rd_L1 l0_2 t422).length : Int) then (if x13_2.length < 17592186044416 then (examboardref24_Select.l1 k2 l2 (rd l1 x43_1) (x13_2 ++ [rd (rd_L1 l0_2 t422) t424]) t413 t416 l1 (l1.length : Int) x43_1 l2 (l2.length : Int) (wrap64 (x49_2 + 1)) l0_0 l0_1 l0_2 x420002_1) else (none)) else (none)) else (none)) = some (r1, r2, r3, r4) := H
                have A35 := Am A350
                clear A350
                by_cases c36 : 0 ≤ t424
                ·rw [if_pos c36] at H
                 have c36b0 : decide (0 ≤ t424) = true := decide_eq_true c36
                 clear c36
                 by_cases c37 : t424 < ((rd_L1 l0_2 t422).length : Int)
                 ·rw [if_pos c37] at H
                  have c37b0 : decide (t424 < ((rd_L1 l0_2 t422).length : Int)) = true := decide_eq_true c37
                  clear c37
                  by_cases c38 : x13_2.length < 17592186044416
                  ·rw [if_pos c38] at H
                   have LMc38 := Am c38
                   clear c38
                   obtain ⟨y426, hy426⟩ : ∃ y_ : List Int, y_ = (x13_2 ++ [rd (rd_L1 l0_2 t422) t424]) := ⟨_, rfl⟩
                   replace H : (examboardref24_Select.l1 k2 l2 (rd l1 x43_1) y426 t413 t416 l1 (l1.length : Int) x43_1 l2 (l2.length : Int) (wrap64 (x49_2 + 1)) l0_0 l0_1 l0_2 x420002_1) = some (r1, r2, r3, r4) := by first | (rw [hy426]; with_reducible exact H) | (have H2_ := (Option.bind_some _ _).symm.trans H; rw [hy426]; with_reducible exact H2_) | (have H2_ := (Option.bind_some _ _).symm.trans H; with_reducible exact H2_) | with_reducible exact H | (rw [hy426]; exact H) | exact H
                   have Ny426 := Am hy426
                   clear hy426
                   have H' := Am H
                   clear H
                   have p421 : 0 ≤ (x49_2 : Int) := of_decide_eq_true (by first | (with_reducible assumption) | assumption)
                   have q421 : x49_2 < (l2.length : Int) := of_decide_eq_true (by first | (with_reducible assumption) | assumption)
                   obtain ⟨ad421, e421, hx421_0⟩ := Kd.at_int HR2.out x49_2 p421 q421
                   cases e421
                   replace hx421_0 := (HB.out.cell (World.block_lt_of_cell? w _ hx421_0)).trans hx421_0
                   replace p421 := eq_true p421
                   replace q421 := eq_true q421
                   try go_wp2
                   have n0_ := Am (Kd.R_drew HO_13.out)
                   have n1_ := Am (Kd.R_drew HO_37.out)
                   have n2_ := Am (Kd.R_drew HO_39.out)
                   have n3_ := Am (Kd.S_drew HO_420002.out)
                   have n4_ := Am (blk_drew BK408.out)
                   have n5_ := Am (blk_drew BK409.out)
                   have n6_ := Am (blk_drew BK419.out)
                   have n7_ := Am (below_drew1 HB.out)
                   clear HO_13 HO_37 HO_39 HO_420002 BK408 BK409 BK419 HB
                   have HO_13 := n0_
                   have HO_37 := n1_
                   have HO_39 := n2_
                   have HO_420002 := n3_
                   have BK408 := n4_
                   have BK409 := n5_
                   have BK419 := n6_
                   have HB := n7_
                   clear n0_ n1_ n2_ n3_ n4_ n5_ n6_ n7_
                   have p423 : 0 ≤ (t422 : Int) := of_decide_eq_true (by first | (with_reducible assumption) | assumption)
                   have q423 : t422 < (l0_2.length : Int) := of_decide_eq_true (by first | (with_reducible assumption) | assumption)
                   obtain ⟨ad423, A423_0, c423_0, e423, hx423_0, hl423_0, hi423_0⟩ := at_L1 HR0_2.out t422 p423 q423
                   have hw423_0 := hx423_0
                   cases e423
                   replace hx423_0 := (HB.out.cell (World.block_lt_of_cell? w _ hx423_0)).trans hx423_0
                   have HR423_0 := Am hi423_0
                   have HC423_0 := Am hl423_0
                   clear hi423_0 hl423_0
                   replace p423 := eq_true p423
                   replace q423 := eq_true q423
                   have p425 : 0 ≤ (t424 : Int) := of_decide_eq_true (by first | (with_reducible assumption) | assumption)
                   have q425 : t424 < ((rd_L1 l0_2 t422).length : Int) := of_decide_eq_true (by first | (with_reducible assumption) | assumption)
                   obtain ⟨ad425, e425, hx425_0⟩ := Kd.at_int HR423_0.out t424 p425 q425
                   have hw425_0 := hx425_0
                   cases e425
                   replace hx425_0 := (HB.out.cell (World.block_lt_of_cell? w _ hx425_0)).trans hx425_0
                   replace p425 := eq_true p425
                   replace q425 := eq_true q425
                   refine start_ (n := 18) (S := fun w' => w'.cell? ⟨gb408, 0, none⟩ = some (.slice A0_0 l0_0.length c0_0) ∧ w'.cell? ⟨gb408, 1, none⟩ = some (.slice A0_1 l0_1.length c0_1) ∧ w'.cell? ⟨gb408, 2, none⟩ = some (.slice (some ad423) l0_2.length c0_2) ∧ w'.cell? (ad423.add (t422).toNat) = some (.slice (some ad425) (rd_L1 l0_2 t422).length c423_0) ∧ w'.cell? (ad425.add (t424).toNat) = some (.int .i64 (rd (rd_L1 l0_2 t422) t424))) (ds := []) #[false, false, false, false, false, false, false, false, false, false, false, false, false, false, false, false, false, false] (by kernel_rfl) rfl rfl ⟨(blk_cell BK408.out 0).trans rfl, (blk_cell BK408.out 1).trans rfl, (blk_cell BK408.out 2).trans rfl, ((HB.out.cell (World.block_lt_of_cell? w _ hw423_0)).trans hw423_0), ((HB.out.cell (World.block_lt_of_cell? w _ hw425_0)).trans hw425_0)⟩ (fun hHeld => ?_); refine with_tabW examboardref24_Select.tab17 examboardref24_Select.bits17 (fun HT_ HW_ => ?_)
                   generalize wr.drew = w39 at HO_13 HO_37 HO_39 HO_420002 BK408 BK409 BK419 HB HR423_0 hx423_0 hx425_0 hHeld ⊢
                   refine pure_ (i := 0) (N := some 53) (v := ?_) (a' := ?_) #[true, false, false, false, false, false, false, false, false, false, false, false, false, false, false, false, false, false] rfl rfl (any_of HT_.out (by kernel_rfl)) (fun _ _ _ h => h) (Or.inl ⟨by rfl, ?_⟩) ?_ ?_
                   rotate_left
                   ·intro w'
                    go_simp
                    with_reducible rfl
                   rotate_left
                   ·simp only [Act.put, List.setIfInBounds_toArray, List.set_cons_zero, List.set_cons_succ, i64_w, i32_w]
                    rfl
                   refine pure_ (i := 1) (N := some 54) (v := ?_) (a' := ?_) #[true, true, false, false, false, false, false, false, false, false, false, false, false, false, false, false, false, false] rfl rfl (any_of HT_.out (by kernel_rfl)) (fun _ _ _ h => h) (Or.inl ⟨by rfl, ?_⟩) ?_ ?_
                   rotate_left
                   ·intro w'
                    go_simp
                    with_reducible rfl
                   rotate_left
                   ·simp only [Act.put, List.setIfInBounds_toArray, List.set_cons_zero, List.set_cons_succ, i64_w, i32_w]
                    rfl
                   refine pure_ (i := 3) (N := some 56) (v := ?_) (a' := ?_) #[true, true, false, true, false, false, false, false, false, false, false, false, false, false, false, false, false, false] rfl rfl (any_of HT_.out (by kernel_rfl)) (fun _ _ _ h => h) (Or.inl ⟨by rfl, ?_⟩) ?_ ?_
                   rotate_left
                   ·intro w'
                    go_simp
                    with_reducible rfl
                   rotate_left
                   ·simp only [Act.put, List.setIfInBounds_toArray, List.set_cons_zero, List.set_cons_succ, i64_w, i32_w]
                    rfl
                   refine pure_ (i := 5) (N := some 58) (v := ?_) (a' := ?_) #[true, true, false, true, false, true, false, false, false, false, false, false, false, false, false, false, false, false] rfl rfl (any_of HT_.out (by kernel_rfl)) (fun _ _ _ h => h) (Or.inl ⟨by rfl, ?_⟩) ?_ ?_
                   rotate_left
                   ·intro w'
                    go_simp
                    with_reducible rfl
                   rotate_left
                   ·simp only [Act.put, List.setIfInBounds_toArray, List.set_cons_zero, List.set_cons_succ, i64_w, i32_w]
                    rfl
                   refine pure_ (i := 9) (N := some 62) (v := ?_) (a' := ?_) #[true, true, false, true, false, true, false, false, false, true, false, false, false, false, false, false, false, false] rfl rfl (any_of HT_.out (by kernel_rfl)) (fun _ _ _ h => h) (Or.inl ⟨by rfl, ?_⟩) ?_ ?_
                   rotate_left
                   ·intro w'
                    go_simp
                    with_reducible rfl
                   rotate_left
                   ·simp only [Act.put, List.setIfInBounds_toArray, List.set_cons_zero, List.set_cons_succ, i64_w, i32_w]
                    rfl
                   refine pure_ (i := 11) (N := some 64) (v := ?_) (a' := ?_) #[true, true, false, true, false, true, false, false, false, true, false, true, false, false, false, false, false, false] rfl rfl (any_of HT_.out (by kernel_rfl)) (fun _ _ _ h => h) (Or.inl ⟨by rfl, ?_⟩) ?_ ?_
                   rotate_left
                   ·intro w'
                    go_simp
                    with_reducible rfl
                   rotate_left
                   ·simp only [Act.put, List.setIfInBounds_toArray, List.set_cons_zero, List.set_cons_succ, i64_w, i32_w]
                    rfl
                   refine take_ (i := 2) (N := some 55) (v := ?_) (a' := ?_) #[true, true, true, true, false, true, false, false, false, true, false, true, false, false, false, false, false, false] rfl rfl (take_ofW HT_.out HW_.out (by kernel_rfl)) (fun _ _ _ h => h) (Or.inl ⟨by rfl, ?_⟩) hHeld ?_ ?_
                   rotate_left
                   ·rintro w' ⟨s0, s1, s2, s3, s4⟩
                    go_simp
                    with_reducible rfl
                   rotate_left
                   ·simp only [Act.put, List.setIfInBounds_toArray, List.set_cons_zero, List.set_cons_succ, i64_w, i32_w]
                    rfl
                   refine take_ (i := 4) (N := some 57) (v := ?_) (a' := ?_) #[true, true, true, true, true, true, false, false, false, true, false, true, false, false, false, false, false, false] rfl rfl (take_ofW HT_.out HW_.out (by kernel_rfl)) (fun _ _ _ h => h) (Or.inl ⟨by rfl, ?_⟩) hHeld ?_ ?_
                   rotate_left
                   ·rintro w' ⟨s0, s1, s2, s3, s4⟩
                    go_simp
                    with_reducible rfl
                   rotate_left
                   ·simp only [Act.put, List.setIfInBounds_toArray, List.set_cons_zero, List.set_cons_succ, i64_w, i32_w]
                    rfl
                   refine take_ (i := 10) (N := some 63) (v := ?_) (a' := ?_) #[true, true, true, true, true, true, false, false, false, true, true, true, false, false, false, false, false, false] rfl rfl (take_ofW HT_.out HW_.out (by kernel_rfl)) (fun _ _ _ h => h) (Or.inl ⟨by rfl, ?_⟩) hHeld ?_ ?_
                   rotate_left
                   ·rintro w' ⟨s0, s1, s2, s3, s4⟩
                    go_simp
                    with_reducible rfl
                   rotate_left
                   ·simp only [Act.put, List.setIfInBounds_toArray, List.set_cons_zero, List.set_cons_succ, i64_w, i32_w]
                    rfl
                   refine one_ (i := 6) (N := some 59) #[true, true, true, true, true, true, true, false, false, true, true, true, false, false, false, false, false, false] rfl rfl (one_of HT_.out (by kernel_rfl)) (by decide) (fun K hK => ?_)
                   refine goes_ Try.func41 (by kernel_rfl) rfl #[.slice A0_0 l0_0.length c0_0, .int .i64 (rd l1 x43_1)] (by rfl) rfl rfl (by (try simp only [List.map_toArray, List.map_cons, List.map_nil]); first | done | rfl | (simp only [List.length_drop, List.length_take]; rfl)) ?_
                   with_reducible refine (examboardref24_find.calls k2 _ _ l0_0 (rd l1 x43_1) t422 _ ?side1 ?side2 A32.out).mono ?_
                   (case side1 => repeat (first | exact (Kd.C_below HR0_0.out HB.out) | (with_reducible refine Kd.C_alloc ?_ _) | (with_reducible refine Kd.C_drewN ?_ _) | (with_reducible refine Kd.C_drew ?_)))
                   (case side2 => exact HC0_0.out)
                   rintro e w' ⟨rfl, ⟨nd, rfl⟩⟩
                   refine ⟨_, rfl, ?_⟩
                   refine hK.out _ _ ⟨(blk_cell BK408.out 0).trans rfl, (blk_cell BK408.out 1).trans rfl, (blk_cell BK408.out 2).trans rfl, ((HB.out.cell (World.block_lt_of_cell? w _ hw423_0)).trans hw423_0), ((HB.out.cell (World.block_lt_of_cell? w _ hw425_0)).trans hw425_0)⟩ (fun hHeld => ?_)
                   clear hK K
                   refine norm_ (a' := ?_) ?_ ?_
                   rotate_left
                   ·show Act.put _ (some 59) _ = _
                    simp only [Act.put, List.setIfInBounds_toArray, List.set_cons_zero, List.set_cons_succ, i64_w, i32_w]
                    rfl
                   refine pure_ (i := 7) (N := some 60) (v := ?_) (a' := ?_) #[true, true, true, true, true, true, true, true, false, true, true, true, false, false, false, false, false, false] rfl rfl (any_of HT_.out (by kernel_rfl)) (fun _ _ _ h => h) (Or.inl ⟨by rfl, ?_⟩) ?_ ?_
                   rotate_left
                   ·intro w'
                    go_simp
                    with_reducible rfl
                   rotate_left
                   ·simp only [Act.put, List.setIfInBounds_toArray, List.set_cons_zero, List.set_cons_succ, i64_w, i32_w]
                    rfl
                   refine take_ (i := 8) (N := some 61) (v := ?_) (a' := ?_) #[true, true, true, true, true, true, true, true, true, true, true, true, false, false, false, false, false, false] rfl rfl (take_ofW HT_.out HW_.out (by kernel_rfl)) (fun _ _ _ h => h) (Or.inl ⟨by rfl, ?_⟩) hHeld ?_ ?_
                   rotate_left
                   ·rintro w' ⟨s0, s1, s2, s3, s4⟩
                    go_simp
                    with_reducible rfl
                   rotate_left
                   ·simp only [Act.put, List.setIfInBounds_toArray, List.set_cons_zero, List.set_cons_succ, i64_w, i32_w]
                    rfl
                   refine one_ (i := 12) (N := some 65) #[true, true, true, true, true, true, true, true, true, true, true, true, true, false, false, false, false, false] rfl rfl (one_of HT_.out (by kernel_rfl)) (by decide) (fun K hK => ?_)
                   refine goes_ Try.func41 (by kernel_rfl) rfl #[.slice A0_1 l0_1.length c0_1, .int .i64 (rd l2 x49_2)] (by rfl) rfl rfl (by (try simp only [List.map_toArray, List.map_cons, List.map_nil]); first | done | rfl | (simp only [List.length_drop, List.length_take]; rfl)) ?_
                   with_reducible refine (examboardref24_find.calls k2 _ _ l0_1 (rd l2 x49_2) t424 _ ?side1 ?side2 A35.out).mono ?_
                   (case side1 => repeat (first | exact (Kd.C_below HR0_1.out (by repeat first | exact Bl HB | refine Bp (below_set ?_ GE408.out) | refine Bp (below_set ?_ GE409.out) | refine Bp (below_set ?_ GE419.out))) | (with_reducible refine Kd.C_alloc ?_ _) | (with_reducible refine Kd.C_drewN ?_ _) | (with_reducible refine Kd.C_drew ?_)))
                   (case side2 => exact HC0_1.out)
                   rintro e w' ⟨rfl, ⟨nd, rfl⟩⟩
                   refine ⟨_, rfl, ?_⟩
                   refine hK.out _ _ ⟨(blk_cell BK408.out 0).trans rfl, (blk_cell BK408.out 1).trans rfl, (blk_cell BK408.out 2).trans rfl, ((HB.out.cell (World.block_lt_of_cell? w _ hw423_0)).trans hw423_0), ((HB.out.cell (World.block_lt_of_cell? w _ hw425_0)).trans hw425_0)⟩ (fun hHeld => ?_)
                   clear hK K
                   refine norm_ (a' := ?_) ?_ ?_
                   rotate_left
                   ·show Act.put _ (some 65) _ = _
                    simp only [Act.put, List.setIfInBounds_toArray, List.set_cons_zero, List.set_cons_succ, i64_w, i32_w]
                    rfl
                   refine pure_ (i := 13) (N := some 66) (v := ?_) (a' := ?_) #[true, true, true, true, true, true, true, true, true, true, true, true, true, true, false, false, false, false] rfl rfl (any_of HT_.out (by kernel_rfl)) (fun _ _ _ h => h) (Or.inl ⟨by rfl, ?_⟩) ?_ ?_
                   rotate_left
                   ·intro w'
                    go_simp
                    with_reducible rfl
                   rotate_left
                   ·simp only [Act.put, List.setIfInBounds_toArray, List.set_cons_zero, List.set_cons_succ, i64_w, i32_w]
                    rfl
                   refine take_ (i := 14) (N := some 67) (v := ?_) (a' := ?_) #[true, true, true, true, true, true, true, true, true, true, true, true, true, true, true, false, false, false] rfl rfl (take_ofW HT_.out HW_.out (by kernel_rfl)) (fun _ _ _ h => h) (Or.inl ⟨by rfl, ?_⟩) hHeld ?_ ?_
                   rotate_left
                   ·rintro w' ⟨s0, s1, s2, s3, s4⟩
                    go_simp
                    with_reducible rfl
                   rotate_left
                   ·simp only [Act.put, List.setIfInBounds_toArray, List.set_cons_zero, List.set_cons_succ, i64_w, i32_w]
                    rfl
                   refine one_ (i := 15) (N := some 68) #[true, true, true, true, true, true, true, true, true, true, true, true, true, true, true, true, false, false] rfl rfl (one_of HT_.out (by kernel_rfl)) (by decide) (fun K hK => ?_)
                   refine value_ (w1 := ?_) (v := ?_) (by rfl) rfl ?_ ?_
                   rotate_left 2
                   ·go_simp
                    constructor
                    ·rfl
                    ·rfl
                   refine hK.out _ _ ⟨(blk_cell (blk_alloc BK408.out _) 0).trans rfl, (blk_cell (blk_alloc BK408.out _) 1).trans rfl, (blk_cell (blk_alloc BK408.out _) 2).trans rfl, (World.cell?_alloc_lt _ _ _ (World.block_lt_of_cell? _ _ (((HB.out.cell (World.block_lt_of_cell? w _ hw423_0)).trans hw423_0)))).trans (((HB.out.cell (World.block_lt_of_cell? w _ hw423_0)).trans hw423_0)), (World.cell?_alloc_lt _ _ _ (World.block_lt_of_cell? _ _ (((HB.out.cell (World.block_lt_of_cell? w _ hw425_0)).trans hw425_0)))).trans (((HB.out.cell (World.block_lt_of_cell? w _ hw425_0)).trans hw425_0))⟩ (fun hHeld => ?_)
                   clear hK K
                   refine norm_ (a' := ?_) ?_ ?_
                   rotate_left
                   ·show Act.put _ (some 68) _ = _
                    simp only [Act.put, List.setIfInBounds_toArray, List.set_cons_zero, List.set_cons_succ, i64_w, i32_w]
                    rfl
                   refine one_ (i := 16) (N := some 69) #[true, true, true, true, true, true, true, true, true, true, true, true, true, true, true, true, true, false] rfl rfl (one_of HT_.out (by kernel_rfl)) (by decide) (fun K hK => ?_)
                   refine Kd.R_append_step (Kd.int .i64) (w0 := w) w.heap.size (by rfl) (.tmp 53) (.tmp 68) 36 3 (.int .i64 0) 8 rfl Try.underlying36 info3 rfl (by decide) (by omega) u13 x13_2 (rd (rd_L1 l0_2 t422) t424) [.int .i64 (rd (rd_L1 l0_2 t422) t424)] (fun k_ => some k_ ≠ (.slice Ao21 t413.length co21 : Value).ownBlock ∧ some k_ ≠ (.slice Ao20 t416.length co20 : Value).ownBlock) (fun _ => False) rfl rfl ?aP (fun _ hk => hk.elim) ?aF ?aO ?aB ?aS ?aL ?_
                   (case aP => exact rfl)
                   (case aB => exact (by repeat first | exact Bl HB | refine Bp (below_set ?_ GE408.out) | refine Bp (below_set ?_ GE409.out) | refine Bp (below_set ?_ GE419.out)))
                   (case aF => exact (fun k_ hk => ⟨Kd.fresh' (Rb HO_37) k_ hk, Kd.fresh' (Rb HO_39) k_ hk⟩))
                   (case aO => exact (Rl HO_13))
                   (case aS => exact (below_size (by repeat first | exact Bl HB | refine Bp (below_set ?_ GE408.out) | refine Bp (below_set ?_ GE409.out) | refine Bp (below_set ?_ GE419.out))))
                   (case aL => have := LMc38.out; omega)
                   intro v427 w40 ho hb hg hat
                   rw [← Ny426.out] at ho
                   have n0_ := Am (Kd.R_after (ok := (fun k_ => some k_ ≠ (.slice Ao20 t416.length co20 : Value).ownBlock)) (Rm (Kd.R_mono HO_37.out (fun _ hk => ⟨hk.2, hk.1⟩))) hg hat)
                   have n1_ := Am (Kd.R_after (ok := (fun k_ => some k_ ≠ (.slice Ao21 t413.length co21 : Value).ownBlock)) (Rm (Kd.R_mono HO_39.out (fun _ hk => ⟨hk.2, hk.1⟩))) hg hat)
                   have n2_ := Am (Kd.S_after (ok := (fun k_ => some k_ ≠ (.slice Ao21 t413.length co21 : Value).ownBlock ∧ some k_ ≠ (.slice Ao20 t416.length co20 : Value).ownBlock)) (Sm (Kd.S_mono HO_420002.out (fun _ hk => ⟨⟨hk.2.1, hk.2.2⟩, hk.1⟩))) hg hat)
                   have n3_ := Am (blk_grown (Kl BK408) hg (Kd.R_ne HO_13.out BK408.out (by decide)))
                   have n4_ := Am (blk_grown (Kl BK409) hg (Kd.R_ne HO_13.out BK409.out (by decide)))
                   have n5_ := Am (blk_grown (Kl BK419) hg (Kd.R_ne HO_13.out BK419.out (by decide)))
                   have n6_ := Am (hb)
                   have n7_ := Am (ho)
                   clear HO_37 HO_39 HO_420002 BK408 BK409 BK419 HB HO_13
                   have HO_37 := n0_
                   have HO_39 := n1_
                   have HO_420002 := n2_
                   have BK408 := n3_
                   have BK409 := n4_
                   have BK419 := n5_
                   have HB := n6_
                   have HO428 := n7_
                   clear n0_ n1_ n2_ n3_ n4_ n5_ n6_ n7_
                   clear ho hb hg hat
                   refine hK.out _ _ ⟨(blk_cell BK408.out 0).trans rfl, (blk_cell BK408.out 1).trans rfl, (blk_cell BK408.out 2).trans rfl, ((HB.out.cell (World.block_lt_of_cell? w _ hw423_0)).trans hw423_0), ((HB.out.cell (World.block_lt_of_cell? w _ hw425_0)).trans hw425_0)⟩ (fun hHeld => ?_)
                   clear hK K
                   refine norm_ (a' := ?_) ?_ ?_
                   rotate_left
                   ·show Act.put _ (some 69) _ = _
                    simp only [Act.put, List.setIfInBounds_toArray, List.set_cons_zero, List.set_cons_succ, i64_w, i32_w]
                    rfl
                   refine pure_ (i := 17) (N := some 13) (v := ?_) (a' := ?_) #[true, true, true, true, true, true, true, true, true, true, true, true, true, true, true, true, true, true] rfl rfl (any_of HT_.out (by kernel_rfl)) (fun _ _ _ h => h) (Or.inl ⟨by rfl, ?_⟩) ?_ ?_
                   rotate_left
                   ·intro w'
                    go_simp
                    with_reducible rfl
                   rotate_left
                   ·simp only [Act.put, List.setIfInBounds_toArray, List.set_cons_zero, List.set_cons_succ, i64_w, i32_w]
                    rfl
                   refine done_ (done_of HT_.out (by kernel_rfl)) ?_
                   try go_wp2
                   go_roundg k2
                   case measure => have := HK1.out; have := HK2.out; omega
                   case rel => exact ⟨(y426), (wrap64 (x49_2 + 1)), (by first | rfl | (simp; done) | (simp [*]; done)), H', ⟨by have := HK1.out; have := HK2.out; omega⟩, ⟨Rl HO428⟩, ⟨Rm (Kd.R_mono HO_37.out (fun _ hk => ⟨hk.2, hk.1⟩))⟩, ⟨Rm (Kd.R_mono HO_39.out (fun _ hk => ⟨hk.2, hk.1⟩))⟩, ⟨Sm (Kd.S_mono HO_420002.out (fun _ hk => ⟨hk.2, ⟨hk.1.1, hk.1.2⟩⟩))⟩, ⟨Kl BK408⟩, ⟨Kl BK409⟩, ⟨Kl BK419⟩, ⟨by repeat first | exact Bl HB | refine Bp (below_set ?_ GE408.out) | refine Bp (below_set ?_ GE409.out) | refine Bp (below_set ?_ GE419.out)⟩⟩
                  ·rw [if_neg c38] at H
                   exact absurd H (by simp)
                 ·rw [if_neg c37] at H
                  exact absurd H (by simp)
                ·rw [if_neg c36] at H
                 exact absurd H (by simp)
               ·rw [if_neg c34] at H
                exact absurd H (by simp)
              ·rw [if_neg c33] at H
               exact absurd H (by simp)
             ·rw [if_neg c31] at H
              exact absurd H (by simp)
            ·rw [if_neg c30] at H
             exact absurd H (by simp)
           ·rw [if_neg c29] at H
            have c29b0 : decide (x49_2 < (l2.length : Int)) = false := decide_eq_false c29
            clear c29
            by_cases c41 : x420002_1.length < 5864062014805
            ·rw [if_pos c41] at H
             have LMc41 := Am c41
             clear c41
             obtain ⟨y429, hy429⟩ : ∃ y_ : List (List Int), y_ = (x420002_1 ++ [x13_2]) := ⟨_, rfl⟩
             replace H : (examboardref24_Select.l0 k2 l2 t413 t416 l1 (l1.length : Int) (wrap64 (x43_1 + 1)) l0_0 l0_1 l0_2 y429) = some (r1, r2, r3, r4) := by first | (rw [hy429]; with_reducible exact H) | (have H2_ := (Option.bind_some _ _).symm.trans H; rw [hy429]; with_reducible exact H2_) | (have H2_ := (Option.bind_some _ _).symm.trans H; with_reducible exact H2_) | with_reducible exact H | (rw [hy429]; exact H) | exact H
             have Ny429 := Am hy429
             clear hy429
             have H' := Am H
             clear H
             have hnb42 := NB419_408.out
             have hnc42 := NB408_419.out
             have hnb43 := NB419_409.out
             have hnc43 := NB409_419.out
             have hcz44_0 : wr.cell? ⟨gb419, 0, none⟩ = some (.slice Ao21 t413.length co21) := (blk_cell BK419.out 0).trans rfl
             have hcz44_1 : wr.cell? ⟨gb419, 1, none⟩ = some (.slice Ao20 t416.length co20) := (blk_cell BK419.out 1).trans rfl
             have hcz44_2 : wr.cell? ⟨gb419, 2, none⟩ = some (u420002) := (blk_cell BK419.out 2).trans rfl
             have hfz44_0 := blk_frozen BK419.out 0
             have hfz44_1 := blk_frozen BK419.out 1
             have hfz44_2 := blk_frozen BK419.out 2
             obtain ⟨Ao46, co46, eo46⟩ := Kd.R_slice HO_13.out
             subst eo46
             go_wp2_with (first | ((with_reducible refine gate_builtin (b := .append) (xs := #[.tmp 72, .tmp 74]) rfl ?_); at_builtin; refine Kd.S_append (Kd.slice 3 (Kd.int .i64)) (w0 := w) w.heap.size rfl (.tmp 72) (.tmp 74) 37 36 (.slice none 0 0) 24 rfl Try.underlying37 info36 rfl (by decide) (by omega) u420002 x420002_1 x13_2 [.slice Ao46 x13_2.length co46] (fun k_ => some k_ ≠ (.slice Ao21 t413.length co21 : Value).ownBlock ∧ some k_ ≠ (.slice Ao20 t416.length co20 : Value).ownBlock) (fun k_ => some k_ = (.slice Ao46 x13_2.length co46 : Value).ownBlock) rfl rfl ?aP (fun k_ hk_ => ((Kd.R_mono (ok' := fun k_ => ((fun k_ => some k_ ≠ (.slice Ao21 t413.length co21 : Value).ownBlock ∧ some k_ ≠ (.slice Ao20 t416.length co20 : Value).ownBlock)) k_ ∧ some k_ ≠ (u420002 : Value).ownBlock) (Kd.R_apart' (HO_13.out) (Kd.S_typed HO_420002.out) (by decide)) (fun k_ hk => ⟨⟨hk.1.1, hk.1.2⟩, hk.2⟩))).1 k_ hk_.symm) ?aF ?aO ?aB ?aS ?aL ?_; (case aP => exact Kd.M_row (Kd.R_mono (Kd.R_tight rfl (Kd.R_mono (ok' := fun k_ => ((fun k_ => some k_ ≠ (.slice Ao21 t413.length co21 : Value).ownBlock ∧ some k_ ≠ (.slice Ao20 t416.length co20 : Value).ownBlock)) k_ ∧ some k_ ≠ (u420002 : Value).ownBlock) (Kd.R_apart' (HO_13.out) (Kd.S_typed HO_420002.out) (by decide)) (fun k_ hk => ⟨⟨hk.1.1, hk.1.2⟩, hk.2⟩))) (fun _ h_ => h_))); (case aB => exact (by repeat first | exact Bl HB | refine Bp (below_set ?_ GE408.out) | refine Bp (below_set ?_ GE409.out) | refine Bp (below_set ?_ GE419.out))); (case aF => exact (fun k_ hk => ⟨Kd.fresh' (Rb HO_37) k_ hk, Kd.fresh' (Rb HO_39) k_ hk⟩)); (case aO => exact (Sm (Kd.S_mono HO_420002.out (fun k_ hk => ⟨⟨hk.2.1, hk.2.2⟩, fun e_ => hk.1 e_⟩)))); (case aS => exact (below_size (by repeat first | exact Bl HB | refine Bp (below_set ?_ GE408.out) | refine Bp (below_set ?_ GE409.out) | refine Bp (below_set ?_ GE419.out)))); (case aL => have := LMc41.out; omega); intro v430 w45 ho hb hg hat; rw [← Ny429.out] at ho; have n0_ := Am (Kd.R_over' (Rl HO_37) (Kd.S_typed (Sl HO_420002)) (by decide) hg); have n1_ := Am (Kd.R_over' (Rl HO_39) (Kd.S_typed (Sl HO_420002)) (by decide) hg); have n2_ := Am (blk_grown (Kl BK408) hg (Kd.S_ne HO_420002.out BK408.out (by decide))); have n3_ := Am (blk_grown (Kl BK409) hg (Kd.S_ne HO_420002.out BK409.out (by decide))); have n4_ := Am (blk_grown (Kl BK419) hg (Kd.S_ne HO_420002.out BK419.out (by decide))); have n5_ := Am (hb); have n6_ := Am (ho); clear HO_37 HO_39 BK408 BK409 BK419 HB HO_420002 HO_13; have HO_37 := n0_; have HO_39 := n1_; have BK408 := n2_; have BK409 := n3_; have BK419 := n4_; have HB := n5_; have HO431 := n6_; clear n0_ n1_ n2_ n3_ n4_ n5_ n6_; clear ho hb hg hat; obtain ⟨Ao47, co47, eo47⟩ := Kd.S_slice HO431.out; subst eo47; have hcz48_0 : w45.cell? ⟨gb419, 0, none⟩ = some (.slice Ao21 t413.length co21) := (blk_cell BK419.out 0).trans rfl; have hcz48_1 : w45.cell? ⟨gb419, 1, none⟩ = some (.slice Ao20 t416.length co20) := (blk_cell BK419.out 1).trans rfl; have hcz48_2 : w45.cell? ⟨gb419, 2, none⟩ = some (u420002) := (blk_cell BK419.out 2).trans rfl; have hfz48_0 := blk_frozen BK419.out 0; have hfz48_1 := blk_frozen BK419.out 1; have hfz48_2 := blk_frozen BK419.out 2))
             go_roundg k2
             case measure => have := HK1.out; have := HK2.out; omega
             case rel => exact ⟨(wrap64 (x43_1 + 1)), (y429), (.slice Ao47 y429.length co47), (by first | rfl | (simp; done) | (simp [*]; done)), H', ⟨by have := HK1.out; have := HK2.out; omega⟩, ⟨Rm (Kd.R_mono (Kd.R_far (p := ⟨gb419, 2, none⟩) (Kd.R_types HO_37.out BK419.out (by decide)) (fun _ hk => hk.2) (.slice Ao47 y429.length co47)) (fun _ hk => hk.1.2))⟩, ⟨Rm (Kd.R_mono (Kd.R_far (p := ⟨gb419, 2, none⟩) (Kd.R_types HO_39.out BK419.out (by decide)) (fun _ hk => hk.2) (.slice Ao47 y429.length co47)) (fun _ hk => hk.1.2))⟩, ⟨Sm (Kd.S_mono (Kd.S_far (p := ⟨gb419, 2, none⟩) (Kd.S_types HO431.out BK419.out (by decide)) (fun _ hk => hk.2) (.slice Ao47 y429.length co47)) (fun _ hk => ⟨hk.1.1, hk.1.2⟩))⟩, ⟨by refine Kp ?_; refine blk_far ?_ NB408_419.out _; refine Kp ?_; exact BK408.out⟩, ⟨by refine Kp ?_; refine blk_far ?_ NB409_419.out _; refine Kp ?_; exact BK409.out⟩, ⟨by refine Kp ?_; refine blk_put (cs := #[.slice Ao21 t413.length co21, .slice Ao20 t416.length co20, u420002]) ?_ 2 _ rfl; refine Kp ?_; exact BK419.out⟩, ⟨by repeat first | exact Bl HB | refine Bp (below_set ?_ GE408.out) | refine Bp (below_set ?_ GE409.out) | refine Bp (below_set ?_ GE419.out)⟩⟩
            ·rw [if_neg c41] at H
             exact absurd H (by simp)
        ·rw [if_neg c28] at H
         exact absurd H (by simp)
       ·rw [if_neg c27] at H
        exact absurd H (by simp)
      ·rw [if_neg c26] at H
       have c26b0 : decide (x43_1 < (l1.length : Int)) = false := decide_eq_false c26
       clear c26
       simp only [Option.some.injEq, Prod.mk.injEq] at H
       obtain ⟨rfl, rfl, rfl, rfl⟩ := H
       have hnb49 := NB419_408.out
       have hnc49 := NB408_419.out
       have hnb50 := NB419_409.out
       have hnc50 := NB409_419.out
       have hcz51_0 : wr.cell? ⟨gb419, 0, none⟩ = some (.slice Ao21 t413.length co21) := (blk_cell BK419.out 0).trans rfl
       have hcz51_1 : wr.cell? ⟨gb419, 1, none⟩ = some (.slice Ao20 t416.length co20) := (blk_cell BK419.out 1).trans rfl
       have hcz51_2 : wr.cell? ⟨gb419, 2, none⟩ = some (u420002) := (blk_cell BK419.out 2).trans rfl
       have hfz51_0 := blk_frozen BK419.out 0
       have hfz51_1 := blk_frozen BK419.out 1
       have hfz51_2 := blk_frozen BK419.out 2
       have hnb52 := NB409_408.out
       have hnc52 := NB408_409.out
       have hcz53_0 : wr.cell? ⟨gb409, 0, none⟩ = some (.slice none 0 0) := (blk_cell BK409.out 0).trans rfl
       have hcz53_1 : wr.cell? ⟨gb409, 1, none⟩ = some (.slice none 0 0) := (blk_cell BK409.out 1).trans rfl
       have hcz53_2 : wr.cell? ⟨gb409, 2, none⟩ = some (.slice none 0 0) := (blk_cell BK409.out 2).trans rfl
       have hfz53_0 := blk_frozen BK409.out 0
       have hfz53_1 := blk_frozen BK409.out 1
       have hfz53_2 := blk_frozen BK409.out 2
       obtain ⟨Ao54, co54, eo54⟩ := Kd.S_slice HO_420002.out
       subst eo54
       go_wp2
       refine bodyPost_ret (results_ct rfl _ _ gb409 39 #[.slice Ao21 t413.length co21, .slice Ao20 t416.length co20, .slice Ao54 x420002_1.length co54] (0, 0) _ rfl (by refine Kp ?_; refine blk_put (cs := #[.slice Ao21 t413.length co21, .slice Ao20 t416.length co20, .slice none 0 0]) ?_ 2 _ rfl; refine Kp ?_; refine blk_put (cs := #[.slice Ao21 t413.length co21, .slice none 0 0, .slice none 0 0]) ?_ 1 _ rfl; refine Kp ?_; refine blk_put (cs := #[.slice none 0 0, .slice none 0 0, .slice none 0 0]) ?_ 0 _ rfl; refine Kp ?_; exact BK409.out) Try.underlying39 rfl (by kernel_rfl)) rfl ?_
       exact ⟨_, _, _, by first | rfl | (simp [errW_none, errW_some] <;> rfl) | (simp [*, errW_none, errW_some] <;> rfl), Rm (Kd.R_mono (Kd.R_far (p := ⟨gb409, 2, none⟩) (Kd.R_far (p := ⟨gb409, 1, none⟩) (Kd.R_far (p := ⟨gb409, 0, none⟩) (Kd.R_types HO_37.out BK409.out (by decide)) (fun _ hk => hk.2) (.slice Ao21 t413.length co21)) (fun _ hk => hk.2) (.slice Ao20 t416.length co20)) (fun _ hk => hk.2) (.slice Ao54 x420002_1.length co54)) (fun _ hk => hk.1)), Rm (Kd.R_mono (Kd.R_far (p := ⟨gb409, 2, none⟩) (Kd.R_far (p := ⟨gb409, 1, none⟩) (Kd.R_far (p := ⟨gb409, 0, none⟩) (Kd.R_types HO_39.out BK409.out (by decide)) (fun _ hk => hk.2) (.slice Ao21 t413.length co21)) (fun _ hk => hk.2) (.slice Ao20 t416.length co20)) (fun _ hk => hk.2) (.slice Ao54 x420002_1.length co54)) (fun _ hk => hk.1)), Sm (Kd.S_mono (Kd.S_far (p := ⟨gb409, 2, none⟩) (Kd.S_far (p := ⟨gb409, 1, none⟩) (Kd.S_far (p := ⟨gb409, 0, none⟩) (Kd.S_types HO_420002.out BK409.out (by decide)) (fun _ hk => hk.2) (.slice Ao21 t413.length co21)) (fun _ hk => hk.2) (.slice Ao20 t416.length co20)) (fun _ hk => hk.2) (.slice Ao54 x420002_1.length co54)) (fun _ hk => ⟨hk.1.1, hk.1.2⟩)), by repeat first | exact Bl HB | refine Bp (below_set ?_ GE408.out) | refine Bp (below_set ?_ GE409.out) | refine Bp (below_set ?_ GE419.out)⟩
   ·rw [if_neg c9] at H
    have c9b0 : (t412 == 0) = false := beq_eq_false_iff_ne.mpr c9
    have c9b1 : (t412 != 0) = true := bne_iff_ne.mpr c9
    simp only [Option.some.injEq, Prod.mk.injEq] at H
    obtain ⟨rfl, rfl, rfl, rfl⟩ := H
    go_enter Try.func17, Try.ntmps17
    go_wp2_with (first | ((with_reducible refine gate_dst (N := 3) rfl ?_); refine box_event ?hg (N := 3) ?hd (cs := #[.slice A0_0 l0_0.length c0_0, .slice A0_1 l0_1.length c0_1, .slice A0_2 l0_2.length c0_2]) (t := 39) ?hr ?_; (case hd => rfl); (case hg => rfl); (case hr => first | (go_simp; done) | (go_simp; rfl)); intro gb408 hg w55 hbox hb; have n0_ := Am (below_step (Bl HB) hb); have n1_ := Am (hbox); have n2_ := Am ((by rw [hg]; exact (below_size (Bl HB)) : w.heap.size ≤ gb408)); have n3_ := Am ((by rw [hg]; exact (below_size (Bl HB)) : w.heap.size ≤ gb408)); clear HB; have HB := n0_; have BK408 := n1_; have GW408 := n2_; have GE408 := n3_; clear n0_ n1_ n2_ n3_; clear hb hbox hg) | ((with_reducible refine gate_dst (N := 6) rfl ?_); refine box_event ?hg (N := 6) ?hd (cs := #[.slice none 0 0, .slice none 0 0, .slice none 0 0]) (t := 39) ?hr ?_; (case hd => rfl); (case hg => rfl); (case hr => first | (go_simp; done) | (go_simp; rfl)); intro gb409 hg w56 hbox hb; have n0_ := Am (blk_below (Kl BK408) hb); have n1_ := Am (below_step (by repeat first | exact Bl HB | refine Bp (below_set ?_ GE408.out)) hb); have n2_ := Am (hbox); have n3_ := Am ((by rw [hg]; exact (below_size (by repeat first | exact Bl HB | refine Bp (below_set ?_ GE408.out))) : w.heap.size ≤ gb409)); have n4_ := Am ((by rw [hg]; exact (below_size (by repeat first | exact Bl HB | refine Bp (below_set ?_ GE408.out))) : w.heap.size ≤ gb409)); have n5_ := Am ((by rw [hg]; exact Nat.ne_of_lt (blk_lt (Kl BK408)) : gb408 ≠ gb409)); have n6_ := Am ((by rw [hg]; exact Nat.ne_of_gt (blk_lt (Kl BK408)) : gb409 ≠ gb408)); clear BK408 HB; have BK408 := n0_; have HB := n1_; have BK409 := n2_; have GW409 := n3_; have GE409 := n4_; have NB408_409 := n5_; have NB409_408 := n6_; clear n0_ n1_ n2_ n3_ n4_ n5_ n6_; clear hb hbox hg; have hnb57 := NB408_409.out; have hnc57 := NB409_408.out; have hcz58_0 : w56.cell? ⟨gb408, 0, none⟩ = some (.slice A0_0 l0_0.length c0_0) := (blk_cell BK408.out 0).trans rfl; have hcz58_1 : w56.cell? ⟨gb408, 1, none⟩ = some (.slice A0_1 l0_1.length c0_1) := (blk_cell BK408.out 1).trans rfl; have hcz58_2 : w56.cell? ⟨gb408, 2, none⟩ = some (.slice A0_2 l0_2.length c0_2) := (blk_cell BK408.out 2).trans rfl; have hfz58_0 := blk_frozen BK408.out 0; have hfz58_1 := blk_frozen BK408.out 1; have hfz58_2 := blk_frozen BK408.out 2) | ((with_reducible refine gate_callee (f := 35) rfl ?_); refine goesL_ (some 17) rfl rfl Try.func35 (by kernel_rfl) rfl #[.agg #[.slice A0_0 l0_0.length c0_0, .slice A0_1 l0_1.length c0_1, .slice A0_2 l0_2.length c0_2]] rfl (by (try simp only [List.map_toArray, List.map_cons, List.map_nil]); first | done | rfl | (simp only [List.length_drop, List.length_take]; rfl)) ?_; (with_reducible refine (examboardref24_shaped.calls k _ _ l0_0 _ _ l0_1 _ _ l0_2 true _ ?side1 ?side2 ?side3 ?side4 ?side5 ?side6 A4.out).mono ?_); (case side1 => repeat (first | exact (Kd.C_below HR0_0.out HB.out) | (with_reducible refine Kd.C_alloc ?_ _) | (with_reducible refine Kd.C_drewN ?_ _) | (with_reducible refine Kd.C_drew ?_))); (case side2 => exact HC0_0.out); (case side3 => repeat (first | exact (Kd.C_below HR0_1.out HB.out) | (with_reducible refine Kd.C_alloc ?_ _) | (with_reducible refine Kd.C_drewN ?_ _) | (with_reducible refine Kd.C_drew ?_))); (case side4 => exact HC0_1.out); (case side5 => repeat (first | exact (Kd.C_below HR0_2.out HB.out) | (with_reducible refine Kd.C_alloc ?_ _) | (with_reducible refine Kd.C_drewN ?_ _) | (with_reducible refine Kd.C_drew ?_))); (case side6 => exact HC0_2.out); rintro e w59 ⟨rfl, hb⟩; refine ⟨_, rfl, ?_⟩; have n0_ := Am (blk_below (Kl BK408) hb); have n1_ := Am (blk_below (Kl BK409) hb); have n2_ := Am (below_step (by repeat first | exact Bl HB | refine Bp (below_set ?_ GE408.out) | refine Bp (below_set ?_ GE409.out)) hb); clear BK408 BK409 HB; have BK408 := n0_; have BK409 := n1_; have HB := n2_; clear n0_ n1_ n2_; (try clear hb); (try clear hb2); (try clear hk); (try clear hi); have hcz60_0 : w59.cell? ⟨gb408, 0, none⟩ = some (.slice A0_0 l0_0.length c0_0) := (blk_cell BK408.out 0).trans rfl; have hcz60_1 : w59.cell? ⟨gb408, 1, none⟩ = some (.slice A0_1 l0_1.length c0_1) := (blk_cell BK408.out 1).trans rfl; have hcz60_2 : w59.cell? ⟨gb408, 2, none⟩ = some (.slice A0_2 l0_2.length c0_2) := (blk_cell BK408.out 2).trans rfl; have hfz60_0 := blk_frozen BK408.out 0; have hfz60_1 := blk_frozen BK408.out 1; have hfz60_2 := blk_frozen BK408.out 2) | ((with_reducible refine gate_callee (f := 39) rfl ?_); refine goesL_ (some 23) rfl rfl Try.func39 (by kernel_rfl) rfl #[.slice A1 l1.length c1, .slice A0_0 l0_0.length c0_0] rfl (by (try simp only [List.map_toArray, List.map_cons, List.map_nil]); first | done | rfl | (simp only [List.length_drop, List.length_take]; rfl)) ?_; (with_reducible refine (examboardref24_wanted.calls k _ _ l1 _ _ l0_0 t411 _ ?side1 ?side2 ?side3 ?side4 A6.out).mono ?_); (case side1 => repeat (first | exact (Kd.C_below HR1.out HB.out) | (with_reducible refine Kd.C_alloc ?_ _) | (with_reducible refine Kd.C_drewN ?_ _) | (with_reducible refine Kd.C_drew ?_))); (case side2 => exact HC1.out); (case side3 => repeat (first | exact (Kd.C_below HR0_0.out HB.out) | (with_reducible refine Kd.C_alloc ?_ _) | (with_reducible refine Kd.C_drewN ?_ _) | (with_reducible refine Kd.C_drew ?_))); (case side4 => exact HC0_0.out); rintro e w' ⟨rfl, ⟨nd, rfl⟩⟩; refine ⟨_, rfl, ?_⟩) | ((with_reducible refine gate_callee (f := 39) rfl ?_); refine goesL_ (some 31) rfl rfl Try.func39 (by kernel_rfl) rfl #[.slice A2 l2.length c2, .slice A0_1 l0_1.length c0_1] rfl (by (try simp only [List.map_toArray, List.map_cons, List.map_nil]); first | done | rfl | (simp only [List.length_drop, List.length_take]; rfl)) ?_; (with_reducible refine (examboardref24_wanted.calls k _ _ l2 _ _ l0_1 t412 _ ?side1 ?side2 ?side3 ?side4 A8.out).mono ?_); (case side1 => repeat (first | exact (Kd.C_below HR2.out HB.out) | (with_reducible refine Kd.C_alloc ?_ _) | (with_reducible refine Kd.C_drewN ?_ _) | (with_reducible refine Kd.C_drew ?_))); (case side2 => exact HC2.out); (case side3 => repeat (first | exact (Kd.C_below HR0_1.out HB.out) | (with_reducible refine Kd.C_alloc ?_ _) | (with_reducible refine Kd.C_drewN ?_ _) | (with_reducible refine Kd.C_drew ?_))); (case side4 => exact HC0_1.out); rintro e w' ⟨rfl, ⟨nd, rfl⟩⟩; refine ⟨_, rfl, ?_⟩; have hcz61_0 : w59.cell? ⟨gb409, 0, none⟩ = some (.slice none 0 0) := (blk_cell BK409.out 0).trans rfl; have hcz61_1 : w59.cell? ⟨gb409, 1, none⟩ = some (.slice none 0 0) := (blk_cell BK409.out 1).trans rfl; have hcz61_2 : w59.cell? ⟨gb409, 2, none⟩ = some (.slice none 0 0) := (blk_cell BK409.out 2).trans rfl; have hfz61_0 := blk_frozen BK409.out 0; have hfz61_1 := blk_frozen BK409.out 1; have hfz61_2 := blk_frozen BK409.out 2))
    refine bodyPost_ret (results_ct rfl _ _ gb409 39 #[.slice none 0 0, .slice none 0 0, .slice none 0 0] (0, 0) _ rfl (by refine Kp ?_; refine blk_put (cs := #[.slice none 0 0, .slice none 0 0, .slice none 0 0]) ?_ 2 _ rfl; refine Kp ?_; refine blk_put (cs := #[.slice none 0 0, .slice none 0 0, .slice none 0 0]) ?_ 1 _ rfl; refine Kp ?_; refine blk_put (cs := #[.slice none 0 0, .slice none 0 0, .slice none 0 0]) ?_ 0 _ rfl; refine Kp ?_; exact BK409.out) Try.underlying39 rfl (by kernel_rfl)) rfl ?_
    exact ⟨_, _, _, by first | rfl | (simp [errW_none, errW_some] <;> rfl) | (simp [*, errW_none, errW_some] <;> rfl), by first | exact Kd.R_nil _ _ _ _ _ | exact Kd.N_nil _ _ _ _ _ | exact Kd.V_nil _ _ _ _ _ | exact Kd.Q_nil _ _ _ _ _ | exact Kd.S_nil _ _ _ _ _, by first | exact Kd.R_nil _ _ _ _ _ | exact Kd.N_nil _ _ _ _ _ | exact Kd.V_nil _ _ _ _ _ | exact Kd.Q_nil _ _ _ _ _ | exact Kd.S_nil _ _ _ _ _, by first | exact Kd.S_nil _ _ _ _ _ | exact Kd.N_nil _ _ _ _ _ | exact Kd.V_nil _ _ _ _ _ | exact Kd.Q_nil _ _ _ _ _ | exact Kd.R_nil _ _ _ _ _, by repeat first | exact Bl HB | refine Bp (below_set ?_ GE408.out) | refine Bp (below_set ?_ GE409.out)⟩
  ·rw [if_neg c7] at H
   have c7b0 : (t411 == 0) = false := beq_eq_false_iff_ne.mpr c7
   have c7b1 : (t411 != 0) = true := bne_iff_ne.mpr c7
   simp only [Option.some.injEq, Prod.mk.injEq] at H
   obtain ⟨rfl, rfl, rfl, rfl⟩ := H
   go_enter Try.func17, Try.ntmps17
   go_wp2_with (first | ((with_reducible refine gate_dst (N := 3) rfl ?_); refine box_event ?hg (N := 3) ?hd (cs := #[.slice A0_0 l0_0.length c0_0, .slice A0_1 l0_1.length c0_1, .slice A0_2 l0_2.length c0_2]) (t := 39) ?hr ?_; (case hd => rfl); (case hg => rfl); (case hr => first | (go_simp; done) | (go_simp; rfl)); intro gb408 hg w62 hbox hb; have n0_ := Am (below_step (Bl HB) hb); have n1_ := Am (hbox); have n2_ := Am ((by rw [hg]; exact (below_size (Bl HB)) : w.heap.size ≤ gb408)); have n3_ := Am ((by rw [hg]; exact (below_size (Bl HB)) : w.heap.size ≤ gb408)); clear HB; have HB := n0_; have BK408 := n1_; have GW408 := n2_; have GE408 := n3_; clear n0_ n1_ n2_ n3_; clear hb hbox hg) | ((with_reducible refine gate_dst (N := 6) rfl ?_); refine box_event ?hg (N := 6) ?hd (cs := #[.slice none 0 0, .slice none 0 0, .slice none 0 0]) (t := 39) ?hr ?_; (case hd => rfl); (case hg => rfl); (case hr => first | (go_simp; done) | (go_simp; rfl)); intro gb409 hg w63 hbox hb; have n0_ := Am (blk_below (Kl BK408) hb); have n1_ := Am (below_step (by repeat first | exact Bl HB | refine Bp (below_set ?_ GE408.out)) hb); have n2_ := Am (hbox); have n3_ := Am ((by rw [hg]; exact (below_size (by repeat first | exact Bl HB | refine Bp (below_set ?_ GE408.out))) : w.heap.size ≤ gb409)); have n4_ := Am ((by rw [hg]; exact (below_size (by repeat first | exact Bl HB | refine Bp (below_set ?_ GE408.out))) : w.heap.size ≤ gb409)); have n5_ := Am ((by rw [hg]; exact Nat.ne_of_lt (blk_lt (Kl BK408)) : gb408 ≠ gb409)); have n6_ := Am ((by rw [hg]; exact Nat.ne_of_gt (blk_lt (Kl BK408)) : gb409 ≠ gb408)); clear BK408 HB; have BK408 := n0_; have HB := n1_; have BK409 := n2_; have GW409 := n3_; have GE409 := n4_; have NB408_409 := n5_; have NB409_408 := n6_; clear n0_ n1_ n2_ n3_ n4_ n5_ n6_; clear hb hbox hg; have hnb64 := NB408_409.out; have hnc64 := NB409_408.out; have hcz65_0 : w63.cell? ⟨gb408, 0, none⟩ = some (.slice A0_0 l0_0.length c0_0) := (blk_cell BK408.out 0).trans rfl; have hcz65_1 : w63.cell? ⟨gb408, 1, none⟩ = some (.slice A0_1 l0_1.length c0_1) := (blk_cell BK408.out 1).trans rfl; have hcz65_2 : w63.cell? ⟨gb408, 2, none⟩ = some (.slice A0_2 l0_2.length c0_2) := (blk_cell BK408.out 2).trans rfl; have hfz65_0 := blk_frozen BK408.out 0; have hfz65_1 := blk_frozen BK408.out 1; have hfz65_2 := blk_frozen BK408.out 2) | ((with_reducible refine gate_callee (f := 35) rfl ?_); refine goesL_ (some 17) rfl rfl Try.func35 (by kernel_rfl) rfl #[.agg #[.slice A0_0 l0_0.length c0_0, .slice A0_1 l0_1.length c0_1, .slice A0_2 l0_2.length c0_2]] rfl (by (try simp only [List.map_toArray, List.map_cons, List.map_nil]); first | done | rfl | (simp only [List.length_drop, List.length_take]; rfl)) ?_; (with_reducible refine (examboardref24_shaped.calls k _ _ l0_0 _ _ l0_1 _ _ l0_2 true _ ?side1 ?side2 ?side3 ?side4 ?side5 ?side6 A4.out).mono ?_); (case side1 => repeat (first | exact (Kd.C_below HR0_0.out HB.out) | (with_reducible refine Kd.C_alloc ?_ _) | (with_reducible refine Kd.C_drewN ?_ _) | (with_reducible refine Kd.C_drew ?_))); (case side2 => exact HC0_0.out); (case side3 => repeat (first | exact (Kd.C_below HR0_1.out HB.out) | (with_reducible refine Kd.C_alloc ?_ _) | (with_reducible refine Kd.C_drewN ?_ _) | (with_reducible refine Kd.C_drew ?_))); (case side4 => exact HC0_1.out); (case side5 => repeat (first | exact (Kd.C_below HR0_2.out HB.out) | (with_reducible refine Kd.C_alloc ?_ _) | (with_reducible refine Kd.C_drewN ?_ _) | (with_reducible refine Kd.C_drew ?_))); (case side6 => exact HC0_2.out); rintro e w66 ⟨rfl, hb⟩; refine ⟨_, rfl, ?_⟩; have n0_ := Am (blk_below (Kl BK408) hb); have n1_ := Am (blk_below (Kl BK409) hb); have n2_ := Am (below_step (by repeat first | exact Bl HB | refine Bp (below_set ?_ GE408.out) | refine Bp (below_set ?_ GE409.out)) hb); clear BK408 BK409 HB; have BK408 := n0_; have BK409 := n1_; have HB := n2_; clear n0_ n1_ n2_; (try clear hb); (try clear hb2); (try clear hk); (try clear hi); have hcz67_0 : w66.cell? ⟨gb408, 0, none⟩ = some (.slice A0_0 l0_0.length c0_0) := (blk_cell BK408.out 0).trans rfl; have hcz67_1 : w66.cell? ⟨gb408, 1, none⟩ = some (.slice A0_1 l0_1.length c0_1) := (blk_cell BK408.out 1).trans rfl; have hcz67_2 : w66.cell? ⟨gb408, 2, none⟩ = some (.slice A0_2 l0_2.length c0_2) := (blk_cell BK408.out 2).trans rfl; have hfz67_0 := blk_frozen BK408.out 0; have hfz67_1 := blk_frozen BK408.out 1; have hfz67_2 := blk_frozen BK408.out 2) | ((with_reducible refine gate_callee (f := 39) rfl ?_); refine goesL_ (some 23) rfl rfl Try.func39 (by kernel_rfl) rfl #[.slice A1 l1.length c1, .slice A0_0 l0_0.length c0_0] rfl (by (try simp only [List.map_toArray, List.map_cons, List.map_nil]); first | done | rfl | (simp only [List.length_drop, List.length_take]; rfl)) ?_; (with_reducible refine (examboardref24_wanted.calls k _ _ l1 _ _ l0_0 t411 _ ?side1 ?side2 ?side3 ?side4 A6.out).mono ?_); (case side1 => repeat (first | exact (Kd.C_below HR1.out HB.out) | (with_reducible refine Kd.C_alloc ?_ _) | (with_reducible refine Kd.C_drewN ?_ _) | (with_reducible refine Kd.C_drew ?_))); (case side2 => exact HC1.out); (case side3 => repeat (first | exact (Kd.C_below HR0_0.out HB.out) | (with_reducible refine Kd.C_alloc ?_ _) | (with_reducible refine Kd.C_drewN ?_ _) | (with_reducible refine Kd.C_drew ?_))); (case side4 => exact HC0_0.out); rintro e w' ⟨rfl, ⟨nd, rfl⟩⟩; refine ⟨_, rfl, ?_⟩; have hcz68_0 : w66.cell? ⟨gb409, 0, none⟩ = some (.slice none 0 0) := (blk_cell BK409.out 0).trans rfl; have hcz68_1 : w66.cell? ⟨gb409, 1, none⟩ = some (.slice none 0 0) := (blk_cell BK409.out 1).trans rfl; have hcz68_2 : w66.cell? ⟨gb409, 2, none⟩ = some (.slice none 0 0) := (blk_cell BK409.out 2).trans rfl; have hfz68_0 := blk_frozen BK409.out 0; have hfz68_1 := blk_frozen BK409.out 1; have hfz68_2 := blk_frozen BK409.out 2))
   refine bodyPost_ret (results_ct rfl _ _ gb409 39 #[.slice none 0 0, .slice none 0 0, .slice none 0 0] (0, 0) _ rfl (by refine Kp ?_; refine blk_put (cs := #[.slice none 0 0, .slice none 0 0, .slice none 0 0]) ?_ 2 _ rfl; refine Kp ?_; refine blk_put (cs := #[.slice none 0 0, .slice none 0 0, .slice none 0 0]) ?_ 1 _ rfl; refine Kp ?_; refine blk_put (cs := #[.slice none 0 0, .slice none 0 0, .slice none 0 0]) ?_ 0 _ rfl; refine Kp ?_; exact BK409.out) Try.underlying39 rfl (by kernel_rfl)) rfl ?_
   exact ⟨_, _, _, by first | rfl | (simp [errW_none, errW_some] <;> rfl) | (simp [*, errW_none, errW_some] <;> rfl), by first | exact Kd.R_nil _ _ _ _ _ | exact Kd.N_nil _ _ _ _ _ | exact Kd.V_nil _ _ _ _ _ | exact Kd.Q_nil _ _ _ _ _ | exact Kd.S_nil _ _ _ _ _, by first | exact Kd.R_nil _ _ _ _ _ | exact Kd.N_nil _ _ _ _ _ | exact Kd.V_nil _ _ _ _ _ | exact Kd.Q_nil _ _ _ _ _ | exact Kd.S_nil _ _ _ _ _, by first | exact Kd.S_nil _ _ _ _ _ | exact Kd.N_nil _ _ _ _ _ | exact Kd.V_nil _ _ _ _ _ | exact Kd.Q_nil _ _ _ _ _ | exact Kd.R_nil _ _ _ _ _, by repeat first | exact Bl HB | refine Bp (below_set ?_ GE408.out) | refine Bp (below_set ?_ GE409.out)⟩
 ·replace c5 := Bool.eq_false_iff.mpr c5
  subst c5
  have H1 : (some (([] : List Int), ([] : List Int), ([] : List (List Int)), 1)) = some (r1, r2, r3, r4) := by rw [if_neg (show ¬ (false = true) by decide)] at H; exact H
  clear H
  have H := H1
  clear H1
  simp only [Option.some.injEq, Prod.mk.injEq] at H
  obtain ⟨rfl, rfl, rfl, rfl⟩ := H
  go_enter Try.func17, Try.ntmps17
  go_wp2_with (first | ((with_reducible refine gate_dst (N := 3) rfl ?_); refine box_event ?hg (N := 3) ?hd (cs := #[.slice A0_0 l0_0.length c0_0, .slice A0_1 l0_1.length c0_1, .slice A0_2 l0_2.length c0_2]) (t := 39) ?hr ?_; (case hd => rfl); (case hg => rfl); (case hr => first | (go_simp; done) | (go_simp; rfl)); intro gb408 hg w69 hbox hb; have n0_ := Am (below_step (Bl HB) hb); have n1_ := Am (hbox); have n2_ := Am ((by rw [hg]; exact (below_size (Bl HB)) : w.heap.size ≤ gb408)); have n3_ := Am ((by rw [hg]; exact (below_size (Bl HB)) : w.heap.size ≤ gb408)); clear HB; have HB := n0_; have BK408 := n1_; have GW408 := n2_; have GE408 := n3_; clear n0_ n1_ n2_ n3_; clear hb hbox hg) | ((with_reducible refine gate_dst (N := 6) rfl ?_); refine box_event ?hg (N := 6) ?hd (cs := #[.slice none 0 0, .slice none 0 0, .slice none 0 0]) (t := 39) ?hr ?_; (case hd => rfl); (case hg => rfl); (case hr => first | (go_simp; done) | (go_simp; rfl)); intro gb409 hg w70 hbox hb; have n0_ := Am (blk_below (Kl BK408) hb); have n1_ := Am (below_step (by repeat first | exact Bl HB | refine Bp (below_set ?_ GE408.out)) hb); have n2_ := Am (hbox); have n3_ := Am ((by rw [hg]; exact (below_size (by repeat first | exact Bl HB | refine Bp (below_set ?_ GE408.out))) : w.heap.size ≤ gb409)); have n4_ := Am ((by rw [hg]; exact (below_size (by repeat first | exact Bl HB | refine Bp (below_set ?_ GE408.out))) : w.heap.size ≤ gb409)); have n5_ := Am ((by rw [hg]; exact Nat.ne_of_lt (blk_lt (Kl BK408)) : gb408 ≠ gb409)); have n6_ := Am ((by rw [hg]; exact Nat.ne_of_gt (blk_lt (Kl BK408)) : gb409 ≠ gb408)); clear BK408 HB; have BK408 := n0_; have HB := n1_; have BK409 := n2_; have GW409 := n3_; have GE409 := n4_; have NB408_409 := n5_; have NB409_408 := n6_; clear n0_ n1_ n2_ n3_ n4_ n5_ n6_; clear hb hbox hg; have hnb71 := NB408_409.out; have hnc71 := NB409_408.out; have hcz72_0 : w70.cell? ⟨gb408, 0, none⟩ = some (.slice A0_0 l0_0.length c0_0) := (blk_cell BK408.out 0).trans rfl; have hcz72_1 : w70.cell? ⟨gb408, 1, none⟩ = some (.slice A0_1 l0_1.length c0_1) := (blk_cell BK408.out 1).trans rfl; have hcz72_2 : w70.cell? ⟨gb408, 2, none⟩ = some (.slice A0_2 l0_2.length c0_2) := (blk_cell BK408.out 2).trans rfl; have hfz72_0 := blk_frozen BK408.out 0; have hfz72_1 := blk_frozen BK408.out 1; have hfz72_2 := blk_frozen BK408.out 2) | ((with_reducible refine gate_callee (f := 35) rfl ?_); refine goesL_ (some 17) rfl rfl Try.func35 (by kernel_rfl) rfl #[.agg #[.slice A0_0 l0_0.length c0_0, .slice A0_1 l0_1.length c0_1, .slice A0_2 l0_2.length c0_2]] rfl (by (try simp only [List.map_toArray, List.map_cons, List.map_nil]); first | done | rfl | (simp only [List.length_drop, List.length_take]; rfl)) ?_; (with_reducible refine (examboardref24_shaped.calls k _ _ l0_0 _ _ l0_1 _ _ l0_2 false _ ?side1 ?side2 ?side3 ?side4 ?side5 ?side6 A4.out).mono ?_); (case side1 => repeat (first | exact (Kd.C_below HR0_0.out HB.out) | (with_reducible refine Kd.C_alloc ?_ _) | (with_reducible refine Kd.C_drewN ?_ _) | (with_reducible refine Kd.C_drew ?_))); (case side2 => exact HC0_0.out); (case side3 => repeat (first | exact (Kd.C_below HR0_1.out HB.out) | (with_reducible refine Kd.C_alloc ?_ _) | (with_reducible refine Kd.C_drewN ?_ _) | (with_reducible refine Kd.C_drew ?_))); (case side4 => exact HC0_1.out); (case side5 => repeat (first | exact (Kd.C_below HR0_2.out HB.out) | (with_reducible refine Kd.C_alloc ?_ _) | (with_reducible refine Kd.C_drewN ?_ _) | (with_reducible refine Kd.C_drew ?_))); (case side6 => exact HC0_2.out); rintro e w73 ⟨rfl, hb⟩; refine ⟨_, rfl, ?_⟩; have n0_ := Am (blk_below (Kl BK408) hb); have n1_ := Am (blk_below (Kl BK409) hb); have n2_ := Am (below_step (by repeat first | exact Bl HB | refine Bp (below_set ?_ GE408.out) | refine Bp (below_set ?_ GE409.out)) hb); clear BK408 BK409 HB; have BK408 := n0_; have BK409 := n1_; have HB := n2_; clear n0_ n1_ n2_; (try clear hb); (try clear hb2); (try clear hk); (try clear hi); have hcz74_0 : w73.cell? ⟨gb409, 0, none⟩ = some (.slice none 0 0) := (blk_cell BK409.out 0).trans rfl; have hcz74_1 : w73.cell? ⟨gb409, 1, none⟩ = some (.slice none 0 0) := (blk_cell BK409.out 1).trans rfl; have hcz74_2 : w73.cell? ⟨gb409, 2, none⟩ = some (.slice none 0 0) := (blk_cell BK409.out 2).trans rfl; have hfz74_0 := blk_frozen BK409.out 0; have hfz74_1 := blk_frozen BK409.out 1; have hfz74_2 := blk_frozen BK409.out 2))
  refine bodyPost_ret (results_ct rfl _ _ gb409 39 #[.slice none 0 0, .slice none 0 0, .slice none 0 0] (0, 0) _ rfl (by refine Kp ?_; refine blk_put (cs := #[.slice none 0 0, .slice none 0 0, .slice none 0 0]) ?_ 2 _ rfl; refine Kp ?_; refine blk_put (cs := #[.slice none 0 0, .slice none 0 0, .slice none 0 0]) ?_ 1 _ rfl; refine Kp ?_; refine blk_put (cs := #[.slice none 0 0, .slice none 0 0, .slice none 0 0]) ?_ 0 _ rfl; refine Kp ?_; exact BK409.out) Try.underlying39 rfl (by kernel_rfl)) rfl ?_
  exact ⟨_, _, _, by first | rfl | (simp [errW_none, errW_some] <;> rfl) | (simp [*, errW_none, errW_some] <;> rfl), by first | exact Kd.R_nil _ _ _ _ _ | exact Kd.N_nil _ _ _ _ _ | exact Kd.V_nil _ _ _ _ _ | exact Kd.Q_nil _ _ _ _ _ | exact Kd.S_nil _ _ _ _ _, by first | exact Kd.R_nil _ _ _ _ _ | exact Kd.N_nil _ _ _ _ _ | exact Kd.V_nil _ _ _ _ _ | exact Kd.Q_nil _ _ _ _ _ | exact Kd.S_nil _ _ _ _ _, by first | exact Kd.S_nil _ _ _ _ _ | exact Kd.N_nil _ _ _ _ _ | exact Kd.V_nil _ _ _ _ _ | exact Kd.Q_nil _ _ _ _ _ | exact Kd.R_nil _ _ _ _ _, by repeat first | exact Bl HB | refine Bp (below_set ?_ GE408.out) | refine Bp (below_set ?_ GE409.out)⟩

end Go.Proofs.Ytgeplglggcoaiab.Matrix
