/- Lean functions and walks for Go functions of this seat, written by this claim's own program (wip/tools/xprint.py) over the kit's print. -/
import Derived.Test.YtgeplglggcoaiaaHoldx0
import Derived.Test.YtgeplglggcoaiaaHoldx17
import Derived.Test.YtgeplglggcoaiaaHoldx24
import Derived.Test.YtgeplglggcoaiaaHoldx26
import Derived.Test.YtgeplglggcoaiaaHoldx35
namespace Go.Proofs.Ytgeplglggcoaiaa.Hold
open Go.RowKit Go.Sort Go.Proofs.YtgeplglggcoaiaaW.PrintWords Go.Proofs.YtgeplglggcoaiaaW.PrintLast Go.Proofs.YtgeplglggcoaiaaW.PrintMore
attribute [local go_sem] max2_int min2_int max_two min_two max_three min_three max_four min_four   -- for this text's walks alone
set_option linter.unusedVariables false
set_option linter.unusedSimpArgs false

/-! ### examboardlaw54_HoldBlocks: function 14 -/
mutual
def examboardlaw54_HoldBlocks.l0 : Nat → List (S76) → Int → Int → Int → Int → Int → Int → List (S30) → Option (Bool)
  | 0, _, _, _, _, _, _, _, _ => none
  | k + 1, x0, x4, x5, x6, x417000, x417001, x417002, x417003 => if x6 < (x0.length : Int) then (examboardlaw54_HoldBlocks.j1 k x0 x4 x5 x6 (decide (x6 < 60)) x417000 x417001 x417002 x417003) else (examboardlaw54_HoldBlocks.j1 k x0 x4 x5 x6 false x417000 x417001 x417002 x417003)
def examboardlaw54_HoldBlocks.j1 : Nat → List (S76) → Int → Int → Int → Bool → Int → Int → Int → List (S30) → Option (Bool)
  | 0, _, _, _, _, _, _, _, _, _ => none
  | k + 1, x0, x4, x5, x6, x20, x417000, x417001, x417002, x417003 => if x20 = true then (if 0 ≤ x6 then (if x6 < (x0.length : Int) then ((examboardlaw54_do.f k x417000 x417001 x417002 x417003 ((rd_T76 x0 x6).f0) ((rd_T76 x0 x6).f1) ((rd_T76 x0 x6).f2)).bind fun bt418 => (if bt418.2.2.2.2 = 0 then (if ((rd_T76 x0 x6).f0) = 0 then (if 0 ≤ (IntKind.u64.wrap (Go.bits .and .i64 ((rd_T76 x0 x6).f1) 63)) then (examboardlaw54_HoldBlocks.j2 k x0 (Go.bits .or .i64 x4 (shl .i64 1 (IntKind.u64.wrap (Go.bits .and .i64 ((rd_T76 x0 x6).f1) 63)))) x5 x6 x417000 x417001 x417002 x417003 bt418.1 bt418.2.1 bt418.2.2.1 bt418.2.2.2.1) else (none)) else (examboardlaw54_HoldBlocks.j2 k x0 x4 x5 x6 x417000 x417001 x417002 x417003 bt418.1 bt418.2.1 bt418.2.2.1 bt418.2.2.2.1)) else ((examboardlaw54_same.f k bt418.1 bt418.2.1 bt418.2.2.1 bt418.2.2.2.1 0 0 0 ([] : List (S30))).bind fun t426 => (if t426 = true then (examboardlaw54_HoldBlocks.l0 k x0 x4 x5 (wrap64 (x6 + 1)) x417000 x417001 x417002 x417003) else (none))))) else (none)) else (none)) else (some true)
def examboardlaw54_HoldBlocks.j2 : Nat → List (S76) → Int → Int → Int → Int → Int → Int → List (S30) → Int → Int → Int → List (S30) → Option (Bool)
  | 0, _, _, _, _, _, _, _, _, _, _, _, _ => none
  | k + 1, x0, x4, x5, x6, x417000, x417001, x417002, x417003, x426000, x426001, x426002, x426003 => if 0 ≤ x6 then (if x6 < (x0.length : Int) then (if ((rd_T76 x0 x6).f0) = 1 then (if 0 ≤ (IntKind.u64.wrap (Go.bits .and .i64 ((rd_T76 x0 x6).f1) 63)) then (examboardlaw54_HoldBlocks.j3 k x0 (Go.bits .andNot .i64 x4 (shl .i64 1 (IntKind.u64.wrap (Go.bits .and .i64 ((rd_T76 x0 x6).f1) 63)))) x5 x6 x417000 x417001 x417002 x417003 x426000 x426001 x426002 x426003) else (none)) else (examboardlaw54_HoldBlocks.j3 k x0 x4 x5 x6 x417000 x417001 x417002 x417003 x426000 x426001 x426002 x426003)) else (none)) else (none)
def examboardlaw54_HoldBlocks.j3 : Nat → List (S76) → Int → Int → Int → Int → Int → Int → List (S30) → Int → Int → Int → List (S30) → Option (Bool)
  | 0, _, _, _, _, _, _, _, _, _, _, _, _ => none
  | k + 1, x0, x4, x5, x6, x417000, x417001, x417002, x417003, x426000, x426001, x426002, x426003 => if 0 ≤ x6 then (if x6 < (x0.length : Int) then (if ((rd_T76 x0 x6).f0) = 2 then (if x4 = 0 then (examboardlaw54_HoldBlocks.j4 k x0 x4 x5 x6 (x417000 == 4) x426000 x426001 x426002 x426003) else (examboardlaw54_HoldBlocks.j4 k x0 x4 x5 x6 true x426000 x426001 x426002 x426003)) else (if x426001 = x5 then ((hold_Open.f k x426000 x426001 x426002 x426003).bind fun t435 => (if (((t435.length : Int) == 0) != (x4 == 0)) = true then (none) else (examboardlaw54_HoldBlocks.l0 k x0 x4 x5 (wrap64 (x6 + 1)) x426000 x426001 x426002 x426003))) else (none))) else (none)) else (none)
def examboardlaw54_HoldBlocks.j4 : Nat → List (S76) → Int → Int → Int → Bool → Int → Int → Int → List (S30) → Option (Bool)
  | 0, _, _, _, _, _, _, _, _, _ => none
  | k + 1, x0, x4, x5, x6, x82, x426000, x426001, x426002, x426003 => if x82 = true then (none) else (if x426001 = (wrap64 (x5 + 1)) then ((hold_Open.f k x426000 x426001 x426002 x426003).bind fun t432 => (if (((t432.length : Int) == 0) != (x4 == 0)) = true then (none) else (examboardlaw54_HoldBlocks.l0 k x0 x4 (wrap64 (x5 + 1)) (wrap64 (x6 + 1)) x426000 x426001 x426002 x426003))) else (none))
end
def examboardlaw54_HoldBlocks.f (k : Nat) (l0 : List (S76)) : Option (Bool) := (hold_New.f).bind fun bt410 => (if bt410.1 = 1 then (examboardlaw54_HoldBlocks.l0 k l0 0 0 0 bt410.1 bt410.2.1 bt410.2.2.1 bt410.2.2.2) else (none))
theorem examboardlaw54_HoldBlocks.mono_l : ∀ k, (∀ y0 y1 y2 y3 y4 y5 y6 y7, LeO (examboardlaw54_HoldBlocks.l0 k y0 y1 y2 y3 y4 y5 y6 y7) (examboardlaw54_HoldBlocks.l0 (k + 1) y0 y1 y2 y3 y4 y5 y6 y7)) ∧ (∀ y0 y1 y2 y3 y4 y5 y6 y7 y8, LeO (examboardlaw54_HoldBlocks.j1 k y0 y1 y2 y3 y4 y5 y6 y7 y8) (examboardlaw54_HoldBlocks.j1 (k + 1) y0 y1 y2 y3 y4 y5 y6 y7 y8)) ∧ (∀ y0 y1 y2 y3 y4 y5 y6 y7 y8 y9 y10 y11, LeO (examboardlaw54_HoldBlocks.j2 k y0 y1 y2 y3 y4 y5 y6 y7 y8 y9 y10 y11) (examboardlaw54_HoldBlocks.j2 (k + 1) y0 y1 y2 y3 y4 y5 y6 y7 y8 y9 y10 y11)) ∧ (∀ y0 y1 y2 y3 y4 y5 y6 y7 y8 y9 y10 y11, LeO (examboardlaw54_HoldBlocks.j3 k y0 y1 y2 y3 y4 y5 y6 y7 y8 y9 y10 y11) (examboardlaw54_HoldBlocks.j3 (k + 1) y0 y1 y2 y3 y4 y5 y6 y7 y8 y9 y10 y11)) ∧ (∀ y0 y1 y2 y3 y4 y5 y6 y7 y8, LeO (examboardlaw54_HoldBlocks.j4 k y0 y1 y2 y3 y4 y5 y6 y7 y8) (examboardlaw54_HoldBlocks.j4 (k + 1) y0 y1 y2 y3 y4 y5 y6 y7 y8))
  | 0 => ⟨fun _ _ _ _ _ _ _ _ r h => by simp [examboardlaw54_HoldBlocks.l0] at h, fun _ _ _ _ _ _ _ _ _ r h => by simp [examboardlaw54_HoldBlocks.j1] at h, fun _ _ _ _ _ _ _ _ _ _ _ _ r h => by simp [examboardlaw54_HoldBlocks.j2] at h, fun _ _ _ _ _ _ _ _ _ _ _ _ r h => by simp [examboardlaw54_HoldBlocks.j3] at h, fun _ _ _ _ _ _ _ _ _ r h => by simp [examboardlaw54_HoldBlocks.j4] at h⟩
  | k + 1 => by
    obtain ⟨ih0, ih1, ih2, ih3, ih4⟩ := examboardlaw54_HoldBlocks.mono_l k
    refine ⟨?_, ?_, ?_, ?_, ?_⟩
    · intro y0 y1 y2 y3 y4 y5 y6 y7
      unfold examboardlaw54_HoldBlocks.l0
      repeat' first
      | (with_reducible exact ih0 _ _ _ _ _ _ _ _)
      | (with_reducible exact ih1 _ _ _ _ _ _ _ _ _)
      | (with_reducible exact ih2 _ _ _ _ _ _ _ _ _ _ _ _)
      | (with_reducible exact ih3 _ _ _ _ _ _ _ _ _ _ _ _)
      | (with_reducible exact ih4 _ _ _ _ _ _ _ _ _)
      | (with_reducible exact examboardlaw54_do.mono _ _ _ _ _ _ _ _)
      | (with_reducible exact examboardlaw54_same.mono _ _ _ _ _ _ _ _ _)
      | (with_reducible exact hold_Open.mono _ _ _ _ _)
      | (with_reducible exact LeO.refl _)
      | (with_reducible exact LeO.none _)
      | (with_reducible refine LeO.ite ?_ ?_)
      | (with_reducible refine LeO.bind ?_ (fun _ => ?_))
      | exact ih0 _ _ _ _ _ _ _ _
      | exact ih1 _ _ _ _ _ _ _ _ _
      | exact ih2 _ _ _ _ _ _ _ _ _ _ _ _
      | exact ih3 _ _ _ _ _ _ _ _ _ _ _ _
      | exact ih4 _ _ _ _ _ _ _ _ _
      | exact examboardlaw54_do.mono _ _ _ _ _ _ _ _
      | exact examboardlaw54_same.mono _ _ _ _ _ _ _ _ _
      | exact hold_Open.mono _ _ _ _ _
      | exact LeO.none _
      | refine LeO.ite ?_ ?_
      | refine LeO.bind ?_ (fun _ => ?_)
    · intro y0 y1 y2 y3 y4 y5 y6 y7 y8
      unfold examboardlaw54_HoldBlocks.j1
      repeat' first
      | (with_reducible exact ih0 _ _ _ _ _ _ _ _)
      | (with_reducible exact ih1 _ _ _ _ _ _ _ _ _)
      | (with_reducible exact ih2 _ _ _ _ _ _ _ _ _ _ _ _)
      | (with_reducible exact ih3 _ _ _ _ _ _ _ _ _ _ _ _)
      | (with_reducible exact ih4 _ _ _ _ _ _ _ _ _)
      | (with_reducible exact examboardlaw54_do.mono _ _ _ _ _ _ _ _)
      | (with_reducible exact examboardlaw54_same.mono _ _ _ _ _ _ _ _ _)
      | (with_reducible exact hold_Open.mono _ _ _ _ _)
      | (with_reducible exact LeO.refl _)
      | (with_reducible exact LeO.none _)
      | (with_reducible refine LeO.ite ?_ ?_)
      | (with_reducible refine LeO.bind ?_ (fun _ => ?_))
      | exact ih0 _ _ _ _ _ _ _ _
      | exact ih1 _ _ _ _ _ _ _ _ _
      | exact ih2 _ _ _ _ _ _ _ _ _ _ _ _
      | exact ih3 _ _ _ _ _ _ _ _ _ _ _ _
      | exact ih4 _ _ _ _ _ _ _ _ _
      | exact examboardlaw54_do.mono _ _ _ _ _ _ _ _
      | exact examboardlaw54_same.mono _ _ _ _ _ _ _ _ _
      | exact hold_Open.mono _ _ _ _ _
      | exact LeO.none _
      | refine LeO.ite ?_ ?_
      | refine LeO.bind ?_ (fun _ => ?_)
    · intro y0 y1 y2 y3 y4 y5 y6 y7 y8 y9 y10 y11
      unfold examboardlaw54_HoldBlocks.j2
      repeat' first
      | (with_reducible exact ih0 _ _ _ _ _ _ _ _)
      | (with_reducible exact ih1 _ _ _ _ _ _ _ _ _)
      | (with_reducible exact ih2 _ _ _ _ _ _ _ _ _ _ _ _)
      | (with_reducible exact ih3 _ _ _ _ _ _ _ _ _ _ _ _)
      | (with_reducible exact ih4 _ _ _ _ _ _ _ _ _)
      | (with_reducible exact examboardlaw54_do.mono _ _ _ _ _ _ _ _)
      | (with_reducible exact examboardlaw54_same.mono _ _ _ _ _ _ _ _ _)
      | (with_reducible exact hold_Open.mono _ _ _ _ _)
      | (with_reducible exact LeO.refl _)
      | (with_reducible exact LeO.none _)
      | (with_reducible refine LeO.ite ?_ ?_)
      | (with_reducible refine LeO.bind ?_ (fun _ => ?_))
      | exact ih0 _ _ _ _ _ _ _ _
      | exact ih1 _ _ _ _ _ _ _ _ _
      | exact ih2 _ _ _ _ _ _ _ _ _ _ _ _
      | exact ih3 _ _ _ _ _ _ _ _ _ _ _ _
      | exact ih4 _ _ _ _ _ _ _ _ _
      | exact examboardlaw54_do.mono _ _ _ _ _ _ _ _
      | exact examboardlaw54_same.mono _ _ _ _ _ _ _ _ _
      | exact hold_Open.mono _ _ _ _ _
      | exact LeO.none _
      | refine LeO.ite ?_ ?_
      | refine LeO.bind ?_ (fun _ => ?_)
    · intro y0 y1 y2 y3 y4 y5 y6 y7 y8 y9 y10 y11
      unfold examboardlaw54_HoldBlocks.j3
      repeat' first
      | (with_reducible exact ih0 _ _ _ _ _ _ _ _)
      | (with_reducible exact ih1 _ _ _ _ _ _ _ _ _)
      | (with_reducible exact ih2 _ _ _ _ _ _ _ _ _ _ _ _)
      | (with_reducible exact ih3 _ _ _ _ _ _ _ _ _ _ _ _)
      | (with_reducible exact ih4 _ _ _ _ _ _ _ _ _)
      | (with_reducible exact examboardlaw54_do.mono _ _ _ _ _ _ _ _)
      | (with_reducible exact examboardlaw54_same.mono _ _ _ _ _ _ _ _ _)
      | (with_reducible exact hold_Open.mono _ _ _ _ _)
      | (with_reducible exact LeO.refl _)
      | (with_reducible exact LeO.none _)
      | (with_reducible refine LeO.ite ?_ ?_)
      | (with_reducible refine LeO.bind ?_ (fun _ => ?_))
      | exact ih0 _ _ _ _ _ _ _ _
      | exact ih1 _ _ _ _ _ _ _ _ _
      | exact ih2 _ _ _ _ _ _ _ _ _ _ _ _
      | exact ih3 _ _ _ _ _ _ _ _ _ _ _ _
      | exact ih4 _ _ _ _ _ _ _ _ _
      | exact examboardlaw54_do.mono _ _ _ _ _ _ _ _
      | exact examboardlaw54_same.mono _ _ _ _ _ _ _ _ _
      | exact hold_Open.mono _ _ _ _ _
      | exact LeO.none _
      | refine LeO.ite ?_ ?_
      | refine LeO.bind ?_ (fun _ => ?_)
    · intro y0 y1 y2 y3 y4 y5 y6 y7 y8
      unfold examboardlaw54_HoldBlocks.j4
      repeat' first
      | (with_reducible exact ih0 _ _ _ _ _ _ _ _)
      | (with_reducible exact ih1 _ _ _ _ _ _ _ _ _)
      | (with_reducible exact ih2 _ _ _ _ _ _ _ _ _ _ _ _)
      | (with_reducible exact ih3 _ _ _ _ _ _ _ _ _ _ _ _)
      | (with_reducible exact ih4 _ _ _ _ _ _ _ _ _)
      | (with_reducible exact examboardlaw54_do.mono _ _ _ _ _ _ _ _)
      | (with_reducible exact examboardlaw54_same.mono _ _ _ _ _ _ _ _ _)
      | (with_reducible exact hold_Open.mono _ _ _ _ _)
      | (with_reducible exact LeO.refl _)
      | (with_reducible exact LeO.none _)
      | (with_reducible refine LeO.ite ?_ ?_)
      | (with_reducible refine LeO.bind ?_ (fun _ => ?_))
      | exact ih0 _ _ _ _ _ _ _ _
      | exact ih1 _ _ _ _ _ _ _ _ _
      | exact ih2 _ _ _ _ _ _ _ _ _ _ _ _
      | exact ih3 _ _ _ _ _ _ _ _ _ _ _ _
      | exact ih4 _ _ _ _ _ _ _ _ _
      | exact examboardlaw54_do.mono _ _ _ _ _ _ _ _
      | exact examboardlaw54_same.mono _ _ _ _ _ _ _ _ _
      | exact hold_Open.mono _ _ _ _ _
      | exact LeO.none _
      | refine LeO.ite ?_ ?_
      | refine LeO.bind ?_ (fun _ => ?_)
theorem examboardlaw54_HoldBlocks.mono : ∀ a0 k, LeO (examboardlaw54_HoldBlocks.f k a0) (examboardlaw54_HoldBlocks.f (k + 1) a0) := by
  intro a0 k
  obtain ⟨ih0, ih1, ih2, ih3, ih4⟩ := examboardlaw54_HoldBlocks.mono_l k
  unfold examboardlaw54_HoldBlocks.f
  repeat' first
      | (with_reducible exact ih0 _ _ _ _ _ _ _ _)
      | (with_reducible exact ih1 _ _ _ _ _ _ _ _ _)
      | (with_reducible exact ih2 _ _ _ _ _ _ _ _ _ _ _ _)
      | (with_reducible exact ih3 _ _ _ _ _ _ _ _ _ _ _ _)
      | (with_reducible exact ih4 _ _ _ _ _ _ _ _ _)
      | (with_reducible exact examboardlaw54_do.mono _ _ _ _ _ _ _ _)
      | (with_reducible exact examboardlaw54_same.mono _ _ _ _ _ _ _ _ _)
      | (with_reducible exact hold_Open.mono _ _ _ _ _)
      | (with_reducible exact LeO.refl _)
      | (with_reducible exact LeO.none _)
      | (with_reducible refine LeO.ite ?_ ?_)
      | (with_reducible refine LeO.bind ?_ (fun _ => ?_))
      | exact ih0 _ _ _ _ _ _ _ _
      | exact ih1 _ _ _ _ _ _ _ _ _
      | exact ih2 _ _ _ _ _ _ _ _ _ _ _ _
      | exact ih3 _ _ _ _ _ _ _ _ _ _ _ _
      | exact ih4 _ _ _ _ _ _ _ _ _
      | exact examboardlaw54_do.mono _ _ _ _ _ _ _ _
      | exact examboardlaw54_same.mono _ _ _ _ _ _ _ _ _
      | exact hold_Open.mono _ _ _ _ _
      | exact LeO.none _
      | refine LeO.ite ?_ ?_
      | refine LeO.bind ?_ (fun _ => ?_)
def examboardlaw54_HoldBlocks.T8 : Bool × List (List Nat × List Nat) := (true, [([], []), ([], []), ([], []), ([1, 2], [1, 2]), ([3], [3]), ([0, 4], [0, 4]), ([5], [5]), ([6], [6]), ([6], [6]), ([], []), ([9, 7, 5, 0, 1, 2, 3, 4, 5, 6, 7, 9], [7, 9]), ([8, 10, 0, 1, 2, 3, 4, 5, 6, 7, 8, 9, 10], [8])])
def examboardlaw54_HoldBlocks.B8 : List Nat := [0, 0, 0, 6, 14, 31, 63, 127, 127, 0, 767, 2047]
theorem examboardlaw54_HoldBlocks.tab8 : rtab .any (opsOf Try.f14 8) = examboardlaw54_HoldBlocks.T8 := by kernel_rfl
theorem examboardlaw54_HoldBlocks.bits8 : waitsOk examboardlaw54_HoldBlocks.T8.2 examboardlaw54_HoldBlocks.B8 = true := by kernel_rfl
set_option maxHeartbeats 8000000 in
set_option maxRecDepth 100000 in
theorem examboardlaw54_HoldBlocks.calls (k : Nat) (A0 : Option Addr) (c0 : Nat) (l0 : List (S76)) (r : Bool) (w : World) (hr0 : Kd.C k76 w A0 l0.length l0) (hc0 : l0.length ≤ c0) (h : examboardlaw54_HoldBlocks.f k l0 = some r) :
    Calls Try.prog 14 #[.slice A0 l0.length c0] w fun e w' => e = .returned (.bool r) ∧ Below w.heap.size w w' := by
  have hu24 := Try.underlying24
  have hu76 := Try.underlying76
  have HR0 := Aside0.mk hr0
  have HC0 := Aside0.mk hc0
  clear hr0 hc0
  have HB := Aside0.mk (Below.refl w.heap.size w)
  have H : ((hold_New.f).bind fun bt410 => (if bt410.1 = 1 then (examboardlaw54_HoldBlocks.l0 k l0 0 0 0 bt410.1 bt410.2.1 bt410.2.2.1 bt410.2.2.2) else (none))) = some r := h
  clear h
  replace H := Option.bind_eq_some_iff.mp H
  obtain ⟨⟨t410, t411, t412, t413⟩, A20, H⟩ := H
  replace H : (if t410 = 1 then (examboardlaw54_HoldBlocks.l0 k l0 0 0 0 t410 t411 t412 t413) else (none)) = some r := H
  have A2 := Aside0.mk A20
  clear A20
  by_cases c3 : t410 = 1
  · rw [if_pos c3] at H
    have c3b0 : (t410 == 1) = true := beq_iff_eq.mpr c3
    have c3b1 : (t410 != 1) = false := bne_eq_false_iff_eq.mpr c3
    clear c3
    have H' := Aside0.mk H
    clear H
    go_enter Try.func14, Try.ntmps14
    go_wp2_with (first | ((with_reducible refine gate_callee (f := 25) rfl ?_); refine goesL_ (some 9) rfl rfl Try.func25 (by kernel_rfl) rfl #[] rfl (by (try simp only [List.map_toArray, List.map_cons, List.map_nil]); first | done | rfl | (simp only [List.length_drop, List.length_take]; rfl)) ?_; (with_reducible refine (hold_New.calls  t410 t411 t412 t413 _ A2.out).mono ?_); rintro e w4 ⟨v414, rfl, ho0, hb⟩; refine ⟨_, rfl, ?_⟩; have n0_ := Aside0.mk (Kd.R_lower ho0 (below_size (by repeat (first | (with_reducible first | exact HB.out | apply below_alloc | apply pw_below_drewN | apply below_drew1) | exact HB.out)))); have n1_ := Aside0.mk (below_step (by repeat (first | (with_reducible first | exact HB.out | apply below_alloc | apply pw_below_drewN | apply below_drew1) | exact HB.out)) hb); clear HB; have HO415 := n0_; have HB := n1_; clear n0_ n1_; (try clear hb); (try clear hb2); (try clear hk); (try clear hi); (try clear ho0)) | ((with_reducible refine gate_dst (N := 3) rfl ?_); (try (refine gate_guard (by rfl) ?_; dsimp only)); refine box_event ?hg (N := 3) ?hd (cs := #[.int .i64 0, .int .i64 0, .int .i64 0, .slice none 0 0]) (t := 24) ?hr ?_; (case hd => rfl); (case hg => rfl); (case hr => first | (go_simp; done) | (go_simp; rfl)); intro gb416 hg w5 hbox hb; have n0_ := Aside0.mk (Kd.R_below (by (with_reducible repeat (first | apply Kd.R_alloc | apply Kd.R_drewN | apply Kd.R_drew)); exact HO415.out) hb); have n1_ := Aside0.mk (below_step (by repeat (first | (with_reducible first | exact HB.out | apply below_alloc | apply pw_below_drewN | apply below_drew1) | exact HB.out)) hb); have n2_ := Aside0.mk (hbox); have n3_ := Aside0.mk ((by rw [hg]; exact (below_size (by repeat (first | (with_reducible first | exact HB.out | apply below_alloc | apply pw_below_drewN | apply below_drew1) | exact HB.out))) : w.heap.size ≤ gb416)); have n4_ := Aside0.mk ((by rw [hg]; exact (below_size (by repeat (first | (with_reducible first | exact HB.out | apply below_alloc | apply pw_below_drewN | apply below_drew1) | exact HB.out))) : w.heap.size ≤ gb416)); clear HO415; clear HB; have HO415 := n0_; have HB := n1_; have BK416 := n2_; have GW416 := n3_; have GE416 := n4_; clear n0_ n1_ n2_ n3_ n4_; clear hb hbox hg; have hcz6_0 : w5.cell? ⟨gb416, 0, none⟩ = some (.int .i64 0) := (blk_cell BK416.out 0).trans rfl; have hcz6_1 : w5.cell? ⟨gb416, 1, none⟩ = some (.int .i64 0) := (blk_cell BK416.out 1).trans rfl; have hcz6_2 : w5.cell? ⟨gb416, 2, none⟩ = some (.int .i64 0) := (blk_cell BK416.out 2).trans rfl; have hcz6_3 : w5.cell? ⟨gb416, 3, none⟩ = some (.slice none 0 0) := (blk_cell BK416.out 3).trans rfl; have hfz6_0 := blk_frozen BK416.out 0; have hfz6_1 := blk_frozen BK416.out 1; have hfz6_2 := blk_frozen BK416.out 2; have hfz6_3 := blk_frozen BK416.out 3; obtain ⟨Ao7, co7, eo7⟩ := Kd.R_slice HO415.out; subst eo7))
    go_loopg [4, 5, 6] k (fun kq v4 v5 v6 w' => ∃ (x4_1 : Int) (x5_1 : Int) (x6_1 : Int) (x417000_1 : Int) (x417001_1 : Int) (x417002_1 : Int) (x417003_1 : List (S30)) (u417003 : Value), v4 = .int .i64 x4_1 ∧ v5 = .int .i64 x5_1 ∧ v6 = .int .i64 x6_1 ∧ Aside0 (examboardlaw54_HoldBlocks.l0 kq l0 x4_1 x5_1 x6_1 x417000_1 x417001_1 x417002_1 x417003_1 = some r) ∧ Aside0 (kq ≤ k) ∧ Aside0 (Kd.R k30 30 w' w.heap.size (fun _ => True) u417003 x417003_1) ∧ Aside0 (w'.heap[gb416]? = some (.cells #[.int .i64 x417000_1, .int .i64 x417001_1, .int .i64 x417002_1, u417003] 24 (0, 0))) ∧ Aside0 (Below w.heap.size w w'))
    case atStart => exact ⟨(0), (0), (0), (t410), (t411), (t412), (t413), (.slice Ao7 t413.length co7), (by first | rfl | (simp; done) | (simp [*]; done)), (by first | rfl | (simp; done) | (simp [*]; done)), (by first | rfl | (simp; done) | (simp [*]; done)), H', ⟨Nat.le_refl _⟩, ⟨by (with_reducible repeat (first | apply Kd.R_alloc | apply Kd.R_drewN | apply Kd.R_drew)); exact Kd.R_mono (Kd.R_far (p := ⟨gb416, 3, none⟩) (Kd.R_far (p := ⟨gb416, 2, none⟩) (Kd.R_far (p := ⟨gb416, 1, none⟩) (Kd.R_far (p := ⟨gb416, 0, none⟩) (Kd.R_types HO415.out BK416.out (by decide)) (fun _ hk => hk.2) (.int .i64 t410)) (fun _ hk => hk.2) (.int .i64 t411)) (fun _ hk => hk.2) (.int .i64 t412)) (fun _ hk => hk.2) (.slice Ao7 t413.length co7)) (fun _ hk => trivial)⟩, ⟨by (with_reducible repeat (first | refine blk_drewN ?_ _ | refine blk_drew ?_ | refine blk_alloc ?_ _)); refine blk_put (cs := #[.int .i64 t410, .int .i64 t411, .int .i64 t412, .slice none 0 0]) ?_ 3 _ rfl; (with_reducible repeat (first | refine blk_drewN ?_ _ | refine blk_drew ?_ | refine blk_alloc ?_ _)); refine blk_put (cs := #[.int .i64 t410, .int .i64 t411, .int .i64 0, .slice none 0 0]) ?_ 2 _ rfl; (with_reducible repeat (first | refine blk_drewN ?_ _ | refine blk_drew ?_ | refine blk_alloc ?_ _)); refine blk_put (cs := #[.int .i64 t410, .int .i64 0, .int .i64 0, .slice none 0 0]) ?_ 1 _ rfl; (with_reducible repeat (first | refine blk_drewN ?_ _ | refine blk_drew ?_ | refine blk_alloc ?_ _)); refine blk_put (cs := #[.int .i64 0, .int .i64 0, .int .i64 0, .slice none 0 0]) ?_ 0 _ rfl; (with_reducible repeat (first | refine blk_drewN ?_ _ | refine blk_drew ?_ | refine blk_alloc ?_ _)); exact BK416.out⟩, ⟨by repeat (first | (with_reducible first | exact HB.out | apply below_alloc | apply pw_below_drewN | apply below_drew1 | refine below_set ?_ GE416.out) | exact HB.out)⟩⟩
    case round =>
      clear H'
      try clear c1
      try clear c2
      try clear p2
      try clear c3
      try clear c3b0
      try clear c3b1
      try clear hcz6_0
      try clear hcz6_1
      try clear hcz6_2
      try clear hcz6_3
      try clear hfz6_0
      try clear hfz6_1
      try clear hfz6_2
      try clear hfz6_3
      obtain ⟨x4_1, x5_1, x6_1, x417000_1, x417001_1, x417002_1, x417003_1, u417003, rfl, rfl, rfl, HA, HK1, HO_417003, BK416, HB⟩ := hrel
      cases gk with
      | zero => exact absurd HA.out (by simp [examboardlaw54_HoldBlocks.l0])
      | succ k1 =>
        have H := HA.out
        clear HA
        simp only [examboardlaw54_HoldBlocks.l0] at H
        have HC8 := Aside0.mk H
        clear H
        go_upto_region 6 with (fail)
        go_cut [20] (fun v20 wc => ∃ (kq : Nat) (x20_7 : Bool), v20 = .bool x20_7 ∧ Aside0 (examboardlaw54_HoldBlocks.j1 kq l0 x4_1 x5_1 x6_1 x20_7 x417000_1 x417001_1 x417002_1 x417003_1 = some r) ∧ Aside0 (kq ≤ k1) ∧ Aside0 (Kd.R k30 30 wc w.heap.size (fun _ => True) u417003 x417003_1) ∧ Aside0 (wc.heap[gb416]? = some (.cells #[.int .i64 x417000_1, .int .i64 x417001_1, .int .i64 x417002_1, u417003] 24 (0, 0))) ∧ Aside0 (Below w.heap.size w wc))
        case first =>
          have H := HC8.out
          clear HC8
          by_cases c9 : x6_1 < (l0.length : Int)
          · rw [if_pos c9] at H
            have c9b0 : decide (x6_1 < (l0.length : Int)) = true := decide_eq_true c9
            clear c9
            (first | rw [c9b0] | (simp only [i64_w, i32_w]; rw [c9b0]) | skip)
            have H' := Aside0.mk H
            clear H
            go_wp2
            go_meet
            case rel => exact ⟨_, (decide (x6_1 < 60)), (by first | rfl | (simp; done) | (simp [*]; done)), H', ⟨by have := HK1.out; first | omega | exact Nat.le_refl _⟩, ⟨by (with_reducible repeat (first | apply Kd.R_alloc | apply Kd.R_drewN | apply Kd.R_drew)); exact HO_417003.out⟩, ⟨by (with_reducible repeat (first | refine blk_drewN ?_ _ | refine blk_drew ?_ | refine blk_alloc ?_ _)); exact BK416.out⟩, ⟨by repeat (first | (with_reducible first | exact HB.out | apply below_alloc | apply pw_below_drewN | apply below_drew1 | refine below_set ?_ GE416.out) | exact HB.out)⟩⟩
          · rw [if_neg c9] at H
            have c9b0 : decide (x6_1 < (l0.length : Int)) = false := decide_eq_false c9
            clear c9
            (first | rw [c9b0] | (simp only [i64_w, i32_w]; rw [c9b0]) | skip)
            have H' := Aside0.mk H
            clear H
            go_wp2
            go_meet
            case rel => exact ⟨_, (false), (by first | rfl | (simp; done) | (simp [*]; done)), H', ⟨by have := HK1.out; first | omega | exact Nat.le_refl _⟩, ⟨by (with_reducible repeat (first | apply Kd.R_alloc | apply Kd.R_drewN | apply Kd.R_drew)); exact HO_417003.out⟩, ⟨by (with_reducible repeat (first | refine blk_drewN ?_ _ | refine blk_drew ?_ | refine blk_alloc ?_ _)); exact BK416.out⟩, ⟨by repeat (first | (with_reducible first | exact HB.out | apply below_alloc | apply pw_below_drewN | apply below_drew1 | refine below_set ?_ GE416.out) | exact HB.out)⟩⟩
        case rest =>
          clear HC8
          try clear c1
          try clear c2
          try clear p2
          try clear c3
          try clear c3b0
          try clear c3b1
          try clear c9
          try clear c9b0
          try clear hcz6_0
          try clear hcz6_1
          try clear hcz6_2
          try clear hcz6_3
          try clear hfz6_0
          try clear hfz6_1
          try clear hfz6_2
          try clear hfz6_3
          try clear p2
          obtain ⟨kq, x20_7, rfl, HA, HJ7, HO_417003, BK416, HB⟩ := hcut
          cases kq with
          | zero => exact absurd HA.out (by simp [examboardlaw54_HoldBlocks.j1])
          | succ kj7 =>
            have H := HA.out
            clear HA
            simp only [examboardlaw54_HoldBlocks.j1] at H
            by_cases c10 : x20_7 = true
            · subst c10
              have H1 : (if 0 ≤ x6_1 then (if x6_1 < (l0.length : Int) then ((examboardlaw54_do.f kj7 x417000_1 x417001_1 x417002_1 x417003_1 ((rd_T76 l0 x6_1).f0) ((rd_T76 l0 x6_1).f1) ((rd_T76 l0 x6_1).f2)).bind fun bt418 => (if bt418.2.2.2.2 = 0 then (if ((rd_T76 l0 x6_1).f0) = 0 then (if 0 ≤ (IntKind.u64.wrap (Go.bits .and .i64 ((rd_T76 l0 x6_1).f1) 63)) then (examboardlaw54_HoldBlocks.j2 kj7 l0 (Go.bits .or .i64 x4_1 (shl .i64 1 (IntKind.u64.wrap (Go.bits .and .i64 ((rd_T76 l0 x6_1).f1) 63)))) x5_1 x6_1 x417000_1 x417001_1 x417002_1 x417003_1 bt418.1 bt418.2.1 bt418.2.2.1 bt418.2.2.2.1) else (none)) else (examboardlaw54_HoldBlocks.j2 kj7 l0 x4_1 x5_1 x6_1 x417000_1 x417001_1 x417002_1 x417003_1 bt418.1 bt418.2.1 bt418.2.2.1 bt418.2.2.2.1)) else ((examboardlaw54_same.f kj7 bt418.1 bt418.2.1 bt418.2.2.1 bt418.2.2.2.1 0 0 0 ([] : List (S30))).bind fun t426 => (if t426 = true then (examboardlaw54_HoldBlocks.l0 kj7 l0 x4_1 x5_1 (wrap64 (x6_1 + 1)) x417000_1 x417001_1 x417002_1 x417003_1) else (none))))) else (none)) else (none)) = some r := by rw [if_pos rfl] at H; exact H
              clear H
              have H := H1
              clear H1
              by_cases c11 : 0 ≤ x6_1
              · rw [if_pos c11] at H
                have c11b0 : decide (0 ≤ x6_1) = true := decide_eq_true c11
                clear c11
                by_cases c12 : x6_1 < (l0.length : Int)
                · rw [if_pos c12] at H
                  have c12b0 : decide (x6_1 < (l0.length : Int)) = true := decide_eq_true c12
                  clear c12
                  replace H := Option.bind_eq_some_iff.mp H
                  obtain ⟨⟨t418, t419, t420, t421, t424⟩, A130, H⟩ := H
                  replace H : (if t424 = 0 then (if ((rd_T76 l0 x6_1).f0) = 0 then (if 0 ≤ (IntKind.u64.wrap (Go.bits .and .i64 ((rd_T76 l0 x6_1).f1) 63)) then (examboardlaw54_HoldBlocks.j2 kj7 l0 (Go.bits .or .i64 x4_1 (shl .i64 1 (IntKind.u64.wrap (Go.bits .and .i64 ((rd_T76 l0 x6_1).f1) 63)))) x5_1 x6_1 x417000_1 x417001_1 x417002_1 x417003_1 t418 t419 t420 t421) else (none)) else (examboardlaw54_HoldBlocks.j2 kj7 l0 x4_1 x5_1 x6_1 x417000_1 x417001_1 x417002_1 x417003_1 t418 t419 t420 t421)) else ((examboardlaw54_same.f kj7 t418 t419 t420 t421 0 0 0 ([] : List (S30))).bind fun t426 => (if t426 = true then (examboardlaw54_HoldBlocks.l0 kj7 l0 x4_1 x5_1 (wrap64 (x6_1 + 1)) x417000_1 x417001_1 x417002_1 x417003_1) else (none)))) = some r := H
                  have A13 := Aside0.mk A130
                  clear A130
                  by_cases c14 : t424 = 0
                  · rw [if_pos c14] at H
                    have c14b0 : (t424 == 0) = true := beq_iff_eq.mpr c14
                    have c14b1 : (t424 != 0) = false := bne_eq_false_iff_eq.mpr c14
                    clear c14
                    have HC15 := Aside0.mk H
                    clear H
                    obtain ⟨Ao16, co16, eo16⟩ := Kd.R_slice HO_417003.out
                    subst eo16
                    try go_wp2
                    have n0_ := Aside0.mk (Kd.R_drew HO_417003.out)
                    have n1_ := Aside0.mk (blk_drew BK416.out)
                    have n2_ := Aside0.mk (below_drew1 HB.out)
                    clear HO_417003
                    clear BK416
                    clear HB
                    have HO_417003 := n0_
                    have BK416 := n1_
                    have HB := n2_
                    clear n0_ n1_ n2_
                    have p417 : 0 ≤ (x6_1 : Int) := of_decide_eq_true (by first | (with_reducible assumption) | assumption)
                    have q417 : x6_1 < (l0.length : Int) := of_decide_eq_true (by first | (with_reducible assumption) | assumption)
                    obtain ⟨ad417, e417, hx417_0, hx417_1, hx417_2⟩ := at_T76 HR0.out x6_1 p417 q417
                    have hw417_2 := hx417_2
                    have hw417_1 := hx417_1
                    have hw417_0 := hx417_0
                    cases e417
                    replace hx417_0 := (HB.out.cell (World.block_lt_of_cell? w _ hx417_0)).trans hx417_0
                    replace hx417_1 := (HB.out.cell (World.block_lt_of_cell? w _ hx417_1)).trans hx417_1
                    replace hx417_2 := (HB.out.cell (World.block_lt_of_cell? w _ hx417_2)).trans hx417_2
                    replace p417 := eq_true p417
                    replace q417 := eq_true q417
                    refine start_ (n := 12) (S := fun w' => w'.cell? ⟨gb416, 0, none⟩ = some (.int .i64 x417000_1) ∧ w'.cell? ⟨gb416, 1, none⟩ = some (.int .i64 x417001_1) ∧ w'.cell? ⟨gb416, 2, none⟩ = some (.int .i64 x417002_1) ∧ w'.cell? ⟨gb416, 3, none⟩ = some (.slice Ao16 x417003_1.length co16) ∧ w'.cell? (ad417.add ((x6_1).toNat * 3)) = some (.int .i64 ((rd_T76 l0 x6_1).f0)) ∧ w'.cell? ⟨(ad417.add ((x6_1).toNat * 3)).block, (ad417.add ((x6_1).toNat * 3)).off + 1, none⟩ = some (.int .i64 ((rd_T76 l0 x6_1).f1)) ∧ w'.cell? ⟨(ad417.add ((x6_1).toNat * 3)).block, (ad417.add ((x6_1).toNat * 3)).off + 2, none⟩ = some (.int .i64 ((rd_T76 l0 x6_1).f2))) (ds := []) #[false, false, false, false, false, false, false, false, false, false, false, false] (by kernel_rfl) rfl rfl ⟨(blk_cell BK416.out 0).trans rfl, (blk_cell BK416.out 1).trans rfl, (blk_cell BK416.out 2).trans rfl, (blk_cell BK416.out 3).trans rfl, ((HB.out.cell (World.block_lt_of_cell? w _ hw417_0)).trans hw417_0), ((HB.out.cell (World.block_lt_of_cell? w _ hw417_1)).trans hw417_1), ((HB.out.cell (World.block_lt_of_cell? w _ hw417_2)).trans hw417_2)⟩ (fun hHeld => ?_); refine with_tabW examboardlaw54_HoldBlocks.tab8 examboardlaw54_HoldBlocks.bits8 (fun HT_ HW_ => ?_)
                    generalize wc.drew = w17 at HO_417003 BK416 HB hx417_0 hx417_1 hx417_2 hHeld ⊢
                    refine pure_ (i := 1) (N := some 25) (v := ?_) (a' := ?_) #[false, true, false, false, false, false, false, false, false, false, false, false] rfl rfl (any_of HT_.out (by kernel_rfl)) (fun _ _ _ h => h) (Or.inl ⟨by rfl, ?_⟩) ?_ ?_
                    rotate_left
                    · intro w'
                      go_simp
                      with_reducible rfl
                    rotate_left
                    · simp only [Act.put, List.setIfInBounds_toArray, List.set_cons_zero, List.set_cons_succ, i64_w, i32_w]
                      rfl
                    refine pure_ (i := 2) (N := some 26) (v := ?_) (a' := ?_) #[false, true, true, false, false, false, false, false, false, false, false, false] rfl rfl (any_of HT_.out (by kernel_rfl)) (fun _ _ _ h => h) (Or.inl ⟨by rfl, ?_⟩) ?_ ?_
                    rotate_left
                    · intro w'
                      go_simp
                      with_reducible rfl
                    rotate_left
                    · simp only [Act.put, List.setIfInBounds_toArray, List.set_cons_zero, List.set_cons_succ, i64_w, i32_w]
                      rfl
                    refine pure_ (i := 3) (N := some 27) (v := ?_) (a' := ?_) #[false, true, true, true, false, false, false, false, false, false, false, false] rfl rfl (any_of HT_.out (by kernel_rfl)) (fun _ _ _ h => h) (Or.inl ⟨by rfl, ?_⟩) ?_ ?_
                    rotate_left
                    · intro w'
                      go_simp
                      with_reducible rfl
                    rotate_left
                    · simp only [Act.put, List.setIfInBounds_toArray, List.set_cons_zero, List.set_cons_succ, i64_w, i32_w]
                      rfl
                    refine take_ (i := 0) (N := some 24) (v := ?_) (a' := ?_) #[true, true, true, true, false, false, false, false, false, false, false, false] rfl rfl (take_ofW HT_.out HW_.out (by kernel_rfl)) (fun _ _ _ h => h) (Or.inl ⟨by rfl, ?_⟩) hHeld ?_ ?_
                    rotate_left
                    · rintro w' ⟨s0, s1, s2, s3, s4, s5, s6⟩
                      go_simp
                      with_reducible rfl
                    rotate_left
                    · simp only [Act.put, List.setIfInBounds_toArray, List.set_cons_zero, List.set_cons_succ, i64_w, i32_w]
                      rfl
                    refine take_ (i := 4) (N := some 28) (v := ?_) (a' := ?_) #[true, true, true, true, true, false, false, false, false, false, false, false] rfl rfl (take_ofW HT_.out HW_.out (by kernel_rfl)) (fun _ _ _ h => h) (Or.inl ⟨by rfl, ?_⟩) hHeld ?_ ?_
                    rotate_left
                    · rintro w' ⟨s0, s1, s2, s3, s4, s5, s6⟩
                      go_simp
                      with_reducible rfl
                    rotate_left
                    · simp only [Act.put, List.setIfInBounds_toArray, List.set_cons_zero, List.set_cons_succ, i64_w, i32_w]
                      rfl
                    refine join_ (σ := Value × Nat) 2 #[true, true, true, true, true, true, true, true, true, true, false, false] (fun s_ => [(29, .tuple #[.agg #[.int .i64 t418, .int .i64 t419, .int .i64 t420, s_.1], .int .i64 t424]), (7, .pointer (some ⟨s_.2, 0, none⟩)), (23, .tuple #[.agg #[.int .i64 t418, .int .i64 t419, .int .i64 t420, s_.1], .int .i64 t424]), (30, .agg #[.int .i64 t418, .int .i64 t419, .int .i64 t420, s_.1]), (31, .int .i64 t424)]) (fun s_ w' => (w'.cell? ⟨gb416, 0, none⟩ = some (.int .i64 x417000_1) ∧ w'.cell? ⟨gb416, 1, none⟩ = some (.int .i64 x417001_1) ∧ w'.cell? ⟨gb416, 2, none⟩ = some (.int .i64 x417002_1) ∧ w'.cell? ⟨gb416, 3, none⟩ = some (.slice Ao16 x417003_1.length co16) ∧ w'.cell? (ad417.add ((x6_1).toNat * 3)) = some (.int .i64 ((rd_T76 l0 x6_1).f0)) ∧ w'.cell? ⟨(ad417.add ((x6_1).toNat * 3)).block, (ad417.add ((x6_1).toNat * 3)).off + 1, none⟩ = some (.int .i64 ((rd_T76 l0 x6_1).f1)) ∧ w'.cell? ⟨(ad417.add ((x6_1).toNat * 3)).block, (ad417.add ((x6_1).toNat * 3)).off + 2, none⟩ = some (.int .i64 ((rd_T76 l0 x6_1).f2))) ∧ (Kd.R k30 30 w' w.heap.size (fun k_ => some k_ ≠ (.slice Ao16 x417003_1.length co16 : Value).ownBlock) s_.1 t421) ∧ (Kd.R k30 30 w' w.heap.size (fun k_ => some k_ ≠ (s_.1 : Value).ownBlock) (.slice Ao16 x417003_1.length co16) x417003_1) ∧ (w'.heap[gb416]? = some (.cells #[.int .i64 x417000_1, .int .i64 x417001_1, .int .i64 x417002_1, .slice Ao16 x417003_1.length co16] 24 (0, 0))) ∧ (w'.heap[s_.2]? = some (.cells #[.int .i64 0, .int .i64 0, .int .i64 0, .slice none 0 0] 24 (0, 0))) ∧ (w.heap.size ≤ s_.2) ∧ (w.heap.size ≤ s_.2) ∧ (gb416 ≠ s_.2) ∧ (s_.2 ≠ gb416) ∧ (Below w.heap.size w w')) ?_ ?_
                    rotate_left
                    · intro hCont
                      refine two_ (i := 5) (j := 9) (Ni := some 29) (Nj := some 7) #[true, true, true, true, true, true, false, false, false, false, false, false] #[true, true, true, true, true, false, false, false, false, true, false, false] rfl rfl rfl rfl (two_of HT_.out (by kernel_rfl)) (by decide) (by decide) (fun K hK => ?_) (fun K hK => ?_)
                      · skip
                        refine goes_ Try.func54 (by kernel_rfl) rfl #[.agg #[.int .i64 x417000_1, .int .i64 x417001_1, .int .i64 x417002_1, .slice Ao16 x417003_1.length co16], .agg #[.int .i64 ((rd_T76 l0 x6_1).f0), .int .i64 ((rd_T76 l0 x6_1).f1), .int .i64 ((rd_T76 l0 x6_1).f2)]] (by rfl) rfl rfl (by (try simp only [List.map_toArray, List.map_cons, List.map_nil]); first | done | rfl | (simp only [List.length_drop, List.length_take]; rfl)) ?_
                        with_reducible refine (examboardlaw54_do.calls kj7 x417000_1 x417001_1 x417002_1 _ _ x417003_1 ((rd_T76 l0 x6_1).f0) ((rd_T76 l0 x6_1).f1) ((rd_T76 l0 x6_1).f2) t418 t419 t420 t421 t424 _ ?side1 ?side2 A13.out).mono ?_
                        (case side1 => repeat (first | exact (Kd.R_reads' HO_417003.out).2.2 | (with_reducible refine Kd.C_alloc ?_ _) | (with_reducible refine Kd.C_drewN ?_ _) | (with_reducible refine Kd.C_drew ?_)))
                        (case side2 => exact (Kd.R_reads' HO_417003.out).2.1)
                        rintro e w18 ⟨v422, rfl, ho0, hb⟩
                        refine ⟨_, rfl, ?_⟩
                        have n0_ := Aside0.mk (Kd.R_elder' (by (with_reducible repeat (first | apply Kd.R_alloc | apply Kd.R_drewN | apply Kd.R_drew)); exact HO_417003.out) (Kd.R_base ho0) hb)
                        have n1_ := Aside0.mk (Kd.R_lower (Kd.R_new' ho0 (Kd.R_lt (by (with_reducible repeat (first | apply Kd.R_alloc | apply Kd.R_drewN | apply Kd.R_drew)); exact HO_417003.out))) (below_size (by repeat (first | (with_reducible first | exact HB.out | apply below_alloc | apply pw_below_drewN | apply below_drew1 | refine below_set ?_ GE416.out) | exact HB.out))))
                        have n2_ := Aside0.mk (blk_below (g := gb416) (o := .cells #[.int .i64 x417000_1, .int .i64 x417001_1, .int .i64 x417002_1, .slice Ao16 x417003_1.length co16] 24 (0, 0)) (by (with_reducible repeat (first | refine blk_drewN ?_ _ | refine blk_drew ?_ | refine blk_alloc ?_ _)); exact BK416.out) hb)
                        have n3_ := Aside0.mk (below_step (by repeat (first | (with_reducible first | exact HB.out | apply below_alloc | apply pw_below_drewN | apply below_drew1 | refine below_set ?_ GE416.out) | exact HB.out)) hb)
                        clear HO_417003
                        clear BK416
                        clear HB
                        have HO_417003 := n0_
                        have HO423 := n1_
                        have BK416 := n2_
                        have HB := n3_
                        clear n0_ n1_ n2_ n3_
                        (try clear hb)
                        (try clear hb2)
                        (try clear hk)
                        (try clear hi)
                        (try clear ho0)
                        refine hK.out _ _ ⟨(blk_cell BK416.out 0).trans rfl, (blk_cell BK416.out 1).trans rfl, (blk_cell BK416.out 2).trans rfl, (blk_cell BK416.out 3).trans rfl, ((HB.out.cell (World.block_lt_of_cell? w _ hw417_0)).trans hw417_0), ((HB.out.cell (World.block_lt_of_cell? w _ hw417_1)).trans hw417_1), ((HB.out.cell (World.block_lt_of_cell? w _ hw417_2)).trans hw417_2)⟩ (fun hHeld => ?_)
                        clear hK K
                        refine norm_ (a' := ?_) ?_ ?_
                        rotate_left
                        · show Act.put _ (some 29) _ = _
                          simp only [Act.put, List.setIfInBounds_toArray, List.set_cons_zero, List.set_cons_succ, i64_w, i32_w]
                          rfl
                        refine pure_ (i := 6) (N := some 23) (v := ?_) (a' := ?_) #[true, true, true, true, true, true, true, false, false, false, false, false] rfl rfl (any_of HT_.out (by kernel_rfl)) (fun _ _ _ h => h) (Or.inl ⟨by rfl, ?_⟩) ?_ ?_
                        rotate_left
                        · intro w'
                          go_simp
                          with_reducible rfl
                        rotate_left
                        · simp only [Act.put, List.setIfInBounds_toArray, List.set_cons_zero, List.set_cons_succ, i64_w, i32_w]
                          rfl
                        refine pure_ (i := 7) (N := some 30) (v := ?_) (a' := ?_) #[true, true, true, true, true, true, true, true, false, false, false, false] rfl rfl (any_of HT_.out (by kernel_rfl)) (fun _ _ _ h => h) (Or.inl ⟨by rfl, ?_⟩) ?_ ?_
                        rotate_left
                        · intro w'
                          go_simp
                          with_reducible rfl
                        rotate_left
                        · simp only [Act.put, List.setIfInBounds_toArray, List.set_cons_zero, List.set_cons_succ, i64_w, i32_w]
                          rfl
                        refine pure_ (i := 8) (N := some 31) (v := ?_) (a' := ?_) #[true, true, true, true, true, true, true, true, true, false, false, false] rfl rfl (any_of HT_.out (by kernel_rfl)) (fun _ _ _ h => h) (Or.inl ⟨by rfl, ?_⟩) ?_ ?_
                        rotate_left
                        · intro w'
                          go_simp
                          with_reducible rfl
                        rotate_left
                        · simp only [Act.put, List.setIfInBounds_toArray, List.set_cons_zero, List.set_cons_succ, i64_w, i32_w]
                          rfl
                        refine one_ (i := 9) (N := some 7) #[true, true, true, true, true, true, true, true, true, true, false, false] rfl rfl (one_of HT_.out (by kernel_rfl)) (by decide) (fun K hK => ?_)
                        refine box_step ?hg (N := 7) ?hd (cs := #[.int .i64 0, .int .i64 0, .int .i64 0, .slice none 0 0]) (t := 24) ?hr ?_; (case hd => rfl); (case hg => rfl); (case hr => first | (go_simp; done) | (go_simp; rfl))
                        intro gb425 hg w19 hbox hb
                        have n0_ := Aside0.mk (Kd.R_below (by (with_reducible repeat (first | apply Kd.R_alloc | apply Kd.R_drewN | apply Kd.R_drew)); exact HO_417003.out) hb)
                        have n1_ := Aside0.mk (Kd.R_below (by (with_reducible repeat (first | apply Kd.R_alloc | apply Kd.R_drewN | apply Kd.R_drew)); exact HO423.out) hb)
                        have n2_ := Aside0.mk (blk_below (g := gb416) (o := .cells #[.int .i64 x417000_1, .int .i64 x417001_1, .int .i64 x417002_1, .slice Ao16 x417003_1.length co16] 24 (0, 0)) (by (with_reducible repeat (first | refine blk_drewN ?_ _ | refine blk_drew ?_ | refine blk_alloc ?_ _)); exact BK416.out) hb)
                        have n3_ := Aside0.mk (below_step (by repeat (first | (with_reducible first | exact HB.out | apply below_alloc | apply pw_below_drewN | apply below_drew1 | refine below_set ?_ GE416.out) | exact HB.out)) hb)
                        have n4_ := Aside0.mk (hbox)
                        have n5_ := Aside0.mk ((by rw [hg]; exact (below_size (by repeat (first | (with_reducible first | exact HB.out | apply below_alloc | apply pw_below_drewN | apply below_drew1 | refine below_set ?_ GE416.out) | exact HB.out))) : w.heap.size ≤ gb425))
                        have n6_ := Aside0.mk ((by rw [hg]; exact (below_size (by repeat (first | (with_reducible first | exact HB.out | apply below_alloc | apply pw_below_drewN | apply below_drew1 | refine below_set ?_ GE416.out) | exact HB.out))) : w.heap.size ≤ gb425))
                        have n7_ := Aside0.mk ((by rw [hg]; exact Nat.ne_of_lt (blk_lt (g := gb416) (o := .cells #[.int .i64 x417000_1, .int .i64 x417001_1, .int .i64 x417002_1, .slice Ao16 x417003_1.length co16] 24 (0, 0)) (by (with_reducible repeat (first | refine blk_drewN ?_ _ | refine blk_drew ?_ | refine blk_alloc ?_ _)); exact BK416.out)) : gb416 ≠ gb425))
                        have n8_ := Aside0.mk ((by rw [hg]; exact Nat.ne_of_gt (blk_lt (g := gb416) (o := .cells #[.int .i64 x417000_1, .int .i64 x417001_1, .int .i64 x417002_1, .slice Ao16 x417003_1.length co16] 24 (0, 0)) (by (with_reducible repeat (first | refine blk_drewN ?_ _ | refine blk_drew ?_ | refine blk_alloc ?_ _)); exact BK416.out)) : gb425 ≠ gb416))
                        clear HO_417003
                        clear HO423
                        clear BK416
                        clear HB
                        have HO_417003 := n0_
                        have HO423 := n1_
                        have BK416 := n2_
                        have HB := n3_
                        have BK425 := n4_
                        have GW425 := n5_
                        have GE425 := n6_
                        have NB416_425 := n7_
                        have NB425_416 := n8_
                        clear n0_ n1_ n2_ n3_ n4_ n5_ n6_ n7_ n8_
                        clear hb hbox hg
                        refine hK.out _ _ ⟨(blk_cell BK416.out 0).trans rfl, (blk_cell BK416.out 1).trans rfl, (blk_cell BK416.out 2).trans rfl, (blk_cell BK416.out 3).trans rfl, ((HB.out.cell (World.block_lt_of_cell? w _ hw417_0)).trans hw417_0), ((HB.out.cell (World.block_lt_of_cell? w _ hw417_1)).trans hw417_1), ((HB.out.cell (World.block_lt_of_cell? w _ hw417_2)).trans hw417_2)⟩ (fun hHeld => ?_)
                        clear hK K
                        refine norm_ (a' := ?_) ?_ ?_
                        rotate_left
                        · show Act.put _ (some 7) _ = _
                          simp only [Act.put, List.setIfInBounds_toArray, List.set_cons_zero, List.set_cons_succ, i64_w, i32_w]
                          rfl
                        exact norm_ (by simp only [putAll, Act.put, List.setIfInBounds_toArray, List.set_cons_zero, List.set_cons_succ]) (hCont (v422, gb425) _ ⟨hHeld, (by (with_reducible repeat (first | apply Kd.R_alloc | apply Kd.R_drewN | apply Kd.R_drew)); exact Kd.R_mono HO423.out (fun _ hk => hk.2)), (by (with_reducible repeat (first | apply Kd.R_alloc | apply Kd.R_drewN | apply Kd.R_drew)); exact Kd.R_mono HO_417003.out (fun _ hk => hk.2)), (by (with_reducible repeat (first | refine blk_drewN ?_ _ | refine blk_drew ?_ | refine blk_alloc ?_ _)); exact BK416.out), (by (with_reducible repeat (first | refine blk_drewN ?_ _ | refine blk_drew ?_ | refine blk_alloc ?_ _)); exact BK425.out), GW425.out, GE425.out, NB416_425.out, NB425_416.out, (by repeat (first | (with_reducible first | exact HB.out | apply below_alloc | apply pw_below_drewN | apply below_drew1 | refine below_set ?_ GE416.out | refine below_set ?_ GE425.out) | exact HB.out))⟩)
                      · skip
                        refine box_step ?hg (N := 7) ?hd (cs := #[.int .i64 0, .int .i64 0, .int .i64 0, .slice none 0 0]) (t := 24) ?hr ?_; (case hd => rfl); (case hg => rfl); (case hr => first | (go_simp; done) | (go_simp; rfl))
                        intro gb425 hg w18 hbox hb
                        have n0_ := Aside0.mk (Kd.R_below (by (with_reducible repeat (first | apply Kd.R_alloc | apply Kd.R_drewN | apply Kd.R_drew)); exact HO_417003.out) hb)
                        have n1_ := Aside0.mk (blk_below (g := gb416) (o := .cells #[.int .i64 x417000_1, .int .i64 x417001_1, .int .i64 x417002_1, .slice Ao16 x417003_1.length co16] 24 (0, 0)) (by (with_reducible repeat (first | refine blk_drewN ?_ _ | refine blk_drew ?_ | refine blk_alloc ?_ _)); exact BK416.out) hb)
                        have n2_ := Aside0.mk (below_step (by repeat (first | (with_reducible first | exact HB.out | apply below_alloc | apply pw_below_drewN | apply below_drew1 | refine below_set ?_ GE416.out) | exact HB.out)) hb)
                        have n3_ := Aside0.mk (hbox)
                        have n4_ := Aside0.mk ((by rw [hg]; exact (below_size (by repeat (first | (with_reducible first | exact HB.out | apply below_alloc | apply pw_below_drewN | apply below_drew1 | refine below_set ?_ GE416.out) | exact HB.out))) : w.heap.size ≤ gb425))
                        have n5_ := Aside0.mk ((by rw [hg]; exact (below_size (by repeat (first | (with_reducible first | exact HB.out | apply below_alloc | apply pw_below_drewN | apply below_drew1 | refine below_set ?_ GE416.out) | exact HB.out))) : w.heap.size ≤ gb425))
                        have n6_ := Aside0.mk ((by rw [hg]; exact Nat.ne_of_lt (blk_lt (g := gb416) (o := .cells #[.int .i64 x417000_1, .int .i64 x417001_1, .int .i64 x417002_1, .slice Ao16 x417003_1.length co16] 24 (0, 0)) (by (with_reducible repeat (first | refine blk_drewN ?_ _ | refine blk_drew ?_ | refine blk_alloc ?_ _)); exact BK416.out)) : gb416 ≠ gb425))
                        have n7_ := Aside0.mk ((by rw [hg]; exact Nat.ne_of_gt (blk_lt (g := gb416) (o := .cells #[.int .i64 x417000_1, .int .i64 x417001_1, .int .i64 x417002_1, .slice Ao16 x417003_1.length co16] 24 (0, 0)) (by (with_reducible repeat (first | refine blk_drewN ?_ _ | refine blk_drew ?_ | refine blk_alloc ?_ _)); exact BK416.out)) : gb425 ≠ gb416))
                        clear HO_417003
                        clear BK416
                        clear HB
                        have HO_417003 := n0_
                        have BK416 := n1_
                        have HB := n2_
                        have BK425 := n3_
                        have GW425 := n4_
                        have GE425 := n5_
                        have NB416_425 := n6_
                        have NB425_416 := n7_
                        clear n0_ n1_ n2_ n3_ n4_ n5_ n6_ n7_
                        clear hb hbox hg
                        refine hK.out _ _ ⟨(blk_cell BK416.out 0).trans rfl, (blk_cell BK416.out 1).trans rfl, (blk_cell BK416.out 2).trans rfl, (blk_cell BK416.out 3).trans rfl, ((HB.out.cell (World.block_lt_of_cell? w _ hw417_0)).trans hw417_0), ((HB.out.cell (World.block_lt_of_cell? w _ hw417_1)).trans hw417_1), ((HB.out.cell (World.block_lt_of_cell? w _ hw417_2)).trans hw417_2)⟩ (fun hHeld => ?_)
                        clear hK K
                        refine norm_ (a' := ?_) ?_ ?_
                        rotate_left
                        · show Act.put _ (some 7) _ = _
                          simp only [Act.put, List.setIfInBounds_toArray, List.set_cons_zero, List.set_cons_succ, i64_w, i32_w]
                          rfl
                        refine one_ (i := 5) (N := some 29) #[true, true, true, true, true, true, false, false, false, true, false, false] rfl rfl (one_of HT_.out (by kernel_rfl)) (by decide) (fun K hK => ?_)
                        refine goes_ Try.func54 (by kernel_rfl) rfl #[.agg #[.int .i64 x417000_1, .int .i64 x417001_1, .int .i64 x417002_1, .slice Ao16 x417003_1.length co16], .agg #[.int .i64 ((rd_T76 l0 x6_1).f0), .int .i64 ((rd_T76 l0 x6_1).f1), .int .i64 ((rd_T76 l0 x6_1).f2)]] (by rfl) rfl rfl (by (try simp only [List.map_toArray, List.map_cons, List.map_nil]); first | done | rfl | (simp only [List.length_drop, List.length_take]; rfl)) ?_
                        with_reducible refine (examboardlaw54_do.calls kj7 x417000_1 x417001_1 x417002_1 _ _ x417003_1 ((rd_T76 l0 x6_1).f0) ((rd_T76 l0 x6_1).f1) ((rd_T76 l0 x6_1).f2) t418 t419 t420 t421 t424 _ ?side1 ?side2 A13.out).mono ?_
                        (case side1 => repeat (first | exact (Kd.R_reads' HO_417003.out).2.2 | (with_reducible refine Kd.C_alloc ?_ _) | (with_reducible refine Kd.C_drewN ?_ _) | (with_reducible refine Kd.C_drew ?_)))
                        (case side2 => exact (Kd.R_reads' HO_417003.out).2.1)
                        rintro e w19 ⟨v422, rfl, ho0, hb⟩
                        refine ⟨_, rfl, ?_⟩
                        have n0_ := Aside0.mk (Kd.R_elder' (by (with_reducible repeat (first | apply Kd.R_alloc | apply Kd.R_drewN | apply Kd.R_drew)); exact HO_417003.out) (Kd.R_base ho0) hb)
                        have n1_ := Aside0.mk (Kd.R_lower (Kd.R_new' ho0 (Kd.R_lt (by (with_reducible repeat (first | apply Kd.R_alloc | apply Kd.R_drewN | apply Kd.R_drew)); exact HO_417003.out))) (below_size (by repeat (first | (with_reducible first | exact HB.out | apply below_alloc | apply pw_below_drewN | apply below_drew1 | refine below_set ?_ GE416.out | refine below_set ?_ GE425.out) | exact HB.out))))
                        have n2_ := Aside0.mk (blk_below (g := gb416) (o := .cells #[.int .i64 x417000_1, .int .i64 x417001_1, .int .i64 x417002_1, .slice Ao16 x417003_1.length co16] 24 (0, 0)) (by (with_reducible repeat (first | refine blk_drewN ?_ _ | refine blk_drew ?_ | refine blk_alloc ?_ _)); exact BK416.out) hb)
                        have n3_ := Aside0.mk (blk_below (g := gb425) (o := .cells #[.int .i64 0, .int .i64 0, .int .i64 0, .slice none 0 0] 24 (0, 0)) (by (with_reducible repeat (first | refine blk_drewN ?_ _ | refine blk_drew ?_ | refine blk_alloc ?_ _)); exact BK425.out) hb)
                        have n4_ := Aside0.mk (below_step (by repeat (first | (with_reducible first | exact HB.out | apply below_alloc | apply pw_below_drewN | apply below_drew1 | refine below_set ?_ GE416.out | refine below_set ?_ GE425.out) | exact HB.out)) hb)
                        clear HO_417003
                        clear BK416
                        clear BK425
                        clear HB
                        have HO_417003 := n0_
                        have HO423 := n1_
                        have BK416 := n2_
                        have BK425 := n3_
                        have HB := n4_
                        clear n0_ n1_ n2_ n3_ n4_
                        (try clear hb)
                        (try clear hb2)
                        (try clear hk)
                        (try clear hi)
                        (try clear ho0)
                        refine hK.out _ _ ⟨(blk_cell BK416.out 0).trans rfl, (blk_cell BK416.out 1).trans rfl, (blk_cell BK416.out 2).trans rfl, (blk_cell BK416.out 3).trans rfl, ((HB.out.cell (World.block_lt_of_cell? w _ hw417_0)).trans hw417_0), ((HB.out.cell (World.block_lt_of_cell? w _ hw417_1)).trans hw417_1), ((HB.out.cell (World.block_lt_of_cell? w _ hw417_2)).trans hw417_2)⟩ (fun hHeld => ?_)
                        clear hK K
                        refine norm_ (a' := ?_) ?_ ?_
                        rotate_left
                        · show Act.put _ (some 29) _ = _
                          simp only [Act.put, List.setIfInBounds_toArray, List.set_cons_zero, List.set_cons_succ, i64_w, i32_w]
                          rfl
                        refine pure_ (i := 6) (N := some 23) (v := ?_) (a' := ?_) #[true, true, true, true, true, true, true, false, false, true, false, false] rfl rfl (any_of HT_.out (by kernel_rfl)) (fun _ _ _ h => h) (Or.inl ⟨by rfl, ?_⟩) ?_ ?_
                        rotate_left
                        · intro w'
                          go_simp
                          with_reducible rfl
                        rotate_left
                        · simp only [Act.put, List.setIfInBounds_toArray, List.set_cons_zero, List.set_cons_succ, i64_w, i32_w]
                          rfl
                        refine pure_ (i := 7) (N := some 30) (v := ?_) (a' := ?_) #[true, true, true, true, true, true, true, true, false, true, false, false] rfl rfl (any_of HT_.out (by kernel_rfl)) (fun _ _ _ h => h) (Or.inl ⟨by rfl, ?_⟩) ?_ ?_
                        rotate_left
                        · intro w'
                          go_simp
                          with_reducible rfl
                        rotate_left
                        · simp only [Act.put, List.setIfInBounds_toArray, List.set_cons_zero, List.set_cons_succ, i64_w, i32_w]
                          rfl
                        refine pure_ (i := 8) (N := some 31) (v := ?_) (a' := ?_) #[true, true, true, true, true, true, true, true, true, true, false, false] rfl rfl (any_of HT_.out (by kernel_rfl)) (fun _ _ _ h => h) (Or.inl ⟨by rfl, ?_⟩) ?_ ?_
                        rotate_left
                        · intro w'
                          go_simp
                          with_reducible rfl
                        rotate_left
                        · simp only [Act.put, List.setIfInBounds_toArray, List.set_cons_zero, List.set_cons_succ, i64_w, i32_w]
                          rfl
                        exact norm_ (by simp only [putAll, Act.put, List.setIfInBounds_toArray, List.set_cons_zero, List.set_cons_succ]) (hCont (v422, gb425) _ ⟨hHeld, (by (with_reducible repeat (first | apply Kd.R_alloc | apply Kd.R_drewN | apply Kd.R_drew)); exact Kd.R_mono HO423.out (fun _ hk => hk.2)), (by (with_reducible repeat (first | apply Kd.R_alloc | apply Kd.R_drewN | apply Kd.R_drew)); exact Kd.R_mono HO_417003.out (fun _ hk => hk.2)), (by (with_reducible repeat (first | refine blk_drewN ?_ _ | refine blk_drew ?_ | refine blk_alloc ?_ _)); exact BK416.out), (by (with_reducible repeat (first | refine blk_drewN ?_ _ | refine blk_drew ?_ | refine blk_alloc ?_ _)); exact BK425.out), GW425.out, GE425.out, NB416_425.out, NB425_416.out, (by repeat (first | (with_reducible first | exact HB.out | apply below_alloc | apply pw_below_drewN | apply below_drew1 | refine below_set ?_ GE416.out | refine below_set ?_ GE425.out) | exact HB.out))⟩)
                    rintro ⟨v422, gb425⟩ w20 ⟨hS_, h0_, h1_, h2_, h3_, h4_, h5_, h6_, h7_, h8_⟩
                    have n0_ : Aside0 (Kd.R k30 30 w20 w.heap.size (fun k_ => some k_ ≠ (.slice Ao16 x417003_1.length co16 : Value).ownBlock) v422 t421) := ⟨h0_⟩
                    have n1_ : Aside0 (Kd.R k30 30 w20 w.heap.size (fun k_ => some k_ ≠ (v422 : Value).ownBlock) (.slice Ao16 x417003_1.length co16) x417003_1) := ⟨h1_⟩
                    have n2_ : Aside0 (w20.heap[gb416]? = some (.cells #[.int .i64 x417000_1, .int .i64 x417001_1, .int .i64 x417002_1, .slice Ao16 x417003_1.length co16] 24 (0, 0))) := ⟨h2_⟩
                    have n3_ : Aside0 (w20.heap[gb425]? = some (.cells #[.int .i64 0, .int .i64 0, .int .i64 0, .slice none 0 0] 24 (0, 0))) := ⟨h3_⟩
                    have n4_ : Aside0 (w.heap.size ≤ gb425) := ⟨h4_⟩
                    have n5_ : Aside0 (w.heap.size ≤ gb425) := ⟨h5_⟩
                    have n6_ : Aside0 (gb416 ≠ gb425) := ⟨h6_⟩
                    have n7_ : Aside0 (gb425 ≠ gb416) := ⟨h7_⟩
                    have n8_ : Aside0 (Below w.heap.size w w20) := ⟨h8_⟩
                    clear HO_417003
                    clear BK416
                    clear HB
                    clear h0_ h1_ h2_ h3_ h4_ h5_ h6_ h7_ h8_
                    have HO423 := n0_
                    have HO_417003 := n1_
                    have BK416 := n2_
                    have BK425 := n3_
                    have GW425 := n4_
                    have GE425 := n5_
                    have NB416_425 := n6_
                    have NB425_416 := n7_
                    have HB := n8_
                    clear n0_ n1_ n2_ n3_ n4_ n5_ n6_ n7_ n8_
                    have hHeld : w20.cell? ⟨gb416, 0, none⟩ = some (.int .i64 x417000_1) ∧ w20.cell? ⟨gb416, 1, none⟩ = some (.int .i64 x417001_1) ∧ w20.cell? ⟨gb416, 2, none⟩ = some (.int .i64 x417002_1) ∧ w20.cell? ⟨gb416, 3, none⟩ = some (.slice Ao16 x417003_1.length co16) ∧ w20.cell? (ad417.add ((x6_1).toNat * 3)) = some (.int .i64 ((rd_T76 l0 x6_1).f0)) ∧ w20.cell? ⟨(ad417.add ((x6_1).toNat * 3)).block, (ad417.add ((x6_1).toNat * 3)).off + 1, none⟩ = some (.int .i64 ((rd_T76 l0 x6_1).f1)) ∧ w20.cell? ⟨(ad417.add ((x6_1).toNat * 3)).block, (ad417.add ((x6_1).toNat * 3)).off + 2, none⟩ = some (.int .i64 ((rd_T76 l0 x6_1).f2)) := hS_
                    obtain ⟨Ao24, co24, eo24⟩ := Kd.R_slice HO423.out
                    (first | subst eo24 | (injection eo24 with f1_ f2_ f3_; have f4_ := f1_.symm; have f5_ := f3_.symm; clear f1_ f2_ f3_; subst f4_; subst f5_))
                    refine norm_ (a' := ?_) ?_ ?_
                    rotate_left
                    · simp only [putAll, Act.put, List.setIfInBounds_toArray, List.set_cons_zero, List.set_cons_succ]
                      rfl
                    refine one_ (i := 10) (N := none) #[true, true, true, true, true, true, true, true, true, true, true, false] rfl rfl (one_of HT_.out (by kernel_rfl)) (by decide) (fun K hK => ?_)
                    have hs21 : w20.cell? ⟨gb425, 0, none⟩ = some (.int .i64 0) := (blk_cell BK425.out 0).trans rfl
                    have hfs21 := blk_frozen BK425.out 0
                    have hns21_0 := NB416_425.out
                    have hms21_0 := NB425_416.out
                    have hs22 : w20.cell? ⟨gb425, 1, none⟩ = some (.int .i64 0) := (blk_cell BK425.out 1).trans rfl
                    have hfs22 := blk_frozen BK425.out 1
                    have hns22_0 := NB416_425.out
                    have hms22_0 := NB425_416.out
                    have hs23 : w20.cell? ⟨gb425, 2, none⟩ = some (.int .i64 0) := (blk_cell BK425.out 2).trans rfl
                    have hfs23 := blk_frozen BK425.out 2
                    have hns23_0 := NB416_425.out
                    have hms23_0 := NB425_416.out
                    have hs25 : w20.cell? ⟨gb425, 3, none⟩ = some (.slice none 0 0) := (blk_cell BK425.out 3).trans rfl
                    have hfs25 := blk_frozen BK425.out 3
                    have hns25_0 := NB416_425.out
                    have hms25_0 := NB425_416.out
                    refine skip_ (w1 := ?_) (by rfl) rfl ?_ ?_
                    rotate_left
                    · go_simp
                      rfl
                    refine hK.out _ _ ⟨((cell_far (p := ⟨gb425, _, none⟩) NB416_425.out _).trans (((cell_far (p := ⟨gb425, _, none⟩) NB416_425.out _).trans (((cell_far (p := ⟨gb425, _, none⟩) NB416_425.out _).trans (((cell_far (p := ⟨gb425, _, none⟩) NB416_425.out _).trans (hHeld.1)))))))), ((cell_far (p := ⟨gb425, _, none⟩) NB416_425.out _).trans (((cell_far (p := ⟨gb425, _, none⟩) NB416_425.out _).trans (((cell_far (p := ⟨gb425, _, none⟩) NB416_425.out _).trans (((cell_far (p := ⟨gb425, _, none⟩) NB416_425.out _).trans (hHeld.2.1)))))))), ((cell_far (p := ⟨gb425, _, none⟩) NB416_425.out _).trans (((cell_far (p := ⟨gb425, _, none⟩) NB416_425.out _).trans (((cell_far (p := ⟨gb425, _, none⟩) NB416_425.out _).trans (((cell_far (p := ⟨gb425, _, none⟩) NB416_425.out _).trans (hHeld.2.2.1)))))))), ((cell_far (p := ⟨gb425, _, none⟩) NB416_425.out _).trans (((cell_far (p := ⟨gb425, _, none⟩) NB416_425.out _).trans (((cell_far (p := ⟨gb425, _, none⟩) NB416_425.out _).trans (((cell_far (p := ⟨gb425, _, none⟩) NB416_425.out _).trans (hHeld.2.2.2.1)))))))), ((cell_far (p := ⟨gb425, _, none⟩) (by first | exact Nat.ne_of_lt (Nat.lt_of_lt_of_le (by have := World.block_lt_of_cell? _ _ hw417_0; first | rwa [add_block] at this | exact this) GW425.out) | (rw [add_block]; exact Nat.ne_of_lt (Nat.lt_of_lt_of_le (by have := World.block_lt_of_cell? _ _ hw417_0; first | rwa [add_block] at this | exact this) GW425.out)) | (show (Addr.add _ _).block ≠ _; rw [add_block]; exact Nat.ne_of_lt (Nat.lt_of_lt_of_le (by have := World.block_lt_of_cell? _ _ hw417_0; first | rwa [add_block] at this | exact this) GW425.out)) | (dsimp only; exact Nat.ne_of_lt (Nat.lt_of_lt_of_le (by have := World.block_lt_of_cell? _ _ hw417_0; first | rwa [add_block] at this | exact this) GW425.out))) _).trans (((cell_far (p := ⟨gb425, _, none⟩) (by first | exact Nat.ne_of_lt (Nat.lt_of_lt_of_le (by have := World.block_lt_of_cell? _ _ hw417_0; first | rwa [add_block] at this | exact this) GW425.out) | (rw [add_block]; exact Nat.ne_of_lt (Nat.lt_of_lt_of_le (by have := World.block_lt_of_cell? _ _ hw417_0; first | rwa [add_block] at this | exact this) GW425.out)) | (show (Addr.add _ _).block ≠ _; rw [add_block]; exact Nat.ne_of_lt (Nat.lt_of_lt_of_le (by have := World.block_lt_of_cell? _ _ hw417_0; first | rwa [add_block] at this | exact this) GW425.out)) | (dsimp only; exact Nat.ne_of_lt (Nat.lt_of_lt_of_le (by have := World.block_lt_of_cell? _ _ hw417_0; first | rwa [add_block] at this | exact this) GW425.out))) _).trans (((cell_far (p := ⟨gb425, _, none⟩) (by first | exact Nat.ne_of_lt (Nat.lt_of_lt_of_le (by have := World.block_lt_of_cell? _ _ hw417_0; first | rwa [add_block] at this | exact this) GW425.out) | (rw [add_block]; exact Nat.ne_of_lt (Nat.lt_of_lt_of_le (by have := World.block_lt_of_cell? _ _ hw417_0; first | rwa [add_block] at this | exact this) GW425.out)) | (show (Addr.add _ _).block ≠ _; rw [add_block]; exact Nat.ne_of_lt (Nat.lt_of_lt_of_le (by have := World.block_lt_of_cell? _ _ hw417_0; first | rwa [add_block] at this | exact this) GW425.out)) | (dsimp only; exact Nat.ne_of_lt (Nat.lt_of_lt_of_le (by have := World.block_lt_of_cell? _ _ hw417_0; first | rwa [add_block] at this | exact this) GW425.out))) _).trans (((cell_far (p := ⟨gb425, _, none⟩) (by first | exact Nat.ne_of_lt (Nat.lt_of_lt_of_le (by have := World.block_lt_of_cell? _ _ hw417_0; first | rwa [add_block] at this | exact this) GW425.out) | (rw [add_block]; exact Nat.ne_of_lt (Nat.lt_of_lt_of_le (by have := World.block_lt_of_cell? _ _ hw417_0; first | rwa [add_block] at this | exact this) GW425.out)) | (show (Addr.add _ _).block ≠ _; rw [add_block]; exact Nat.ne_of_lt (Nat.lt_of_lt_of_le (by have := World.block_lt_of_cell? _ _ hw417_0; first | rwa [add_block] at this | exact this) GW425.out)) | (dsimp only; exact Nat.ne_of_lt (Nat.lt_of_lt_of_le (by have := World.block_lt_of_cell? _ _ hw417_0; first | rwa [add_block] at this | exact this) GW425.out))) _).trans (hHeld.2.2.2.2.1)))))))), ((cell_far (p := ⟨gb425, _, none⟩) (by first | exact Nat.ne_of_lt (Nat.lt_of_lt_of_le (by have := World.block_lt_of_cell? _ _ hw417_1; first | rwa [add_block] at this | exact this) GW425.out) | (rw [add_block]; exact Nat.ne_of_lt (Nat.lt_of_lt_of_le (by have := World.block_lt_of_cell? _ _ hw417_1; first | rwa [add_block] at this | exact this) GW425.out)) | (show (Addr.add _ _).block ≠ _; rw [add_block]; exact Nat.ne_of_lt (Nat.lt_of_lt_of_le (by have := World.block_lt_of_cell? _ _ hw417_1; first | rwa [add_block] at this | exact this) GW425.out)) | (dsimp only; exact Nat.ne_of_lt (Nat.lt_of_lt_of_le (by have := World.block_lt_of_cell? _ _ hw417_1; first | rwa [add_block] at this | exact this) GW425.out))) _).trans (((cell_far (p := ⟨gb425, _, none⟩) (by first | exact Nat.ne_of_lt (Nat.lt_of_lt_of_le (by have := World.block_lt_of_cell? _ _ hw417_1; first | rwa [add_block] at this | exact this) GW425.out) | (rw [add_block]; exact Nat.ne_of_lt (Nat.lt_of_lt_of_le (by have := World.block_lt_of_cell? _ _ hw417_1; first | rwa [add_block] at this | exact this) GW425.out)) | (show (Addr.add _ _).block ≠ _; rw [add_block]; exact Nat.ne_of_lt (Nat.lt_of_lt_of_le (by have := World.block_lt_of_cell? _ _ hw417_1; first | rwa [add_block] at this | exact this) GW425.out)) | (dsimp only; exact Nat.ne_of_lt (Nat.lt_of_lt_of_le (by have := World.block_lt_of_cell? _ _ hw417_1; first | rwa [add_block] at this | exact this) GW425.out))) _).trans (((cell_far (p := ⟨gb425, _, none⟩) (by first | exact Nat.ne_of_lt (Nat.lt_of_lt_of_le (by have := World.block_lt_of_cell? _ _ hw417_1; first | rwa [add_block] at this | exact this) GW425.out) | (rw [add_block]; exact Nat.ne_of_lt (Nat.lt_of_lt_of_le (by have := World.block_lt_of_cell? _ _ hw417_1; first | rwa [add_block] at this | exact this) GW425.out)) | (show (Addr.add _ _).block ≠ _; rw [add_block]; exact Nat.ne_of_lt (Nat.lt_of_lt_of_le (by have := World.block_lt_of_cell? _ _ hw417_1; first | rwa [add_block] at this | exact this) GW425.out)) | (dsimp only; exact Nat.ne_of_lt (Nat.lt_of_lt_of_le (by have := World.block_lt_of_cell? _ _ hw417_1; first | rwa [add_block] at this | exact this) GW425.out))) _).trans (((cell_far (p := ⟨gb425, _, none⟩) (by first | exact Nat.ne_of_lt (Nat.lt_of_lt_of_le (by have := World.block_lt_of_cell? _ _ hw417_1; first | rwa [add_block] at this | exact this) GW425.out) | (rw [add_block]; exact Nat.ne_of_lt (Nat.lt_of_lt_of_le (by have := World.block_lt_of_cell? _ _ hw417_1; first | rwa [add_block] at this | exact this) GW425.out)) | (show (Addr.add _ _).block ≠ _; rw [add_block]; exact Nat.ne_of_lt (Nat.lt_of_lt_of_le (by have := World.block_lt_of_cell? _ _ hw417_1; first | rwa [add_block] at this | exact this) GW425.out)) | (dsimp only; exact Nat.ne_of_lt (Nat.lt_of_lt_of_le (by have := World.block_lt_of_cell? _ _ hw417_1; first | rwa [add_block] at this | exact this) GW425.out))) _).trans (hHeld.2.2.2.2.2.1)))))))), ((cell_far (p := ⟨gb425, _, none⟩) (by first | exact Nat.ne_of_lt (Nat.lt_of_lt_of_le (by have := World.block_lt_of_cell? _ _ hw417_2; first | rwa [add_block] at this | exact this) GW425.out) | (rw [add_block]; exact Nat.ne_of_lt (Nat.lt_of_lt_of_le (by have := World.block_lt_of_cell? _ _ hw417_2; first | rwa [add_block] at this | exact this) GW425.out)) | (show (Addr.add _ _).block ≠ _; rw [add_block]; exact Nat.ne_of_lt (Nat.lt_of_lt_of_le (by have := World.block_lt_of_cell? _ _ hw417_2; first | rwa [add_block] at this | exact this) GW425.out)) | (dsimp only; exact Nat.ne_of_lt (Nat.lt_of_lt_of_le (by have := World.block_lt_of_cell? _ _ hw417_2; first | rwa [add_block] at this | exact this) GW425.out))) _).trans (((cell_far (p := ⟨gb425, _, none⟩) (by first | exact Nat.ne_of_lt (Nat.lt_of_lt_of_le (by have := World.block_lt_of_cell? _ _ hw417_2; first | rwa [add_block] at this | exact this) GW425.out) | (rw [add_block]; exact Nat.ne_of_lt (Nat.lt_of_lt_of_le (by have := World.block_lt_of_cell? _ _ hw417_2; first | rwa [add_block] at this | exact this) GW425.out)) | (show (Addr.add _ _).block ≠ _; rw [add_block]; exact Nat.ne_of_lt (Nat.lt_of_lt_of_le (by have := World.block_lt_of_cell? _ _ hw417_2; first | rwa [add_block] at this | exact this) GW425.out)) | (dsimp only; exact Nat.ne_of_lt (Nat.lt_of_lt_of_le (by have := World.block_lt_of_cell? _ _ hw417_2; first | rwa [add_block] at this | exact this) GW425.out))) _).trans (((cell_far (p := ⟨gb425, _, none⟩) (by first | exact Nat.ne_of_lt (Nat.lt_of_lt_of_le (by have := World.block_lt_of_cell? _ _ hw417_2; first | rwa [add_block] at this | exact this) GW425.out) | (rw [add_block]; exact Nat.ne_of_lt (Nat.lt_of_lt_of_le (by have := World.block_lt_of_cell? _ _ hw417_2; first | rwa [add_block] at this | exact this) GW425.out)) | (show (Addr.add _ _).block ≠ _; rw [add_block]; exact Nat.ne_of_lt (Nat.lt_of_lt_of_le (by have := World.block_lt_of_cell? _ _ hw417_2; first | rwa [add_block] at this | exact this) GW425.out)) | (dsimp only; exact Nat.ne_of_lt (Nat.lt_of_lt_of_le (by have := World.block_lt_of_cell? _ _ hw417_2; first | rwa [add_block] at this | exact this) GW425.out))) _).trans (((cell_far (p := ⟨gb425, _, none⟩) (by first | exact Nat.ne_of_lt (Nat.lt_of_lt_of_le (by have := World.block_lt_of_cell? _ _ hw417_2; first | rwa [add_block] at this | exact this) GW425.out) | (rw [add_block]; exact Nat.ne_of_lt (Nat.lt_of_lt_of_le (by have := World.block_lt_of_cell? _ _ hw417_2; first | rwa [add_block] at this | exact this) GW425.out)) | (show (Addr.add _ _).block ≠ _; rw [add_block]; exact Nat.ne_of_lt (Nat.lt_of_lt_of_le (by have := World.block_lt_of_cell? _ _ hw417_2; first | rwa [add_block] at this | exact this) GW425.out)) | (dsimp only; exact Nat.ne_of_lt (Nat.lt_of_lt_of_le (by have := World.block_lt_of_cell? _ _ hw417_2; first | rwa [add_block] at this | exact this) GW425.out))) _).trans (hHeld.2.2.2.2.2.2))))))))⟩ (fun hHeld => ?_)
                    clear hK K
                    refine pure_ (i := 11) (N := some 8) (v := ?_) (a' := ?_) #[true, true, true, true, true, true, true, true, true, true, true, true] rfl rfl (any_of HT_.out (by kernel_rfl)) (fun _ _ _ h => h) (Or.inl ⟨by rfl, ?_⟩) ?_ ?_
                    rotate_left
                    · intro w'
                      go_simp
                      with_reducible rfl
                    rotate_left
                    · simp only [Act.put, List.setIfInBounds_toArray, List.set_cons_zero, List.set_cons_succ, i64_w, i32_w]
                      rfl
                    refine done_ (done_of HT_.out (by kernel_rfl)) ?_
                    have p427 : 0 ≤ (x6_1 : Int) := of_decide_eq_true (by first | (with_reducible assumption) | assumption)
                    have q427 : x6_1 < (l0.length : Int) := of_decide_eq_true (by first | (with_reducible assumption) | assumption)
                    obtain ⟨ad427, e427, hx427_0, hx427_1, hx427_2⟩ := at_T76 HR0.out x6_1 p427 q427
                    obtain rfl : ad417 = ad427 := (by injection e427)
                    have hn427_0 : ad417.block ≠ gb425 := Nat.ne_of_lt (Nat.lt_of_lt_of_le (by have := World.block_lt_of_cell? _ _ hx427_0; first | rwa [add_block] at this | exact this) GW425.out)
                    have hn427_1 : ad417.block ≠ gb425 := Nat.ne_of_lt (Nat.lt_of_lt_of_le (by have := World.block_lt_of_cell? _ _ hx427_0; first | rwa [add_block] at this | exact this) GW425.out)
                    have hn427_2 : ad417.block ≠ gb425 := Nat.ne_of_lt (Nat.lt_of_lt_of_le (by have := World.block_lt_of_cell? _ _ hx427_0; first | rwa [add_block] at this | exact this) GW425.out)
                    have hn427_3 : ad417.block ≠ gb425 := Nat.ne_of_lt (Nat.lt_of_lt_of_le (by have := World.block_lt_of_cell? _ _ hx427_0; first | rwa [add_block] at this | exact this) GW425.out)
                    replace hx427_0 := (HB.out.cell (World.block_lt_of_cell? w _ hx427_0)).trans hx427_0
                    replace hx427_1 := (HB.out.cell (World.block_lt_of_cell? w _ hx427_1)).trans hx427_1
                    replace hx427_2 := (HB.out.cell (World.block_lt_of_cell? w _ hx427_2)).trans hx427_2
                    replace hx427_0 := (cell_far (p := ⟨gb425, 0, none⟩) (by first | (rw [add_block]; exact hn427_0) | (show (Addr.add _ _).block ≠ _; rw [add_block]; exact hn427_0) | exact hn427_0) (.int .i64 t418)).trans hx427_0
                    replace hx427_1 := (cell_far (p := ⟨gb425, 0, none⟩) (by first | (rw [add_block]; exact hn427_0) | (show (Addr.add _ _).block ≠ _; rw [add_block]; exact hn427_0) | exact hn427_0) (.int .i64 t418)).trans hx427_1
                    replace hx427_2 := (cell_far (p := ⟨gb425, 0, none⟩) (by first | (rw [add_block]; exact hn427_0) | (show (Addr.add _ _).block ≠ _; rw [add_block]; exact hn427_0) | exact hn427_0) (.int .i64 t418)).trans hx427_2
                    replace hx427_0 := (cell_far (p := ⟨gb425, 1, none⟩) (by first | (rw [add_block]; exact hn427_1) | (show (Addr.add _ _).block ≠ _; rw [add_block]; exact hn427_1) | exact hn427_1) (.int .i64 t419)).trans hx427_0
                    replace hx427_1 := (cell_far (p := ⟨gb425, 1, none⟩) (by first | (rw [add_block]; exact hn427_1) | (show (Addr.add _ _).block ≠ _; rw [add_block]; exact hn427_1) | exact hn427_1) (.int .i64 t419)).trans hx427_1
                    replace hx427_2 := (cell_far (p := ⟨gb425, 1, none⟩) (by first | (rw [add_block]; exact hn427_1) | (show (Addr.add _ _).block ≠ _; rw [add_block]; exact hn427_1) | exact hn427_1) (.int .i64 t419)).trans hx427_2
                    replace hx427_0 := (cell_far (p := ⟨gb425, 2, none⟩) (by first | (rw [add_block]; exact hn427_2) | (show (Addr.add _ _).block ≠ _; rw [add_block]; exact hn427_2) | exact hn427_2) (.int .i64 t420)).trans hx427_0
                    replace hx427_1 := (cell_far (p := ⟨gb425, 2, none⟩) (by first | (rw [add_block]; exact hn427_2) | (show (Addr.add _ _).block ≠ _; rw [add_block]; exact hn427_2) | exact hn427_2) (.int .i64 t420)).trans hx427_1
                    replace hx427_2 := (cell_far (p := ⟨gb425, 2, none⟩) (by first | (rw [add_block]; exact hn427_2) | (show (Addr.add _ _).block ≠ _; rw [add_block]; exact hn427_2) | exact hn427_2) (.int .i64 t420)).trans hx427_2
                    replace hx427_0 := (cell_far (p := ⟨gb425, 3, none⟩) (by first | (rw [add_block]; exact hn427_3) | (show (Addr.add _ _).block ≠ _; rw [add_block]; exact hn427_3) | exact hn427_3) (.slice Ao24 t421.length co24)).trans hx427_0
                    replace hx427_1 := (cell_far (p := ⟨gb425, 3, none⟩) (by first | (rw [add_block]; exact hn427_3) | (show (Addr.add _ _).block ≠ _; rw [add_block]; exact hn427_3) | exact hn427_3) (.slice Ao24 t421.length co24)).trans hx427_1
                    replace hx427_2 := (cell_far (p := ⟨gb425, 3, none⟩) (by first | (rw [add_block]; exact hn427_3) | (show (Addr.add _ _).block ≠ _; rw [add_block]; exact hn427_3) | exact hn427_3) (.slice Ao24 t421.length co24)).trans hx427_2
                    clear hn427_0
                    clear hn427_1
                    clear hn427_2
                    clear hn427_3
                    replace p427 := eq_true p427
                    replace q427 := eq_true q427
                    go_upto_if 43 with (fail)
                    go_cut [4] (fun v4 wc => ∃ (kq : Nat) (x4_14 : Int), v4 = .int .i64 x4_14 ∧ Aside0 (examboardlaw54_HoldBlocks.j2 kq l0 x4_14 x5_1 x6_1 x417000_1 x417001_1 x417002_1 x417003_1 t418 t419 t420 t421 = some r) ∧ Aside0 (kq ≤ kj7) ∧ Aside0 (Kd.R k30 30 wc w.heap.size (fun k_ => some k_ ≠ ((.slice Ao24 t421.length co24) : Value).ownBlock) (.slice Ao16 x417003_1.length co16) x417003_1) ∧ Aside0 (Kd.R k30 30 wc w.heap.size (fun k_ => some k_ ≠ ((.slice Ao16 x417003_1.length co16) : Value).ownBlock) (.slice Ao24 t421.length co24) t421) ∧ Aside0 (wc.heap[gb416]? = some (.cells #[.int .i64 x417000_1, .int .i64 x417001_1, .int .i64 x417002_1, (.slice Ao16 x417003_1.length co16)] 24 (0, 0))) ∧ Aside0 (wc.heap[gb425]? = some (.cells #[.int .i64 t418, .int .i64 t419, .int .i64 t420, (.slice Ao24 t421.length co24)] 24 (0, 0))) ∧ Aside0 (Below w.heap.size w wc))
                    case first =>
                      have H := HC15.out
                      clear HC15
                      by_cases c26 : ((rd_T76 l0 x6_1).f0) = 0
                      · rw [if_pos c26] at H
                        have c26b0 : (((rd_T76 l0 x6_1).f0) == 0) = true := beq_iff_eq.mpr c26
                        have c26b1 : (((rd_T76 l0 x6_1).f0) != 0) = false := bne_eq_false_iff_eq.mpr c26
                        clear c26
                        (first | rw [c26b0] | (simp only [i64_w, i32_w]; rw [c26b0]) | skip)
                        obtain ⟨ji27, hji27⟩ : ∃ j_ : Int, (IntKind.u64.wrap (Go.bits .and .i64 ((rd_T76 l0 x6_1).f1) 63)) = j_ := ⟨_, rfl⟩
                        replace H : (if 0 ≤ (ji27) then (examboardlaw54_HoldBlocks.j2 kj7 l0 (Go.bits .or .i64 x4_1 (shl .i64 1 (ji27))) x5_1 x6_1 x417000_1 x417001_1 x417002_1 x417003_1 t418 t419 t420 t421) else (none)) = some r := by first | (rw [hji27] at H; exact H) | (simp only [hji27] at H ⊢; exact H)
                        by_cases c28 : 0 ≤ (ji27)
                        · rw [if_pos c28] at H
                          have c28b0 := eq_true c28
                          have c28b1 : decide (0 ≤ (ji27)) = true := decide_eq_true c28
                          clear c28
                          obtain ⟨ji29, hji29⟩ : ∃ j_ : Int, (shl .i64 1 (ji27)) = j_ := ⟨_, rfl⟩
                          replace H : (examboardlaw54_HoldBlocks.j2 kj7 l0 (Go.bits .or .i64 x4_1 (ji29)) x5_1 x6_1 x417000_1 x417001_1 x417002_1 x417003_1 t418 t419 t420 t421) = some r := by first | (rw [hji29] at H; exact H) | (simp only [hji29] at H ⊢; exact H)
                          have hji29_ : (IntKind.i64.wrap (1 * 2 ^ min (ji27).toNat 64)) = ji29 := hji29
                          have hji29z : (ji27) ≤ 64 → (IntKind.i64.wrap (1 * 2 ^ (ji27).toNat)) = ji29 := shl_small hji29
                          have hji29u : (IntKind.i64.wrap (2 ^ min (ji27).toNat 64)) = ji29 := by have h_ := hji29_; rw [Int.one_mul] at h_; exact h_
                          have hji29v : (ji27) ≤ 64 → (IntKind.i64.wrap (2 ^ (ji27).toNat)) = ji29 := fun hle_ => by have h_ := hji29z hle_; rw [Int.one_mul] at h_; exact h_
                          have hji29y : (wrap64 (1 * 2 ^ min (ji27).toNat 64)) = ji29 := (i64_w _).symm.trans hji29_
                          have hji29x : (ji27) ≤ 64 → (wrap64 (1 * 2 ^ (ji27).toNat)) = ji29 := fun h_ => (i64_w _).symm.trans (hji29z h_)
                          have H' := Aside0.mk H
                          clear H
                          have p428 : 0 ≤ (x6_1 : Int) := of_decide_eq_true (by first | (with_reducible assumption) | assumption)
                          have q428 : x6_1 < (l0.length : Int) := of_decide_eq_true (by first | (with_reducible assumption) | assumption)
                          obtain ⟨ad428, e428, hx428_0, hx428_1, hx428_2⟩ := at_T76 HR0.out x6_1 p428 q428
                          obtain rfl : ad417 = ad428 := (by injection e428)
                          have hn428_0 : ad417.block ≠ gb425 := Nat.ne_of_lt (Nat.lt_of_lt_of_le (by have := World.block_lt_of_cell? _ _ hx428_0; first | rwa [add_block] at this | exact this) GW425.out)
                          have hn428_1 : ad417.block ≠ gb425 := Nat.ne_of_lt (Nat.lt_of_lt_of_le (by have := World.block_lt_of_cell? _ _ hx428_0; first | rwa [add_block] at this | exact this) GW425.out)
                          have hn428_2 : ad417.block ≠ gb425 := Nat.ne_of_lt (Nat.lt_of_lt_of_le (by have := World.block_lt_of_cell? _ _ hx428_0; first | rwa [add_block] at this | exact this) GW425.out)
                          have hn428_3 : ad417.block ≠ gb425 := Nat.ne_of_lt (Nat.lt_of_lt_of_le (by have := World.block_lt_of_cell? _ _ hx428_0; first | rwa [add_block] at this | exact this) GW425.out)
                          replace hx428_0 := (HB.out.cell (World.block_lt_of_cell? w _ hx428_0)).trans hx428_0
                          replace hx428_1 := (HB.out.cell (World.block_lt_of_cell? w _ hx428_1)).trans hx428_1
                          replace hx428_2 := (HB.out.cell (World.block_lt_of_cell? w _ hx428_2)).trans hx428_2
                          replace hx428_0 := (cell_far (p := ⟨gb425, 0, none⟩) (by first | (rw [add_block]; exact hn428_0) | (show (Addr.add _ _).block ≠ _; rw [add_block]; exact hn428_0) | exact hn428_0) (.int .i64 t418)).trans hx428_0
                          replace hx428_1 := (cell_far (p := ⟨gb425, 0, none⟩) (by first | (rw [add_block]; exact hn428_0) | (show (Addr.add _ _).block ≠ _; rw [add_block]; exact hn428_0) | exact hn428_0) (.int .i64 t418)).trans hx428_1
                          replace hx428_2 := (cell_far (p := ⟨gb425, 0, none⟩) (by first | (rw [add_block]; exact hn428_0) | (show (Addr.add _ _).block ≠ _; rw [add_block]; exact hn428_0) | exact hn428_0) (.int .i64 t418)).trans hx428_2
                          replace hx428_0 := (cell_far (p := ⟨gb425, 1, none⟩) (by first | (rw [add_block]; exact hn428_1) | (show (Addr.add _ _).block ≠ _; rw [add_block]; exact hn428_1) | exact hn428_1) (.int .i64 t419)).trans hx428_0
                          replace hx428_1 := (cell_far (p := ⟨gb425, 1, none⟩) (by first | (rw [add_block]; exact hn428_1) | (show (Addr.add _ _).block ≠ _; rw [add_block]; exact hn428_1) | exact hn428_1) (.int .i64 t419)).trans hx428_1
                          replace hx428_2 := (cell_far (p := ⟨gb425, 1, none⟩) (by first | (rw [add_block]; exact hn428_1) | (show (Addr.add _ _).block ≠ _; rw [add_block]; exact hn428_1) | exact hn428_1) (.int .i64 t419)).trans hx428_2
                          replace hx428_0 := (cell_far (p := ⟨gb425, 2, none⟩) (by first | (rw [add_block]; exact hn428_2) | (show (Addr.add _ _).block ≠ _; rw [add_block]; exact hn428_2) | exact hn428_2) (.int .i64 t420)).trans hx428_0
                          replace hx428_1 := (cell_far (p := ⟨gb425, 2, none⟩) (by first | (rw [add_block]; exact hn428_2) | (show (Addr.add _ _).block ≠ _; rw [add_block]; exact hn428_2) | exact hn428_2) (.int .i64 t420)).trans hx428_1
                          replace hx428_2 := (cell_far (p := ⟨gb425, 2, none⟩) (by first | (rw [add_block]; exact hn428_2) | (show (Addr.add _ _).block ≠ _; rw [add_block]; exact hn428_2) | exact hn428_2) (.int .i64 t420)).trans hx428_2
                          replace hx428_0 := (cell_far (p := ⟨gb425, 3, none⟩) (by first | (rw [add_block]; exact hn428_3) | (show (Addr.add _ _).block ≠ _; rw [add_block]; exact hn428_3) | exact hn428_3) (.slice Ao24 t421.length co24)).trans hx428_0
                          replace hx428_1 := (cell_far (p := ⟨gb425, 3, none⟩) (by first | (rw [add_block]; exact hn428_3) | (show (Addr.add _ _).block ≠ _; rw [add_block]; exact hn428_3) | exact hn428_3) (.slice Ao24 t421.length co24)).trans hx428_1
                          replace hx428_2 := (cell_far (p := ⟨gb425, 3, none⟩) (by first | (rw [add_block]; exact hn428_3) | (show (Addr.add _ _).block ≠ _; rw [add_block]; exact hn428_3) | exact hn428_3) (.slice Ao24 t421.length co24)).trans hx428_2
                          clear hn428_0
                          clear hn428_1
                          clear hn428_2
                          clear hn428_3
                          replace p428 := eq_true p428
                          replace q428 := eq_true q428
                          go_wp2
                          go_meet
                          case rel => exact ⟨_, (Go.bits .or .i64 x4_1 (ji29)), (by first | rfl | (simp; done) | (simp only [← hji29] <;> (first | rfl | simp)) | (simp [*]; done)), H', ⟨by have := HK1.out; have := HJ7.out; first | omega | exact Nat.le_refl _⟩, ⟨by (with_reducible repeat (first | apply Kd.R_alloc | apply Kd.R_drewN | apply Kd.R_drew)); exact Kd.R_mono (Kd.R_far (p := ⟨gb425, 3, none⟩) (Kd.R_far (p := ⟨gb425, 2, none⟩) (Kd.R_far (p := ⟨gb425, 1, none⟩) (Kd.R_far (p := ⟨gb425, 0, none⟩) (Kd.R_types HO_417003.out BK425.out (by decide)) (fun _ hk => hk.2) (.int .i64 t418)) (fun _ hk => hk.2) (.int .i64 t419)) (fun _ hk => hk.2) (.int .i64 t420)) (fun _ hk => hk.2) (.slice Ao24 t421.length co24)) (fun _ hk => hk.1)⟩, ⟨by (with_reducible repeat (first | apply Kd.R_alloc | apply Kd.R_drewN | apply Kd.R_drew)); exact Kd.R_mono (Kd.R_far (p := ⟨gb425, 3, none⟩) (Kd.R_far (p := ⟨gb425, 2, none⟩) (Kd.R_far (p := ⟨gb425, 1, none⟩) (Kd.R_far (p := ⟨gb425, 0, none⟩) (Kd.R_types HO423.out BK425.out (by decide)) (fun _ hk => hk.2) (.int .i64 t418)) (fun _ hk => hk.2) (.int .i64 t419)) (fun _ hk => hk.2) (.int .i64 t420)) (fun _ hk => hk.2) (.slice Ao24 t421.length co24)) (fun _ hk => hk.1)⟩, ⟨by (with_reducible repeat (first | refine blk_drewN ?_ _ | refine blk_drew ?_ | refine blk_alloc ?_ _)); refine blk_far ?_ NB416_425.out _; (with_reducible repeat (first | refine blk_drewN ?_ _ | refine blk_drew ?_ | refine blk_alloc ?_ _)); refine blk_far ?_ NB416_425.out _; (with_reducible repeat (first | refine blk_drewN ?_ _ | refine blk_drew ?_ | refine blk_alloc ?_ _)); refine blk_far ?_ NB416_425.out _; (with_reducible repeat (first | refine blk_drewN ?_ _ | refine blk_drew ?_ | refine blk_alloc ?_ _)); refine blk_far ?_ NB416_425.out _; (with_reducible repeat (first | refine blk_drewN ?_ _ | refine blk_drew ?_ | refine blk_alloc ?_ _)); exact BK416.out⟩, ⟨by (with_reducible repeat (first | refine blk_drewN ?_ _ | refine blk_drew ?_ | refine blk_alloc ?_ _)); refine blk_put (cs := #[.int .i64 t418, .int .i64 t419, .int .i64 t420, .slice none 0 0]) ?_ 3 _ rfl; (with_reducible repeat (first | refine blk_drewN ?_ _ | refine blk_drew ?_ | refine blk_alloc ?_ _)); refine blk_put (cs := #[.int .i64 t418, .int .i64 t419, .int .i64 0, .slice none 0 0]) ?_ 2 _ rfl; (with_reducible repeat (first | refine blk_drewN ?_ _ | refine blk_drew ?_ | refine blk_alloc ?_ _)); refine blk_put (cs := #[.int .i64 t418, .int .i64 0, .int .i64 0, .slice none 0 0]) ?_ 1 _ rfl; (with_reducible repeat (first | refine blk_drewN ?_ _ | refine blk_drew ?_ | refine blk_alloc ?_ _)); refine blk_put (cs := #[.int .i64 0, .int .i64 0, .int .i64 0, .slice none 0 0]) ?_ 0 _ rfl; (with_reducible repeat (first | refine blk_drewN ?_ _ | refine blk_drew ?_ | refine blk_alloc ?_ _)); exact BK425.out⟩, ⟨by repeat (first | (with_reducible first | exact HB.out | apply below_alloc | apply pw_below_drewN | apply below_drew1 | refine below_set ?_ GE416.out | refine below_set ?_ GE425.out) | exact HB.out)⟩⟩
                        · rw [if_neg c28] at H
                          exact absurd H (by simp)
                      · rw [if_neg c26] at H
                        have c26b0 : (((rd_T76 l0 x6_1).f0) == 0) = false := beq_eq_false_iff_ne.mpr c26
                        have c26b1 : (((rd_T76 l0 x6_1).f0) != 0) = true := bne_iff_ne.mpr c26
                        (first | rw [c26b0] | (simp only [i64_w, i32_w]; rw [c26b0]) | skip)
                        have H' := Aside0.mk H
                        clear H
                        go_wp2
                        go_meet
                        case rel => exact ⟨_, (x4_1), (by first | rfl | (simp; done) | (simp [*]; done)), H', ⟨by have := HK1.out; have := HJ7.out; first | omega | exact Nat.le_refl _⟩, ⟨by (with_reducible repeat (first | apply Kd.R_alloc | apply Kd.R_drewN | apply Kd.R_drew)); exact Kd.R_mono (Kd.R_far (p := ⟨gb425, 3, none⟩) (Kd.R_far (p := ⟨gb425, 2, none⟩) (Kd.R_far (p := ⟨gb425, 1, none⟩) (Kd.R_far (p := ⟨gb425, 0, none⟩) (Kd.R_types HO_417003.out BK425.out (by decide)) (fun _ hk => hk.2) (.int .i64 t418)) (fun _ hk => hk.2) (.int .i64 t419)) (fun _ hk => hk.2) (.int .i64 t420)) (fun _ hk => hk.2) (.slice Ao24 t421.length co24)) (fun _ hk => hk.1)⟩, ⟨by (with_reducible repeat (first | apply Kd.R_alloc | apply Kd.R_drewN | apply Kd.R_drew)); exact Kd.R_mono (Kd.R_far (p := ⟨gb425, 3, none⟩) (Kd.R_far (p := ⟨gb425, 2, none⟩) (Kd.R_far (p := ⟨gb425, 1, none⟩) (Kd.R_far (p := ⟨gb425, 0, none⟩) (Kd.R_types HO423.out BK425.out (by decide)) (fun _ hk => hk.2) (.int .i64 t418)) (fun _ hk => hk.2) (.int .i64 t419)) (fun _ hk => hk.2) (.int .i64 t420)) (fun _ hk => hk.2) (.slice Ao24 t421.length co24)) (fun _ hk => hk.1)⟩, ⟨by (with_reducible repeat (first | refine blk_drewN ?_ _ | refine blk_drew ?_ | refine blk_alloc ?_ _)); refine blk_far ?_ NB416_425.out _; (with_reducible repeat (first | refine blk_drewN ?_ _ | refine blk_drew ?_ | refine blk_alloc ?_ _)); refine blk_far ?_ NB416_425.out _; (with_reducible repeat (first | refine blk_drewN ?_ _ | refine blk_drew ?_ | refine blk_alloc ?_ _)); refine blk_far ?_ NB416_425.out _; (with_reducible repeat (first | refine blk_drewN ?_ _ | refine blk_drew ?_ | refine blk_alloc ?_ _)); refine blk_far ?_ NB416_425.out _; (with_reducible repeat (first | refine blk_drewN ?_ _ | refine blk_drew ?_ | refine blk_alloc ?_ _)); exact BK416.out⟩, ⟨by (with_reducible repeat (first | refine blk_drewN ?_ _ | refine blk_drew ?_ | refine blk_alloc ?_ _)); refine blk_put (cs := #[.int .i64 t418, .int .i64 t419, .int .i64 t420, .slice none 0 0]) ?_ 3 _ rfl; (with_reducible repeat (first | refine blk_drewN ?_ _ | refine blk_drew ?_ | refine blk_alloc ?_ _)); refine blk_put (cs := #[.int .i64 t418, .int .i64 t419, .int .i64 0, .slice none 0 0]) ?_ 2 _ rfl; (with_reducible repeat (first | refine blk_drewN ?_ _ | refine blk_drew ?_ | refine blk_alloc ?_ _)); refine blk_put (cs := #[.int .i64 t418, .int .i64 0, .int .i64 0, .slice none 0 0]) ?_ 1 _ rfl; (with_reducible repeat (first | refine blk_drewN ?_ _ | refine blk_drew ?_ | refine blk_alloc ?_ _)); refine blk_put (cs := #[.int .i64 0, .int .i64 0, .int .i64 0, .slice none 0 0]) ?_ 0 _ rfl; (with_reducible repeat (first | refine blk_drewN ?_ _ | refine blk_drew ?_ | refine blk_alloc ?_ _)); exact BK425.out⟩, ⟨by repeat (first | (with_reducible first | exact HB.out | apply below_alloc | apply pw_below_drewN | apply below_drew1 | refine below_set ?_ GE416.out | refine below_set ?_ GE425.out) | exact HB.out)⟩⟩
                    case rest =>
                      clear HC15
                      try clear c1
                      try clear c2
                      try clear p2
                      try clear c3
                      try clear c3b0
                      try clear c3b1
                      try clear p4
                      try clear q4
                      try clear hx4
                      try clear c5
                      try clear p6
                      try clear c9
                      try clear c9b0
                      try clear c10
                      try clear c11
                      try clear c11b0
                      try clear c12
                      try clear c12b0
                      try clear c14
                      try clear c14b0
                      try clear c14b1
                      try clear c25
                      try clear c26
                      try clear c26b0
                      try clear c26b1
                      try clear c28
                      try clear c28b0
                      try clear c28b1
                      try clear hcz6_0
                      try clear hcz6_1
                      try clear hcz6_2
                      try clear hcz6_3
                      try clear hfz6_0
                      try clear hfz6_1
                      try clear hfz6_2
                      try clear hfz6_3
                      try clear hx417_0
                      try clear hx417_1
                      try clear hx417_2
                      try clear hx427_0
                      try clear hx427_1
                      try clear hx427_2
                      try clear hx428_0
                      try clear hx428_1
                      try clear hx428_2
                      try clear p2
                      try clear p417
                      try clear p427
                      try clear p428
                      try clear q417
                      try clear q427
                      try clear q428
                      obtain ⟨kq, x4_14, rfl, HA, HJ14, HO_417003, HO_426003, BK416, BK425, HB⟩ := hcut
                      cases kq with
                      | zero => exact absurd HA.out (by simp [examboardlaw54_HoldBlocks.j2])
                      | succ kj14 =>
                        have H := HA.out
                        clear HA
                        simp only [examboardlaw54_HoldBlocks.j2] at H
                        by_cases c30 : 0 ≤ x6_1
                        · rw [if_pos c30] at H
                          have c30b0 : decide (0 ≤ x6_1) = true := decide_eq_true c30
                          clear c30
                          by_cases c31 : x6_1 < (l0.length : Int)
                          · rw [if_pos c31] at H
                            have c31b0 : decide (x6_1 < (l0.length : Int)) = true := decide_eq_true c31
                            clear c31
                            have HC32 := Aside0.mk H
                            clear H
                            have p429 : 0 ≤ (x6_1 : Int) := of_decide_eq_true (by first | (with_reducible assumption) | assumption)
                            have q429 : x6_1 < (l0.length : Int) := of_decide_eq_true (by first | (with_reducible assumption) | assumption)
                            obtain ⟨ad429, e429, hx429_0, hx429_1, hx429_2⟩ := at_T76 HR0.out x6_1 p429 q429
                            obtain rfl : ad417 = ad429 := (by injection e429)
                            replace hx429_0 := (HB.out.cell (World.block_lt_of_cell? w _ hx429_0)).trans hx429_0
                            replace hx429_1 := (HB.out.cell (World.block_lt_of_cell? w _ hx429_1)).trans hx429_1
                            replace hx429_2 := (HB.out.cell (World.block_lt_of_cell? w _ hx429_2)).trans hx429_2
                            replace p429 := eq_true p429
                            replace q429 := eq_true q429
                            go_upto_if 59 with (fail)
                            go_cut [4] (fun v4 wc => ∃ (kq : Nat) (x4_31 : Int), v4 = .int .i64 x4_31 ∧ Aside0 (examboardlaw54_HoldBlocks.j3 kq l0 x4_31 x5_1 x6_1 x417000_1 x417001_1 x417002_1 x417003_1 t418 t419 t420 t421 = some r) ∧ Aside0 (kq ≤ kj14) ∧ Aside0 (Kd.R k30 30 wc w.heap.size (fun k_ => some k_ ≠ ((.slice Ao24 t421.length co24) : Value).ownBlock) (.slice Ao16 x417003_1.length co16) x417003_1) ∧ Aside0 (Kd.R k30 30 wc w.heap.size (fun k_ => some k_ ≠ ((.slice Ao16 x417003_1.length co16) : Value).ownBlock) (.slice Ao24 t421.length co24) t421) ∧ Aside0 (wc.heap[gb416]? = some (.cells #[.int .i64 x417000_1, .int .i64 x417001_1, .int .i64 x417002_1, (.slice Ao16 x417003_1.length co16)] 24 (0, 0))) ∧ Aside0 (wc.heap[gb425]? = some (.cells #[.int .i64 t418, .int .i64 t419, .int .i64 t420, (.slice Ao24 t421.length co24)] 24 (0, 0))) ∧ Aside0 (Below w.heap.size w wc))
                            case first =>
                              have H := HC32.out
                              clear HC32
                              by_cases c33 : ((rd_T76 l0 x6_1).f0) = 1
                              · rw [if_pos c33] at H
                                have c33b0 : (((rd_T76 l0 x6_1).f0) == 1) = true := beq_iff_eq.mpr c33
                                have c33b1 : (((rd_T76 l0 x6_1).f0) != 1) = false := bne_eq_false_iff_eq.mpr c33
                                clear c33
                                (first | rw [c33b0] | (simp only [i64_w, i32_w]; rw [c33b0]) | skip)
                                obtain ⟨ji34, hji34⟩ : ∃ j_ : Int, (IntKind.u64.wrap (Go.bits .and .i64 ((rd_T76 l0 x6_1).f1) 63)) = j_ := ⟨_, rfl⟩
                                replace H : (if 0 ≤ (ji34) then (examboardlaw54_HoldBlocks.j3 kj14 l0 (Go.bits .andNot .i64 x4_14 (shl .i64 1 (ji34))) x5_1 x6_1 x417000_1 x417001_1 x417002_1 x417003_1 t418 t419 t420 t421) else (none)) = some r := by first | (rw [hji34] at H; exact H) | (simp only [hji34] at H ⊢; exact H)
                                by_cases c35 : 0 ≤ (ji34)
                                · rw [if_pos c35] at H
                                  have c35b0 := eq_true c35
                                  have c35b1 : decide (0 ≤ (ji34)) = true := decide_eq_true c35
                                  clear c35
                                  obtain ⟨ji36, hji36⟩ : ∃ j_ : Int, (shl .i64 1 (ji34)) = j_ := ⟨_, rfl⟩
                                  replace H : (examboardlaw54_HoldBlocks.j3 kj14 l0 (Go.bits .andNot .i64 x4_14 (ji36)) x5_1 x6_1 x417000_1 x417001_1 x417002_1 x417003_1 t418 t419 t420 t421) = some r := by first | (rw [hji36] at H; exact H) | (simp only [hji36] at H ⊢; exact H)
                                  have hji36_ : (IntKind.i64.wrap (1 * 2 ^ min (ji34).toNat 64)) = ji36 := hji36
                                  have hji36z : (ji34) ≤ 64 → (IntKind.i64.wrap (1 * 2 ^ (ji34).toNat)) = ji36 := shl_small hji36
                                  have hji36u : (IntKind.i64.wrap (2 ^ min (ji34).toNat 64)) = ji36 := by have h_ := hji36_; rw [Int.one_mul] at h_; exact h_
                                  have hji36v : (ji34) ≤ 64 → (IntKind.i64.wrap (2 ^ (ji34).toNat)) = ji36 := fun hle_ => by have h_ := hji36z hle_; rw [Int.one_mul] at h_; exact h_
                                  have hji36y : (wrap64 (1 * 2 ^ min (ji34).toNat 64)) = ji36 := (i64_w _).symm.trans hji36_
                                  have hji36x : (ji34) ≤ 64 → (wrap64 (1 * 2 ^ (ji34).toNat)) = ji36 := fun h_ => (i64_w _).symm.trans (hji36z h_)
                                  have H' := Aside0.mk H
                                  clear H
                                  have p430 : 0 ≤ (x6_1 : Int) := of_decide_eq_true (by first | (with_reducible assumption) | assumption)
                                  have q430 : x6_1 < (l0.length : Int) := of_decide_eq_true (by first | (with_reducible assumption) | assumption)
                                  obtain ⟨ad430, e430, hx430_0, hx430_1, hx430_2⟩ := at_T76 HR0.out x6_1 p430 q430
                                  obtain rfl : ad417 = ad430 := (by injection e430)
                                  replace hx430_0 := (HB.out.cell (World.block_lt_of_cell? w _ hx430_0)).trans hx430_0
                                  replace hx430_1 := (HB.out.cell (World.block_lt_of_cell? w _ hx430_1)).trans hx430_1
                                  replace hx430_2 := (HB.out.cell (World.block_lt_of_cell? w _ hx430_2)).trans hx430_2
                                  replace p430 := eq_true p430
                                  replace q430 := eq_true q430
                                  go_wp2
                                  go_meet
                                  case rel => exact ⟨_, (Go.bits .andNot .i64 x4_14 (ji36)), (by first | rfl | (simp; done) | (simp only [← hji36] <;> (first | rfl | simp)) | (simp [*]; done)), H', ⟨by have := HK1.out; have := HJ7.out; have := HJ14.out; first | omega | exact Nat.le_refl _⟩, ⟨by (with_reducible repeat (first | apply Kd.R_alloc | apply Kd.R_drewN | apply Kd.R_drew)); exact HO_417003.out⟩, ⟨by (with_reducible repeat (first | apply Kd.R_alloc | apply Kd.R_drewN | apply Kd.R_drew)); exact HO_426003.out⟩, ⟨by (with_reducible repeat (first | refine blk_drewN ?_ _ | refine blk_drew ?_ | refine blk_alloc ?_ _)); exact BK416.out⟩, ⟨by (with_reducible repeat (first | refine blk_drewN ?_ _ | refine blk_drew ?_ | refine blk_alloc ?_ _)); exact BK425.out⟩, ⟨by repeat (first | (with_reducible first | exact HB.out | apply below_alloc | apply pw_below_drewN | apply below_drew1 | refine below_set ?_ GE416.out | refine below_set ?_ GE425.out) | exact HB.out)⟩⟩
                                · rw [if_neg c35] at H
                                  exact absurd H (by simp)
                              · rw [if_neg c33] at H
                                have c33b0 : (((rd_T76 l0 x6_1).f0) == 1) = false := beq_eq_false_iff_ne.mpr c33
                                have c33b1 : (((rd_T76 l0 x6_1).f0) != 1) = true := bne_iff_ne.mpr c33
                                (first | rw [c33b0] | (simp only [i64_w, i32_w]; rw [c33b0]) | skip)
                                have H' := Aside0.mk H
                                clear H
                                go_wp2
                                go_meet
                                case rel => exact ⟨_, (x4_14), (by first | rfl | (simp; done) | (simp [*]; done)), H', ⟨by have := HK1.out; have := HJ7.out; have := HJ14.out; first | omega | exact Nat.le_refl _⟩, ⟨by (with_reducible repeat (first | apply Kd.R_alloc | apply Kd.R_drewN | apply Kd.R_drew)); exact HO_417003.out⟩, ⟨by (with_reducible repeat (first | apply Kd.R_alloc | apply Kd.R_drewN | apply Kd.R_drew)); exact HO_426003.out⟩, ⟨by (with_reducible repeat (first | refine blk_drewN ?_ _ | refine blk_drew ?_ | refine blk_alloc ?_ _)); exact BK416.out⟩, ⟨by (with_reducible repeat (first | refine blk_drewN ?_ _ | refine blk_drew ?_ | refine blk_alloc ?_ _)); exact BK425.out⟩, ⟨by repeat (first | (with_reducible first | exact HB.out | apply below_alloc | apply pw_below_drewN | apply below_drew1 | refine below_set ?_ GE416.out | refine below_set ?_ GE425.out) | exact HB.out)⟩⟩
                            case rest =>
                              clear HC32
                              try clear c1
                              try clear c2
                              try clear p2
                              try clear c3
                              try clear c3b0
                              try clear c3b1
                              try clear p4
                              try clear q4
                              try clear hx4
                              try clear c5
                              try clear p6
                              try clear c9
                              try clear c9b0
                              try clear c10
                              try clear c11
                              try clear c11b0
                              try clear c12
                              try clear c12b0
                              try clear c14
                              try clear c14b0
                              try clear c14b1
                              try clear c25
                              try clear c26
                              try clear c26b0
                              try clear c26b1
                              try clear c28
                              try clear c28b0
                              try clear c28b1
                              try clear c30
                              try clear c30b0
                              try clear c31
                              try clear c31b0
                              try clear c33
                              try clear c33b0
                              try clear c33b1
                              try clear c35
                              try clear c35b0
                              try clear c35b1
                              try clear hcz6_0
                              try clear hcz6_1
                              try clear hcz6_2
                              try clear hcz6_3
                              try clear hfz6_0
                              try clear hfz6_1
                              try clear hfz6_2
                              try clear hfz6_3
                              try clear hx417_0
                              try clear hx417_1
                              try clear hx417_2
                              try clear hx427_0
                              try clear hx427_1
                              try clear hx427_2
                              try clear hx428_0
                              try clear hx428_1
                              try clear hx428_2
                              try clear hx429_0
                              try clear hx429_1
                              try clear hx429_2
                              try clear hx430_0
                              try clear hx430_1
                              try clear hx430_2
                              try clear p2
                              try clear p4
                              try clear p417
                              try clear p427
                              try clear p428
                              try clear p429
                              try clear p430
                              try clear p6
                              try clear q4
                              try clear q417
                              try clear q427
                              try clear q428
                              try clear q429
                              try clear q430
                              obtain ⟨kq, x4_31, rfl, HA, HJ31, HO_417003, HO_426003, BK416, BK425, HB⟩ := hcut
                              cases kq with
                              | zero => exact absurd HA.out (by simp [examboardlaw54_HoldBlocks.j3])
                              | succ kj31 =>
                                have H := HA.out
                                clear HA
                                simp only [examboardlaw54_HoldBlocks.j3] at H
                                by_cases c37 : 0 ≤ x6_1
                                · rw [if_pos c37] at H
                                  have c37b0 : decide (0 ≤ x6_1) = true := decide_eq_true c37
                                  clear c37
                                  by_cases c38 : x6_1 < (l0.length : Int)
                                  · rw [if_pos c38] at H
                                    have c38b0 : decide (x6_1 < (l0.length : Int)) = true := decide_eq_true c38
                                    clear c38
                                    by_cases c39 : ((rd_T76 l0 x6_1).f0) = 2
                                    · rw [if_pos c39] at H
                                      have c39b0 : (((rd_T76 l0 x6_1).f0) == 2) = true := beq_iff_eq.mpr c39
                                      have c39b1 : (((rd_T76 l0 x6_1).f0) != 2) = false := bne_eq_false_iff_eq.mpr c39
                                      clear c39
                                      have HC40 := Aside0.mk H
                                      clear H
                                      have p431 : 0 ≤ (x6_1 : Int) := of_decide_eq_true (by first | (with_reducible assumption) | assumption)
                                      have q431 : x6_1 < (l0.length : Int) := of_decide_eq_true (by first | (with_reducible assumption) | assumption)
                                      obtain ⟨ad431, e431, hx431_0, hx431_1, hx431_2⟩ := at_T76 HR0.out x6_1 p431 q431
                                      obtain rfl : ad417 = ad431 := (by injection e431)
                                      replace hx431_0 := (HB.out.cell (World.block_lt_of_cell? w _ hx431_0)).trans hx431_0
                                      replace hx431_1 := (HB.out.cell (World.block_lt_of_cell? w _ hx431_1)).trans hx431_1
                                      replace hx431_2 := (HB.out.cell (World.block_lt_of_cell? w _ hx431_2)).trans hx431_2
                                      replace p431 := eq_true p431
                                      replace q431 := eq_true q431
                                      go_upto_region 17 with (fail)
                                      go_cut [82] (fun v82 wc => ∃ (kq : Nat) (x82_39 : Bool), v82 = .bool x82_39 ∧ Aside0 (examboardlaw54_HoldBlocks.j4 kq l0 x4_31 x5_1 x6_1 x82_39 t418 t419 t420 t421 = some r) ∧ Aside0 (kq ≤ kj31) ∧ Aside0 (Kd.R k30 30 wc w.heap.size (fun k_ => some k_ ≠ ((.slice Ao24 t421.length co24) : Value).ownBlock) (.slice Ao16 x417003_1.length co16) x417003_1) ∧ Aside0 (Kd.R k30 30 wc w.heap.size (fun k_ => some k_ ≠ ((.slice Ao16 x417003_1.length co16) : Value).ownBlock) (.slice Ao24 t421.length co24) t421) ∧ Aside0 (wc.heap[gb416]? = some (.cells #[.int .i64 x417000_1, .int .i64 x417001_1, .int .i64 x417002_1, (.slice Ao16 x417003_1.length co16)] 24 (0, 0))) ∧ Aside0 (wc.heap[gb425]? = some (.cells #[.int .i64 t418, .int .i64 t419, .int .i64 t420, (.slice Ao24 t421.length co24)] 24 (0, 0))) ∧ Aside0 (Below w.heap.size w wc))
                                      case first =>
                                        have H := HC40.out
                                        clear HC40
                                        by_cases c41 : x4_31 = 0
                                        · rw [if_pos c41] at H
                                          have c41b0 : (x4_31 == 0) = true := beq_iff_eq.mpr c41
                                          have c41b1 : (x4_31 != 0) = false := bne_eq_false_iff_eq.mpr c41
                                          clear c41
                                          (first | rw [c41b0] | (simp only [i64_w, i32_w]; rw [c41b0]) | skip)
                                          have H' := Aside0.mk H
                                          clear H
                                          have hnb42 := NB416_425.out
                                          have hnc42 := NB425_416.out
                                          have hcz43_0 : wc.cell? ⟨gb416, 0, none⟩ = some (.int .i64 x417000_1) := (blk_cell BK416.out 0).trans rfl
                                          have hcz43_1 : wc.cell? ⟨gb416, 1, none⟩ = some (.int .i64 x417001_1) := (blk_cell BK416.out 1).trans rfl
                                          have hcz43_2 : wc.cell? ⟨gb416, 2, none⟩ = some (.int .i64 x417002_1) := (blk_cell BK416.out 2).trans rfl
                                          have hcz43_3 : wc.cell? ⟨gb416, 3, none⟩ = some (.slice Ao16 x417003_1.length co16) := (blk_cell BK416.out 3).trans rfl
                                          have hfz43_0 := blk_frozen BK416.out 0
                                          have hfz43_1 := blk_frozen BK416.out 1
                                          have hfz43_2 := blk_frozen BK416.out 2
                                          have hfz43_3 := blk_frozen BK416.out 3
                                          go_wp2
                                          go_meet
                                          case rel => exact ⟨_, ((x417000_1 == 4)), (by first | rfl | (simp; done) | (simp [*]; done)), H', ⟨by have := HK1.out; have := HJ7.out; have := HJ14.out; have := HJ31.out; first | omega | exact Nat.le_refl _⟩, ⟨by (with_reducible repeat (first | apply Kd.R_alloc | apply Kd.R_drewN | apply Kd.R_drew)); exact HO_417003.out⟩, ⟨by (with_reducible repeat (first | apply Kd.R_alloc | apply Kd.R_drewN | apply Kd.R_drew)); exact HO_426003.out⟩, ⟨by (with_reducible repeat (first | refine blk_drewN ?_ _ | refine blk_drew ?_ | refine blk_alloc ?_ _)); exact BK416.out⟩, ⟨by (with_reducible repeat (first | refine blk_drewN ?_ _ | refine blk_drew ?_ | refine blk_alloc ?_ _)); exact BK425.out⟩, ⟨by repeat (first | (with_reducible first | exact HB.out | apply below_alloc | apply pw_below_drewN | apply below_drew1 | refine below_set ?_ GE416.out | refine below_set ?_ GE425.out) | exact HB.out)⟩⟩
                                        · rw [if_neg c41] at H
                                          have c41b0 : (x4_31 == 0) = false := beq_eq_false_iff_ne.mpr c41
                                          have c41b1 : (x4_31 != 0) = true := bne_iff_ne.mpr c41
                                          (first | rw [c41b0] | (simp only [i64_w, i32_w]; rw [c41b0]) | skip)
                                          have H' := Aside0.mk H
                                          clear H
                                          go_wp2
                                          go_meet
                                          case rel => exact ⟨_, (true), (by first | rfl | (simp; done) | (simp [*]; done)), H', ⟨by have := HK1.out; have := HJ7.out; have := HJ14.out; have := HJ31.out; first | omega | exact Nat.le_refl _⟩, ⟨by (with_reducible repeat (first | apply Kd.R_alloc | apply Kd.R_drewN | apply Kd.R_drew)); exact HO_417003.out⟩, ⟨by (with_reducible repeat (first | apply Kd.R_alloc | apply Kd.R_drewN | apply Kd.R_drew)); exact HO_426003.out⟩, ⟨by (with_reducible repeat (first | refine blk_drewN ?_ _ | refine blk_drew ?_ | refine blk_alloc ?_ _)); exact BK416.out⟩, ⟨by (with_reducible repeat (first | refine blk_drewN ?_ _ | refine blk_drew ?_ | refine blk_alloc ?_ _)); exact BK425.out⟩, ⟨by repeat (first | (with_reducible first | exact HB.out | apply below_alloc | apply pw_below_drewN | apply below_drew1 | refine below_set ?_ GE416.out | refine below_set ?_ GE425.out) | exact HB.out)⟩⟩
                                      case rest =>
                                        clear HC40
                                        try clear c1
                                        try clear c2
                                        try clear p2
                                        try clear c3
                                        try clear c3b0
                                        try clear c3b1
                                        try clear c4
                                        try clear p4
                                        try clear q4
                                        try clear hx4
                                        try clear c5
                                        try clear p6
                                        try clear c9
                                        try clear c9b0
                                        try clear c10
                                        try clear c11
                                        try clear c11b0
                                        try clear c12
                                        try clear c12b0
                                        try clear c14
                                        try clear c14b0
                                        try clear c14b1
                                        try clear c25
                                        try clear c26
                                        try clear c26b0
                                        try clear c26b1
                                        try clear c28
                                        try clear c28b0
                                        try clear c28b1
                                        try clear c30
                                        try clear c30b0
                                        try clear c31
                                        try clear c31b0
                                        try clear c33
                                        try clear c33b0
                                        try clear c33b1
                                        try clear c35
                                        try clear c35b0
                                        try clear c35b1
                                        try clear c37
                                        try clear c37b0
                                        try clear c38
                                        try clear c38b0
                                        try clear c39
                                        try clear c39b0
                                        try clear c39b1
                                        try clear c41
                                        try clear c41b0
                                        try clear c41b1
                                        try clear p41
                                        try clear q41
                                        try clear hx41
                                        try clear c42
                                        try clear p42
                                        try clear q42
                                        try clear hx42
                                        try clear p43
                                        try clear q43
                                        try clear hx43
                                        try clear hcz43_0
                                        try clear hcz43_1
                                        try clear hcz43_2
                                        try clear hcz43_3
                                        try clear hcz6_0
                                        try clear hcz6_1
                                        try clear hcz6_2
                                        try clear hcz6_3
                                        try clear hfz43_0
                                        try clear hfz43_1
                                        try clear hfz43_2
                                        try clear hfz43_3
                                        try clear hfz6_0
                                        try clear hfz6_1
                                        try clear hfz6_2
                                        try clear hfz6_3
                                        try clear hx417_0
                                        try clear hx417_1
                                        try clear hx417_2
                                        try clear hx427_0
                                        try clear hx427_1
                                        try clear hx427_2
                                        try clear hx428_0
                                        try clear hx428_1
                                        try clear hx428_2
                                        try clear hx429_0
                                        try clear hx429_1
                                        try clear hx429_2
                                        try clear hx430_0
                                        try clear hx430_1
                                        try clear hx430_2
                                        try clear hx431_0
                                        try clear hx431_1
                                        try clear hx431_2
                                        try clear p2
                                        try clear p4
                                        try clear p417
                                        try clear p427
                                        try clear p428
                                        try clear p429
                                        try clear p430
                                        try clear p431
                                        try clear p6
                                        try clear q4
                                        try clear q417
                                        try clear q427
                                        try clear q428
                                        try clear q429
                                        try clear q430
                                        try clear q431
                                        obtain ⟨kq, x82_39, rfl, HA, HJ39, HO_417003, HO_426003, BK416, BK425, HB⟩ := hcut
                                        cases kq with
                                        | zero => exact absurd HA.out (by simp [examboardlaw54_HoldBlocks.j4])
                                        | succ kj39 =>
                                          have H := HA.out
                                          clear HA
                                          simp only [examboardlaw54_HoldBlocks.j4] at H
                                          by_cases c44 : x82_39 = true
                                          · subst c44
                                            have H1 : (none) = some r := by rw [if_pos rfl] at H; exact H
                                            clear H
                                            have H := H1
                                            clear H1
                                            exact absurd H (by simp)
                                          · replace c44 := Bool.eq_false_iff.mpr c44
                                            subst c44
                                            have H1 : (if t419 = (wrap64 (x5_1 + 1)) then ((hold_Open.f kj39 t418 t419 t420 t421).bind fun t432 => (if (((t432.length : Int) == 0) != (x4_31 == 0)) = true then (none) else (examboardlaw54_HoldBlocks.l0 kj39 l0 x4_31 (wrap64 (x5_1 + 1)) (wrap64 (x6_1 + 1)) t418 t419 t420 t421))) else (none)) = some r := by rw [if_neg (show ¬ (false = true) by decide)] at H; exact H
                                            clear H
                                            have H := H1
                                            clear H1
                                            by_cases c45 : t419 = (wrap64 (x5_1 + 1))
                                            · rw [if_pos c45] at H
                                              have c45b0 : (t419 == (wrap64 (x5_1 + 1))) = true := beq_iff_eq.mpr c45
                                              have c45b1 : (t419 != (wrap64 (x5_1 + 1))) = false := bne_eq_false_iff_eq.mpr c45
                                              clear c45
                                              replace H := Option.bind_eq_some_iff.mp H
                                              obtain ⟨t432, A460, H⟩ := H
                                              replace H : (if (((t432.length : Int) == 0) != (x4_31 == 0)) = true then (none) else (examboardlaw54_HoldBlocks.l0 kj39 l0 x4_31 (wrap64 (x5_1 + 1)) (wrap64 (x6_1 + 1)) t418 t419 t420 t421)) = some r := H
                                              have A46 := Aside0.mk A460
                                              clear A460
                                              by_cases c47 : (((t432.length : Int) == 0) != (x4_31 == 0)) = true
                                              · rw [if_pos c47] at H
                                                exact absurd H (by simp)
                                              · rw [if_neg c47] at H
                                                have c47b0 : (((t432.length : Int) == 0) != (x4_31 == 0)) = false := by simpa using c47
                                                (try (have c47b1 : decide (((t432.length : Int) == 0) = (x4_31 == 0)) = true := by simpa using c47))
                                                (try (have c47b2 : (((t432.length : Int) == 0) == (x4_31 == 0)) = true := by simpa using c47))
                                                clear c47
                                                have H' := Aside0.mk H
                                                clear H
                                                have hnb48 := NB425_416.out
                                                have hnc48 := NB416_425.out
                                                have hcz49_0 : wc.cell? ⟨gb425, 0, none⟩ = some (.int .i64 t418) := (blk_cell BK425.out 0).trans rfl
                                                have hcz49_1 : wc.cell? ⟨gb425, 1, none⟩ = some (.int .i64 t419) := (blk_cell BK425.out 1).trans rfl
                                                have hcz49_2 : wc.cell? ⟨gb425, 2, none⟩ = some (.int .i64 t420) := (blk_cell BK425.out 2).trans rfl
                                                have hcz49_3 : wc.cell? ⟨gb425, 3, none⟩ = some (.slice Ao24 t421.length co24) := (blk_cell BK425.out 3).trans rfl
                                                have hfz49_0 := blk_frozen BK425.out 0
                                                have hfz49_1 := blk_frozen BK425.out 1
                                                have hfz49_2 := blk_frozen BK425.out 2
                                                have hfz49_3 := blk_frozen BK425.out 3
                                                go_wp2_with (first | (go_at_call 23; (with_reducible refine (hold_Open.calls kj39 t418 t419 t420 _ _ t421 t432 _ ?side1 ?side2 A46.out).mono ?_); (case side1 => repeat (first | exact (Kd.R_reads' HO_426003.out).2.2 | (with_reducible refine Kd.C_alloc ?_ _) | (with_reducible refine Kd.C_drewN ?_ _) | (with_reducible refine Kd.C_drew ?_))); (case side2 => exact (Kd.R_reads' HO_426003.out).2.1); rintro e w50 ⟨v433, rfl, ho0, hb⟩; have n0_ := Aside0.mk (Kd.R_below (by (with_reducible repeat (first | apply Kd.R_alloc | apply Kd.R_drewN | apply Kd.R_drew)); exact HO_417003.out) hb); have n1_ := Aside0.mk (Kd.R_below (by (with_reducible repeat (first | apply Kd.R_alloc | apply Kd.R_drewN | apply Kd.R_drew)); exact HO_426003.out) hb); have n2_ := Aside0.mk (Kd.R_lower ho0 (below_size (by repeat (first | (with_reducible first | exact HB.out | apply below_alloc | apply pw_below_drewN | apply below_drew1 | refine below_set ?_ GE416.out | refine below_set ?_ GE425.out) | exact HB.out)))); have n3_ := Aside0.mk (blk_below (g := gb416) (o := .cells #[.int .i64 x417000_1, .int .i64 x417001_1, .int .i64 x417002_1, .slice Ao16 x417003_1.length co16] 24 (0, 0)) (by (with_reducible repeat (first | refine blk_drewN ?_ _ | refine blk_drew ?_ | refine blk_alloc ?_ _)); exact BK416.out) hb); have n4_ := Aside0.mk (blk_below (g := gb425) (o := .cells #[.int .i64 t418, .int .i64 t419, .int .i64 t420, .slice Ao24 t421.length co24] 24 (0, 0)) (by (with_reducible repeat (first | refine blk_drewN ?_ _ | refine blk_drew ?_ | refine blk_alloc ?_ _)); exact BK425.out) hb); have n5_ := Aside0.mk (below_step (by repeat (first | (with_reducible first | exact HB.out | apply below_alloc | apply pw_below_drewN | apply below_drew1 | refine below_set ?_ GE416.out | refine below_set ?_ GE425.out) | exact HB.out)) hb); clear HO_417003; clear HO_426003; clear BK416; clear BK425; clear HB; have HO_417003 := n0_; have HO_426003 := n1_; have HO434 := n2_; have BK416 := n3_; have BK425 := n4_; have HB := n5_; clear n0_ n1_ n2_ n3_ n4_ n5_; (try clear hb); (try clear hb2); (try clear hk); (try clear hi); (try clear ho0); obtain ⟨Ao51, co51, eo51⟩ := Kd.R_slice HO434.out; subst eo51; have hcz52_0 : w50.cell? ⟨gb425, 0, none⟩ = some (.int .i64 t418) := (blk_cell BK425.out 0).trans rfl; have hcz52_1 : w50.cell? ⟨gb425, 1, none⟩ = some (.int .i64 t419) := (blk_cell BK425.out 1).trans rfl; have hcz52_2 : w50.cell? ⟨gb425, 2, none⟩ = some (.int .i64 t420) := (blk_cell BK425.out 2).trans rfl; have hcz52_3 : w50.cell? ⟨gb425, 3, none⟩ = some (.slice Ao24 t421.length co24) := (blk_cell BK425.out 3).trans rfl; have hfz52_0 := blk_frozen BK425.out 0; have hfz52_1 := blk_frozen BK425.out 1; have hfz52_2 := blk_frozen BK425.out 2; have hfz52_3 := blk_frozen BK425.out 3; have hcz53_0 : w50.cell? ⟨gb416, 0, none⟩ = some (.int .i64 x417000_1) := (blk_cell BK416.out 0).trans rfl; have hcz53_1 : w50.cell? ⟨gb416, 1, none⟩ = some (.int .i64 x417001_1) := (blk_cell BK416.out 1).trans rfl; have hcz53_2 : w50.cell? ⟨gb416, 2, none⟩ = some (.int .i64 x417002_1) := (blk_cell BK416.out 2).trans rfl; have hcz53_3 : w50.cell? ⟨gb416, 3, none⟩ = some (.slice Ao16 x417003_1.length co16) := (blk_cell BK416.out 3).trans rfl; have hfz53_0 := blk_frozen BK416.out 0; have hfz53_1 := blk_frozen BK416.out 1; have hfz53_2 := blk_frozen BK416.out 2; have hfz53_3 := blk_frozen BK416.out 3))
                                                go_roundg kj39
                                                case measure => have := HK1.out; have := HJ7.out; have := HJ14.out; have := HJ31.out; have := HJ39.out; omega
                                                case rel => exact ⟨(x4_31), (wrap64 (x5_1 + 1)), (wrap64 (x6_1 + 1)), (t418), (t419), (t420), (t421), (.slice Ao24 t421.length co24), (by first | rfl | (simp; done) | (simp [*]; done)), (by first | rfl | (simp; done) | (simp [*]; done)), (by first | rfl | (simp; done) | (simp [*]; done)), H', ⟨by have := HK1.out; have := HJ7.out; have := HJ14.out; have := HJ31.out; have := HJ39.out; omega⟩, ⟨by (with_reducible repeat (first | apply Kd.R_alloc | apply Kd.R_drewN | apply Kd.R_drew)); exact Kd.R_mono (Kd.R_far (p := ⟨gb416, 3, none⟩) (Kd.R_far (p := ⟨gb416, 2, none⟩) (Kd.R_far (p := ⟨gb416, 1, none⟩) (Kd.R_far (p := ⟨gb416, 0, none⟩) (Kd.R_types HO_426003.out BK416.out (by decide)) (fun _ hk => hk.2) (.int .i64 t418)) (fun _ hk => hk.2) (.int .i64 t419)) (fun _ hk => hk.2) (.int .i64 t420)) (fun _ hk => hk.2) (.slice Ao24 t421.length co24)) (fun _ hk => trivial)⟩, ⟨by (with_reducible repeat (first | refine blk_drewN ?_ _ | refine blk_drew ?_ | refine blk_alloc ?_ _)); refine blk_put (cs := #[.int .i64 t418, .int .i64 t419, .int .i64 t420, .slice Ao16 x417003_1.length co16]) ?_ 3 _ rfl; (with_reducible repeat (first | refine blk_drewN ?_ _ | refine blk_drew ?_ | refine blk_alloc ?_ _)); refine blk_put (cs := #[.int .i64 t418, .int .i64 t419, .int .i64 x417002_1, .slice Ao16 x417003_1.length co16]) ?_ 2 _ rfl; (with_reducible repeat (first | refine blk_drewN ?_ _ | refine blk_drew ?_ | refine blk_alloc ?_ _)); refine blk_put (cs := #[.int .i64 t418, .int .i64 x417001_1, .int .i64 x417002_1, .slice Ao16 x417003_1.length co16]) ?_ 1 _ rfl; (with_reducible repeat (first | refine blk_drewN ?_ _ | refine blk_drew ?_ | refine blk_alloc ?_ _)); refine blk_put (cs := #[.int .i64 x417000_1, .int .i64 x417001_1, .int .i64 x417002_1, .slice Ao16 x417003_1.length co16]) ?_ 0 _ rfl; (with_reducible repeat (first | refine blk_drewN ?_ _ | refine blk_drew ?_ | refine blk_alloc ?_ _)); exact BK416.out⟩, ⟨by repeat (first | (with_reducible first | exact HB.out | apply below_alloc | apply pw_below_drewN | apply below_drew1 | refine below_set ?_ GE416.out | refine below_set ?_ GE425.out) | exact HB.out)⟩⟩
                                            · rw [if_neg c45] at H
                                              exact absurd H (by simp)
                                    · rw [if_neg c39] at H
                                      have c39b0 : (((rd_T76 l0 x6_1).f0) == 2) = false := beq_eq_false_iff_ne.mpr c39
                                      have c39b1 : (((rd_T76 l0 x6_1).f0) != 2) = true := bne_iff_ne.mpr c39
                                      by_cases c54 : t419 = x5_1
                                      · rw [if_pos c54] at H
                                        have c54b0 : (t419 == x5_1) = true := beq_iff_eq.mpr c54
                                        have c54b1 : (t419 != x5_1) = false := bne_eq_false_iff_eq.mpr c54
                                        clear c54
                                        replace H := Option.bind_eq_some_iff.mp H
                                        obtain ⟨t435, A550, H⟩ := H
                                        replace H : (if (((t435.length : Int) == 0) != (x4_31 == 0)) = true then (none) else (examboardlaw54_HoldBlocks.l0 kj31 l0 x4_31 x5_1 (wrap64 (x6_1 + 1)) t418 t419 t420 t421)) = some r := H
                                        have A55 := Aside0.mk A550
                                        clear A550
                                        by_cases c56 : (((t435.length : Int) == 0) != (x4_31 == 0)) = true
                                        · rw [if_pos c56] at H
                                          exact absurd H (by simp)
                                        · rw [if_neg c56] at H
                                          have c56b0 : (((t435.length : Int) == 0) != (x4_31 == 0)) = false := by simpa using c56
                                          (try (have c56b1 : decide (((t435.length : Int) == 0) = (x4_31 == 0)) = true := by simpa using c56))
                                          (try (have c56b2 : (((t435.length : Int) == 0) == (x4_31 == 0)) = true := by simpa using c56))
                                          clear c56
                                          have H' := Aside0.mk H
                                          clear H
                                          have p431 : 0 ≤ (x6_1 : Int) := of_decide_eq_true (by first | (with_reducible assumption) | assumption)
                                          have q431 : x6_1 < (l0.length : Int) := of_decide_eq_true (by first | (with_reducible assumption) | assumption)
                                          obtain ⟨ad431, e431, hx431_0, hx431_1, hx431_2⟩ := at_T76 HR0.out x6_1 p431 q431
                                          obtain rfl : ad417 = ad431 := (by injection e431)
                                          replace hx431_0 := (HB.out.cell (World.block_lt_of_cell? w _ hx431_0)).trans hx431_0
                                          replace hx431_1 := (HB.out.cell (World.block_lt_of_cell? w _ hx431_1)).trans hx431_1
                                          replace hx431_2 := (HB.out.cell (World.block_lt_of_cell? w _ hx431_2)).trans hx431_2
                                          replace p431 := eq_true p431
                                          replace q431 := eq_true q431
                                          have hnb57 := NB425_416.out
                                          have hnc57 := NB416_425.out
                                          have hcz58_0 : wc.cell? ⟨gb425, 0, none⟩ = some (.int .i64 t418) := (blk_cell BK425.out 0).trans rfl
                                          have hcz58_1 : wc.cell? ⟨gb425, 1, none⟩ = some (.int .i64 t419) := (blk_cell BK425.out 1).trans rfl
                                          have hcz58_2 : wc.cell? ⟨gb425, 2, none⟩ = some (.int .i64 t420) := (blk_cell BK425.out 2).trans rfl
                                          have hcz58_3 : wc.cell? ⟨gb425, 3, none⟩ = some (.slice Ao24 t421.length co24) := (blk_cell BK425.out 3).trans rfl
                                          have hfz58_0 := blk_frozen BK425.out 0
                                          have hfz58_1 := blk_frozen BK425.out 1
                                          have hfz58_2 := blk_frozen BK425.out 2
                                          have hfz58_3 := blk_frozen BK425.out 3
                                          go_wp2_with (first | (go_at_call 23; (with_reducible refine (hold_Open.calls kj31 t418 t419 t420 _ _ t421 t435 _ ?side1 ?side2 A55.out).mono ?_); (case side1 => repeat (first | exact (Kd.R_reads' HO_426003.out).2.2 | (with_reducible refine Kd.C_alloc ?_ _) | (with_reducible refine Kd.C_drewN ?_ _) | (with_reducible refine Kd.C_drew ?_))); (case side2 => exact (Kd.R_reads' HO_426003.out).2.1); rintro e w59 ⟨v436, rfl, ho0, hb⟩; have n0_ := Aside0.mk (Kd.R_below (by (with_reducible repeat (first | apply Kd.R_alloc | apply Kd.R_drewN | apply Kd.R_drew)); exact HO_417003.out) hb); have n1_ := Aside0.mk (Kd.R_below (by (with_reducible repeat (first | apply Kd.R_alloc | apply Kd.R_drewN | apply Kd.R_drew)); exact HO_426003.out) hb); have n2_ := Aside0.mk (Kd.R_lower ho0 (below_size (by repeat (first | (with_reducible first | exact HB.out | apply below_alloc | apply pw_below_drewN | apply below_drew1 | refine below_set ?_ GE416.out | refine below_set ?_ GE425.out) | exact HB.out)))); have n3_ := Aside0.mk (blk_below (g := gb416) (o := .cells #[.int .i64 x417000_1, .int .i64 x417001_1, .int .i64 x417002_1, .slice Ao16 x417003_1.length co16] 24 (0, 0)) (by (with_reducible repeat (first | refine blk_drewN ?_ _ | refine blk_drew ?_ | refine blk_alloc ?_ _)); exact BK416.out) hb); have n4_ := Aside0.mk (blk_below (g := gb425) (o := .cells #[.int .i64 t418, .int .i64 t419, .int .i64 t420, .slice Ao24 t421.length co24] 24 (0, 0)) (by (with_reducible repeat (first | refine blk_drewN ?_ _ | refine blk_drew ?_ | refine blk_alloc ?_ _)); exact BK425.out) hb); have n5_ := Aside0.mk (below_step (by repeat (first | (with_reducible first | exact HB.out | apply below_alloc | apply pw_below_drewN | apply below_drew1 | refine below_set ?_ GE416.out | refine below_set ?_ GE425.out) | exact HB.out)) hb); clear HO_417003; clear HO_426003; clear BK416; clear BK425; clear HB; have HO_417003 := n0_; have HO_426003 := n1_; have HO437 := n2_; have BK416 := n3_; have BK425 := n4_; have HB := n5_; clear n0_ n1_ n2_ n3_ n4_ n5_; (try clear hb); (try clear hb2); (try clear hk); (try clear hi); (try clear ho0); obtain ⟨Ao60, co60, eo60⟩ := Kd.R_slice HO437.out; subst eo60; have hcz61_0 : w59.cell? ⟨gb425, 0, none⟩ = some (.int .i64 t418) := (blk_cell BK425.out 0).trans rfl; have hcz61_1 : w59.cell? ⟨gb425, 1, none⟩ = some (.int .i64 t419) := (blk_cell BK425.out 1).trans rfl; have hcz61_2 : w59.cell? ⟨gb425, 2, none⟩ = some (.int .i64 t420) := (blk_cell BK425.out 2).trans rfl; have hcz61_3 : w59.cell? ⟨gb425, 3, none⟩ = some (.slice Ao24 t421.length co24) := (blk_cell BK425.out 3).trans rfl; have hfz61_0 := blk_frozen BK425.out 0; have hfz61_1 := blk_frozen BK425.out 1; have hfz61_2 := blk_frozen BK425.out 2; have hfz61_3 := blk_frozen BK425.out 3; have hcz62_0 : w59.cell? ⟨gb416, 0, none⟩ = some (.int .i64 x417000_1) := (blk_cell BK416.out 0).trans rfl; have hcz62_1 : w59.cell? ⟨gb416, 1, none⟩ = some (.int .i64 x417001_1) := (blk_cell BK416.out 1).trans rfl; have hcz62_2 : w59.cell? ⟨gb416, 2, none⟩ = some (.int .i64 x417002_1) := (blk_cell BK416.out 2).trans rfl; have hcz62_3 : w59.cell? ⟨gb416, 3, none⟩ = some (.slice Ao16 x417003_1.length co16) := (blk_cell BK416.out 3).trans rfl; have hfz62_0 := blk_frozen BK416.out 0; have hfz62_1 := blk_frozen BK416.out 1; have hfz62_2 := blk_frozen BK416.out 2; have hfz62_3 := blk_frozen BK416.out 3))
                                          go_roundg kj31
                                          case measure => have := HK1.out; have := HJ7.out; have := HJ14.out; have := HJ31.out; omega
                                          case rel => exact ⟨(x4_31), (x5_1), (wrap64 (x6_1 + 1)), (t418), (t419), (t420), (t421), (.slice Ao24 t421.length co24), (by first | rfl | (simp; done) | (simp [*]; done)), (by first | rfl | (simp; done) | (simp [*]; done)), (by first | rfl | (simp; done) | (simp [*]; done)), H', ⟨by have := HK1.out; have := HJ7.out; have := HJ14.out; have := HJ31.out; omega⟩, ⟨by (with_reducible repeat (first | apply Kd.R_alloc | apply Kd.R_drewN | apply Kd.R_drew)); exact Kd.R_mono (Kd.R_far (p := ⟨gb416, 3, none⟩) (Kd.R_far (p := ⟨gb416, 2, none⟩) (Kd.R_far (p := ⟨gb416, 1, none⟩) (Kd.R_far (p := ⟨gb416, 0, none⟩) (Kd.R_types HO_426003.out BK416.out (by decide)) (fun _ hk => hk.2) (.int .i64 t418)) (fun _ hk => hk.2) (.int .i64 t419)) (fun _ hk => hk.2) (.int .i64 t420)) (fun _ hk => hk.2) (.slice Ao24 t421.length co24)) (fun _ hk => trivial)⟩, ⟨by (with_reducible repeat (first | refine blk_drewN ?_ _ | refine blk_drew ?_ | refine blk_alloc ?_ _)); refine blk_put (cs := #[.int .i64 t418, .int .i64 t419, .int .i64 t420, .slice Ao16 x417003_1.length co16]) ?_ 3 _ rfl; (with_reducible repeat (first | refine blk_drewN ?_ _ | refine blk_drew ?_ | refine blk_alloc ?_ _)); refine blk_put (cs := #[.int .i64 t418, .int .i64 t419, .int .i64 x417002_1, .slice Ao16 x417003_1.length co16]) ?_ 2 _ rfl; (with_reducible repeat (first | refine blk_drewN ?_ _ | refine blk_drew ?_ | refine blk_alloc ?_ _)); refine blk_put (cs := #[.int .i64 t418, .int .i64 x417001_1, .int .i64 x417002_1, .slice Ao16 x417003_1.length co16]) ?_ 1 _ rfl; (with_reducible repeat (first | refine blk_drewN ?_ _ | refine blk_drew ?_ | refine blk_alloc ?_ _)); refine blk_put (cs := #[.int .i64 x417000_1, .int .i64 x417001_1, .int .i64 x417002_1, .slice Ao16 x417003_1.length co16]) ?_ 0 _ rfl; (with_reducible repeat (first | refine blk_drewN ?_ _ | refine blk_drew ?_ | refine blk_alloc ?_ _)); exact BK416.out⟩, ⟨by repeat (first | (with_reducible first | exact HB.out | apply below_alloc | apply pw_below_drewN | apply below_drew1 | refine below_set ?_ GE416.out | refine below_set ?_ GE425.out) | exact HB.out)⟩⟩
                                      · rw [if_neg c54] at H
                                        exact absurd H (by simp)
                                  · rw [if_neg c38] at H
                                    exact absurd H (by simp)
                                · rw [if_neg c37] at H
                                  exact absurd H (by simp)
                          · rw [if_neg c31] at H
                            exact absurd H (by simp)
                        · rw [if_neg c30] at H
                          exact absurd H (by simp)
                  · rw [if_neg c14] at H
                    have c14b0 : (t424 == 0) = false := beq_eq_false_iff_ne.mpr c14
                    have c14b1 : (t424 != 0) = true := bne_iff_ne.mpr c14
                    replace H := Option.bind_eq_some_iff.mp H
                    obtain ⟨t426, A630, H⟩ := H
                    replace H : (if t426 = true then (examboardlaw54_HoldBlocks.l0 kj7 l0 x4_1 x5_1 (wrap64 (x6_1 + 1)) x417000_1 x417001_1 x417002_1 x417003_1) else (none)) = some r := H
                    have A63 := Aside0.mk A630
                    clear A630
                    by_cases c64 : t426 = true
                    · subst c64
                      have H1 : (examboardlaw54_HoldBlocks.l0 kj7 l0 x4_1 x5_1 (wrap64 (x6_1 + 1)) x417000_1 x417001_1 x417002_1 x417003_1) = some r := by rw [if_pos rfl] at H; exact H
                      clear H
                      have H := H1
                      clear H1
                      have H' := Aside0.mk H
                      clear H
                      obtain ⟨Ao65, co65, eo65⟩ := Kd.R_slice HO_417003.out
                      subst eo65
                      try go_wp2
                      have n0_ := Aside0.mk (Kd.R_drew HO_417003.out)
                      have n1_ := Aside0.mk (blk_drew BK416.out)
                      have n2_ := Aside0.mk (below_drew1 HB.out)
                      clear HO_417003
                      clear BK416
                      clear HB
                      have HO_417003 := n0_
                      have BK416 := n1_
                      have HB := n2_
                      clear n0_ n1_ n2_
                      have p417 : 0 ≤ (x6_1 : Int) := of_decide_eq_true (by first | (with_reducible assumption) | assumption)
                      have q417 : x6_1 < (l0.length : Int) := of_decide_eq_true (by first | (with_reducible assumption) | assumption)
                      obtain ⟨ad417, e417, hx417_0, hx417_1, hx417_2⟩ := at_T76 HR0.out x6_1 p417 q417
                      have hw417_2 := hx417_2
                      have hw417_1 := hx417_1
                      have hw417_0 := hx417_0
                      cases e417
                      replace hx417_0 := (HB.out.cell (World.block_lt_of_cell? w _ hx417_0)).trans hx417_0
                      replace hx417_1 := (HB.out.cell (World.block_lt_of_cell? w _ hx417_1)).trans hx417_1
                      replace hx417_2 := (HB.out.cell (World.block_lt_of_cell? w _ hx417_2)).trans hx417_2
                      replace p417 := eq_true p417
                      replace q417 := eq_true q417
                      refine start_ (n := 12) (S := fun w' => w'.cell? ⟨gb416, 0, none⟩ = some (.int .i64 x417000_1) ∧ w'.cell? ⟨gb416, 1, none⟩ = some (.int .i64 x417001_1) ∧ w'.cell? ⟨gb416, 2, none⟩ = some (.int .i64 x417002_1) ∧ w'.cell? ⟨gb416, 3, none⟩ = some (.slice Ao65 x417003_1.length co65) ∧ w'.cell? (ad417.add ((x6_1).toNat * 3)) = some (.int .i64 ((rd_T76 l0 x6_1).f0)) ∧ w'.cell? ⟨(ad417.add ((x6_1).toNat * 3)).block, (ad417.add ((x6_1).toNat * 3)).off + 1, none⟩ = some (.int .i64 ((rd_T76 l0 x6_1).f1)) ∧ w'.cell? ⟨(ad417.add ((x6_1).toNat * 3)).block, (ad417.add ((x6_1).toNat * 3)).off + 2, none⟩ = some (.int .i64 ((rd_T76 l0 x6_1).f2))) (ds := []) #[false, false, false, false, false, false, false, false, false, false, false, false] (by kernel_rfl) rfl rfl ⟨(blk_cell BK416.out 0).trans rfl, (blk_cell BK416.out 1).trans rfl, (blk_cell BK416.out 2).trans rfl, (blk_cell BK416.out 3).trans rfl, ((HB.out.cell (World.block_lt_of_cell? w _ hw417_0)).trans hw417_0), ((HB.out.cell (World.block_lt_of_cell? w _ hw417_1)).trans hw417_1), ((HB.out.cell (World.block_lt_of_cell? w _ hw417_2)).trans hw417_2)⟩ (fun hHeld => ?_); refine with_tabW examboardlaw54_HoldBlocks.tab8 examboardlaw54_HoldBlocks.bits8 (fun HT_ HW_ => ?_)
                      generalize wc.drew = w66 at HO_417003 BK416 HB hx417_0 hx417_1 hx417_2 hHeld ⊢
                      refine pure_ (i := 1) (N := some 25) (v := ?_) (a' := ?_) #[false, true, false, false, false, false, false, false, false, false, false, false] rfl rfl (any_of HT_.out (by kernel_rfl)) (fun _ _ _ h => h) (Or.inl ⟨by rfl, ?_⟩) ?_ ?_
                      rotate_left
                      · intro w'
                        go_simp
                        with_reducible rfl
                      rotate_left
                      · simp only [Act.put, List.setIfInBounds_toArray, List.set_cons_zero, List.set_cons_succ, i64_w, i32_w]
                        rfl
                      refine pure_ (i := 2) (N := some 26) (v := ?_) (a' := ?_) #[false, true, true, false, false, false, false, false, false, false, false, false] rfl rfl (any_of HT_.out (by kernel_rfl)) (fun _ _ _ h => h) (Or.inl ⟨by rfl, ?_⟩) ?_ ?_
                      rotate_left
                      · intro w'
                        go_simp
                        with_reducible rfl
                      rotate_left
                      · simp only [Act.put, List.setIfInBounds_toArray, List.set_cons_zero, List.set_cons_succ, i64_w, i32_w]
                        rfl
                      refine pure_ (i := 3) (N := some 27) (v := ?_) (a' := ?_) #[false, true, true, true, false, false, false, false, false, false, false, false] rfl rfl (any_of HT_.out (by kernel_rfl)) (fun _ _ _ h => h) (Or.inl ⟨by rfl, ?_⟩) ?_ ?_
                      rotate_left
                      · intro w'
                        go_simp
                        with_reducible rfl
                      rotate_left
                      · simp only [Act.put, List.setIfInBounds_toArray, List.set_cons_zero, List.set_cons_succ, i64_w, i32_w]
                        rfl
                      refine take_ (i := 0) (N := some 24) (v := ?_) (a' := ?_) #[true, true, true, true, false, false, false, false, false, false, false, false] rfl rfl (take_ofW HT_.out HW_.out (by kernel_rfl)) (fun _ _ _ h => h) (Or.inl ⟨by rfl, ?_⟩) hHeld ?_ ?_
                      rotate_left
                      · rintro w' ⟨s0, s1, s2, s3, s4, s5, s6⟩
                        go_simp
                        with_reducible rfl
                      rotate_left
                      · simp only [Act.put, List.setIfInBounds_toArray, List.set_cons_zero, List.set_cons_succ, i64_w, i32_w]
                        rfl
                      refine take_ (i := 4) (N := some 28) (v := ?_) (a' := ?_) #[true, true, true, true, true, false, false, false, false, false, false, false] rfl rfl (take_ofW HT_.out HW_.out (by kernel_rfl)) (fun _ _ _ h => h) (Or.inl ⟨by rfl, ?_⟩) hHeld ?_ ?_
                      rotate_left
                      · rintro w' ⟨s0, s1, s2, s3, s4, s5, s6⟩
                        go_simp
                        with_reducible rfl
                      rotate_left
                      · simp only [Act.put, List.setIfInBounds_toArray, List.set_cons_zero, List.set_cons_succ, i64_w, i32_w]
                        rfl
                      refine join_ (σ := Value × Nat) 2 #[true, true, true, true, true, true, true, true, true, true, false, false] (fun s_ => [(29, .tuple #[.agg #[.int .i64 t418, .int .i64 t419, .int .i64 t420, s_.1], .int .i64 t424]), (7, .pointer (some ⟨s_.2, 0, none⟩)), (23, .tuple #[.agg #[.int .i64 t418, .int .i64 t419, .int .i64 t420, s_.1], .int .i64 t424]), (30, .agg #[.int .i64 t418, .int .i64 t419, .int .i64 t420, s_.1]), (31, .int .i64 t424)]) (fun s_ w' => (w'.cell? ⟨gb416, 0, none⟩ = some (.int .i64 x417000_1) ∧ w'.cell? ⟨gb416, 1, none⟩ = some (.int .i64 x417001_1) ∧ w'.cell? ⟨gb416, 2, none⟩ = some (.int .i64 x417002_1) ∧ w'.cell? ⟨gb416, 3, none⟩ = some (.slice Ao65 x417003_1.length co65) ∧ w'.cell? (ad417.add ((x6_1).toNat * 3)) = some (.int .i64 ((rd_T76 l0 x6_1).f0)) ∧ w'.cell? ⟨(ad417.add ((x6_1).toNat * 3)).block, (ad417.add ((x6_1).toNat * 3)).off + 1, none⟩ = some (.int .i64 ((rd_T76 l0 x6_1).f1)) ∧ w'.cell? ⟨(ad417.add ((x6_1).toNat * 3)).block, (ad417.add ((x6_1).toNat * 3)).off + 2, none⟩ = some (.int .i64 ((rd_T76 l0 x6_1).f2))) ∧ (Kd.R k30 30 w' w.heap.size (fun k_ => some k_ ≠ (.slice Ao65 x417003_1.length co65 : Value).ownBlock) s_.1 t421) ∧ (Kd.R k30 30 w' w.heap.size (fun k_ => some k_ ≠ (s_.1 : Value).ownBlock) (.slice Ao65 x417003_1.length co65) x417003_1) ∧ (w'.heap[gb416]? = some (.cells #[.int .i64 x417000_1, .int .i64 x417001_1, .int .i64 x417002_1, .slice Ao65 x417003_1.length co65] 24 (0, 0))) ∧ (w'.heap[s_.2]? = some (.cells #[.int .i64 0, .int .i64 0, .int .i64 0, .slice none 0 0] 24 (0, 0))) ∧ (w.heap.size ≤ s_.2) ∧ (w.heap.size ≤ s_.2) ∧ (gb416 ≠ s_.2) ∧ (s_.2 ≠ gb416) ∧ (Below w.heap.size w w')) ?_ ?_
                      rotate_left
                      · intro hCont
                        refine two_ (i := 5) (j := 9) (Ni := some 29) (Nj := some 7) #[true, true, true, true, true, true, false, false, false, false, false, false] #[true, true, true, true, true, false, false, false, false, true, false, false] rfl rfl rfl rfl (two_of HT_.out (by kernel_rfl)) (by decide) (by decide) (fun K hK => ?_) (fun K hK => ?_)
                        · skip
                          refine goes_ Try.func54 (by kernel_rfl) rfl #[.agg #[.int .i64 x417000_1, .int .i64 x417001_1, .int .i64 x417002_1, .slice Ao65 x417003_1.length co65], .agg #[.int .i64 ((rd_T76 l0 x6_1).f0), .int .i64 ((rd_T76 l0 x6_1).f1), .int .i64 ((rd_T76 l0 x6_1).f2)]] (by rfl) rfl rfl (by (try simp only [List.map_toArray, List.map_cons, List.map_nil]); first | done | rfl | (simp only [List.length_drop, List.length_take]; rfl)) ?_
                          with_reducible refine (examboardlaw54_do.calls kj7 x417000_1 x417001_1 x417002_1 _ _ x417003_1 ((rd_T76 l0 x6_1).f0) ((rd_T76 l0 x6_1).f1) ((rd_T76 l0 x6_1).f2) t418 t419 t420 t421 t424 _ ?side1 ?side2 A13.out).mono ?_
                          (case side1 => repeat (first | exact (Kd.R_reads' HO_417003.out).2.2 | (with_reducible refine Kd.C_alloc ?_ _) | (with_reducible refine Kd.C_drewN ?_ _) | (with_reducible refine Kd.C_drew ?_)))
                          (case side2 => exact (Kd.R_reads' HO_417003.out).2.1)
                          rintro e w67 ⟨v422, rfl, ho0, hb⟩
                          refine ⟨_, rfl, ?_⟩
                          have n0_ := Aside0.mk (Kd.R_elder' (by (with_reducible repeat (first | apply Kd.R_alloc | apply Kd.R_drewN | apply Kd.R_drew)); exact HO_417003.out) (Kd.R_base ho0) hb)
                          have n1_ := Aside0.mk (Kd.R_lower (Kd.R_new' ho0 (Kd.R_lt (by (with_reducible repeat (first | apply Kd.R_alloc | apply Kd.R_drewN | apply Kd.R_drew)); exact HO_417003.out))) (below_size (by repeat (first | (with_reducible first | exact HB.out | apply below_alloc | apply pw_below_drewN | apply below_drew1 | refine below_set ?_ GE416.out) | exact HB.out))))
                          have n2_ := Aside0.mk (blk_below (g := gb416) (o := .cells #[.int .i64 x417000_1, .int .i64 x417001_1, .int .i64 x417002_1, .slice Ao65 x417003_1.length co65] 24 (0, 0)) (by (with_reducible repeat (first | refine blk_drewN ?_ _ | refine blk_drew ?_ | refine blk_alloc ?_ _)); exact BK416.out) hb)
                          have n3_ := Aside0.mk (below_step (by repeat (first | (with_reducible first | exact HB.out | apply below_alloc | apply pw_below_drewN | apply below_drew1 | refine below_set ?_ GE416.out) | exact HB.out)) hb)
                          clear HO_417003
                          clear BK416
                          clear HB
                          have HO_417003 := n0_
                          have HO423 := n1_
                          have BK416 := n2_
                          have HB := n3_
                          clear n0_ n1_ n2_ n3_
                          (try clear hb)
                          (try clear hb2)
                          (try clear hk)
                          (try clear hi)
                          (try clear ho0)
                          refine hK.out _ _ ⟨(blk_cell BK416.out 0).trans rfl, (blk_cell BK416.out 1).trans rfl, (blk_cell BK416.out 2).trans rfl, (blk_cell BK416.out 3).trans rfl, ((HB.out.cell (World.block_lt_of_cell? w _ hw417_0)).trans hw417_0), ((HB.out.cell (World.block_lt_of_cell? w _ hw417_1)).trans hw417_1), ((HB.out.cell (World.block_lt_of_cell? w _ hw417_2)).trans hw417_2)⟩ (fun hHeld => ?_)
                          clear hK K
                          refine norm_ (a' := ?_) ?_ ?_
                          rotate_left
                          · show Act.put _ (some 29) _ = _
                            simp only [Act.put, List.setIfInBounds_toArray, List.set_cons_zero, List.set_cons_succ, i64_w, i32_w]
                            rfl
                          refine pure_ (i := 6) (N := some 23) (v := ?_) (a' := ?_) #[true, true, true, true, true, true, true, false, false, false, false, false] rfl rfl (any_of HT_.out (by kernel_rfl)) (fun _ _ _ h => h) (Or.inl ⟨by rfl, ?_⟩) ?_ ?_
                          rotate_left
                          · intro w'
                            go_simp
                            with_reducible rfl
                          rotate_left
                          · simp only [Act.put, List.setIfInBounds_toArray, List.set_cons_zero, List.set_cons_succ, i64_w, i32_w]
                            rfl
                          refine pure_ (i := 7) (N := some 30) (v := ?_) (a' := ?_) #[true, true, true, true, true, true, true, true, false, false, false, false] rfl rfl (any_of HT_.out (by kernel_rfl)) (fun _ _ _ h => h) (Or.inl ⟨by rfl, ?_⟩) ?_ ?_
                          rotate_left
                          · intro w'
                            go_simp
                            with_reducible rfl
                          rotate_left
                          · simp only [Act.put, List.setIfInBounds_toArray, List.set_cons_zero, List.set_cons_succ, i64_w, i32_w]
                            rfl
                          refine pure_ (i := 8) (N := some 31) (v := ?_) (a' := ?_) #[true, true, true, true, true, true, true, true, true, false, false, false] rfl rfl (any_of HT_.out (by kernel_rfl)) (fun _ _ _ h => h) (Or.inl ⟨by rfl, ?_⟩) ?_ ?_
                          rotate_left
                          · intro w'
                            go_simp
                            with_reducible rfl
                          rotate_left
                          · simp only [Act.put, List.setIfInBounds_toArray, List.set_cons_zero, List.set_cons_succ, i64_w, i32_w]
                            rfl
                          refine one_ (i := 9) (N := some 7) #[true, true, true, true, true, true, true, true, true, true, false, false] rfl rfl (one_of HT_.out (by kernel_rfl)) (by decide) (fun K hK => ?_)
                          refine box_step ?hg (N := 7) ?hd (cs := #[.int .i64 0, .int .i64 0, .int .i64 0, .slice none 0 0]) (t := 24) ?hr ?_; (case hd => rfl); (case hg => rfl); (case hr => first | (go_simp; done) | (go_simp; rfl))
                          intro gb425 hg w68 hbox hb
                          have n0_ := Aside0.mk (Kd.R_below (by (with_reducible repeat (first | apply Kd.R_alloc | apply Kd.R_drewN | apply Kd.R_drew)); exact HO_417003.out) hb)
                          have n1_ := Aside0.mk (Kd.R_below (by (with_reducible repeat (first | apply Kd.R_alloc | apply Kd.R_drewN | apply Kd.R_drew)); exact HO423.out) hb)
                          have n2_ := Aside0.mk (blk_below (g := gb416) (o := .cells #[.int .i64 x417000_1, .int .i64 x417001_1, .int .i64 x417002_1, .slice Ao65 x417003_1.length co65] 24 (0, 0)) (by (with_reducible repeat (first | refine blk_drewN ?_ _ | refine blk_drew ?_ | refine blk_alloc ?_ _)); exact BK416.out) hb)
                          have n3_ := Aside0.mk (below_step (by repeat (first | (with_reducible first | exact HB.out | apply below_alloc | apply pw_below_drewN | apply below_drew1 | refine below_set ?_ GE416.out) | exact HB.out)) hb)
                          have n4_ := Aside0.mk (hbox)
                          have n5_ := Aside0.mk ((by rw [hg]; exact (below_size (by repeat (first | (with_reducible first | exact HB.out | apply below_alloc | apply pw_below_drewN | apply below_drew1 | refine below_set ?_ GE416.out) | exact HB.out))) : w.heap.size ≤ gb425))
                          have n6_ := Aside0.mk ((by rw [hg]; exact (below_size (by repeat (first | (with_reducible first | exact HB.out | apply below_alloc | apply pw_below_drewN | apply below_drew1 | refine below_set ?_ GE416.out) | exact HB.out))) : w.heap.size ≤ gb425))
                          have n7_ := Aside0.mk ((by rw [hg]; exact Nat.ne_of_lt (blk_lt (g := gb416) (o := .cells #[.int .i64 x417000_1, .int .i64 x417001_1, .int .i64 x417002_1, .slice Ao65 x417003_1.length co65] 24 (0, 0)) (by (with_reducible repeat (first | refine blk_drewN ?_ _ | refine blk_drew ?_ | refine blk_alloc ?_ _)); exact BK416.out)) : gb416 ≠ gb425))
                          have n8_ := Aside0.mk ((by rw [hg]; exact Nat.ne_of_gt (blk_lt (g := gb416) (o := .cells #[.int .i64 x417000_1, .int .i64 x417001_1, .int .i64 x417002_1, .slice Ao65 x417003_1.length co65] 24 (0, 0)) (by (with_reducible repeat (first | refine blk_drewN ?_ _ | refine blk_drew ?_ | refine blk_alloc ?_ _)); exact BK416.out)) : gb425 ≠ gb416))
                          clear HO_417003
                          clear HO423
                          clear BK416
                          clear HB
                          have HO_417003 := n0_
                          have HO423 := n1_
                          have BK416 := n2_
                          have HB := n3_
                          have BK425 := n4_
                          have GW425 := n5_
                          have GE425 := n6_
                          have NB416_425 := n7_
                          have NB425_416 := n8_
                          clear n0_ n1_ n2_ n3_ n4_ n5_ n6_ n7_ n8_
                          clear hb hbox hg
                          refine hK.out _ _ ⟨(blk_cell BK416.out 0).trans rfl, (blk_cell BK416.out 1).trans rfl, (blk_cell BK416.out 2).trans rfl, (blk_cell BK416.out 3).trans rfl, ((HB.out.cell (World.block_lt_of_cell? w _ hw417_0)).trans hw417_0), ((HB.out.cell (World.block_lt_of_cell? w _ hw417_1)).trans hw417_1), ((HB.out.cell (World.block_lt_of_cell? w _ hw417_2)).trans hw417_2)⟩ (fun hHeld => ?_)
                          clear hK K
                          refine norm_ (a' := ?_) ?_ ?_
                          rotate_left
                          · show Act.put _ (some 7) _ = _
                            simp only [Act.put, List.setIfInBounds_toArray, List.set_cons_zero, List.set_cons_succ, i64_w, i32_w]
                            rfl
                          exact norm_ (by simp only [putAll, Act.put, List.setIfInBounds_toArray, List.set_cons_zero, List.set_cons_succ]) (hCont (v422, gb425) _ ⟨hHeld, (by (with_reducible repeat (first | apply Kd.R_alloc | apply Kd.R_drewN | apply Kd.R_drew)); exact Kd.R_mono HO423.out (fun _ hk => hk.2)), (by (with_reducible repeat (first | apply Kd.R_alloc | apply Kd.R_drewN | apply Kd.R_drew)); exact Kd.R_mono HO_417003.out (fun _ hk => hk.2)), (by (with_reducible repeat (first | refine blk_drewN ?_ _ | refine blk_drew ?_ | refine blk_alloc ?_ _)); exact BK416.out), (by (with_reducible repeat (first | refine blk_drewN ?_ _ | refine blk_drew ?_ | refine blk_alloc ?_ _)); exact BK425.out), GW425.out, GE425.out, NB416_425.out, NB425_416.out, (by repeat (first | (with_reducible first | exact HB.out | apply below_alloc | apply pw_below_drewN | apply below_drew1 | refine below_set ?_ GE416.out | refine below_set ?_ GE425.out) | exact HB.out))⟩)
                        · skip
                          refine box_step ?hg (N := 7) ?hd (cs := #[.int .i64 0, .int .i64 0, .int .i64 0, .slice none 0 0]) (t := 24) ?hr ?_; (case hd => rfl); (case hg => rfl); (case hr => first | (go_simp; done) | (go_simp; rfl))
                          intro gb425 hg w67 hbox hb
                          have n0_ := Aside0.mk (Kd.R_below (by (with_reducible repeat (first | apply Kd.R_alloc | apply Kd.R_drewN | apply Kd.R_drew)); exact HO_417003.out) hb)
                          have n1_ := Aside0.mk (blk_below (g := gb416) (o := .cells #[.int .i64 x417000_1, .int .i64 x417001_1, .int .i64 x417002_1, .slice Ao65 x417003_1.length co65] 24 (0, 0)) (by (with_reducible repeat (first | refine blk_drewN ?_ _ | refine blk_drew ?_ | refine blk_alloc ?_ _)); exact BK416.out) hb)
                          have n2_ := Aside0.mk (below_step (by repeat (first | (with_reducible first | exact HB.out | apply below_alloc | apply pw_below_drewN | apply below_drew1 | refine below_set ?_ GE416.out) | exact HB.out)) hb)
                          have n3_ := Aside0.mk (hbox)
                          have n4_ := Aside0.mk ((by rw [hg]; exact (below_size (by repeat (first | (with_reducible first | exact HB.out | apply below_alloc | apply pw_below_drewN | apply below_drew1 | refine below_set ?_ GE416.out) | exact HB.out))) : w.heap.size ≤ gb425))
                          have n5_ := Aside0.mk ((by rw [hg]; exact (below_size (by repeat (first | (with_reducible first | exact HB.out | apply below_alloc | apply pw_below_drewN | apply below_drew1 | refine below_set ?_ GE416.out) | exact HB.out))) : w.heap.size ≤ gb425))
                          have n6_ := Aside0.mk ((by rw [hg]; exact Nat.ne_of_lt (blk_lt (g := gb416) (o := .cells #[.int .i64 x417000_1, .int .i64 x417001_1, .int .i64 x417002_1, .slice Ao65 x417003_1.length co65] 24 (0, 0)) (by (with_reducible repeat (first | refine blk_drewN ?_ _ | refine blk_drew ?_ | refine blk_alloc ?_ _)); exact BK416.out)) : gb416 ≠ gb425))
                          have n7_ := Aside0.mk ((by rw [hg]; exact Nat.ne_of_gt (blk_lt (g := gb416) (o := .cells #[.int .i64 x417000_1, .int .i64 x417001_1, .int .i64 x417002_1, .slice Ao65 x417003_1.length co65] 24 (0, 0)) (by (with_reducible repeat (first | refine blk_drewN ?_ _ | refine blk_drew ?_ | refine blk_alloc ?_ _)); exact BK416.out)) : gb425 ≠ gb416))
                          clear HO_417003
                          clear BK416
                          clear HB
                          have HO_417003 := n0_
                          have BK416 := n1_
                          have HB := n2_
                          have BK425 := n3_
                          have GW425 := n4_
                          have GE425 := n5_
                          have NB416_425 := n6_
                          have NB425_416 := n7_
                          clear n0_ n1_ n2_ n3_ n4_ n5_ n6_ n7_
                          clear hb hbox hg
                          refine hK.out _ _ ⟨(blk_cell BK416.out 0).trans rfl, (blk_cell BK416.out 1).trans rfl, (blk_cell BK416.out 2).trans rfl, (blk_cell BK416.out 3).trans rfl, ((HB.out.cell (World.block_lt_of_cell? w _ hw417_0)).trans hw417_0), ((HB.out.cell (World.block_lt_of_cell? w _ hw417_1)).trans hw417_1), ((HB.out.cell (World.block_lt_of_cell? w _ hw417_2)).trans hw417_2)⟩ (fun hHeld => ?_)
                          clear hK K
                          refine norm_ (a' := ?_) ?_ ?_
                          rotate_left
                          · show Act.put _ (some 7) _ = _
                            simp only [Act.put, List.setIfInBounds_toArray, List.set_cons_zero, List.set_cons_succ, i64_w, i32_w]
                            rfl
                          refine one_ (i := 5) (N := some 29) #[true, true, true, true, true, true, false, false, false, true, false, false] rfl rfl (one_of HT_.out (by kernel_rfl)) (by decide) (fun K hK => ?_)
                          refine goes_ Try.func54 (by kernel_rfl) rfl #[.agg #[.int .i64 x417000_1, .int .i64 x417001_1, .int .i64 x417002_1, .slice Ao65 x417003_1.length co65], .agg #[.int .i64 ((rd_T76 l0 x6_1).f0), .int .i64 ((rd_T76 l0 x6_1).f1), .int .i64 ((rd_T76 l0 x6_1).f2)]] (by rfl) rfl rfl (by (try simp only [List.map_toArray, List.map_cons, List.map_nil]); first | done | rfl | (simp only [List.length_drop, List.length_take]; rfl)) ?_
                          with_reducible refine (examboardlaw54_do.calls kj7 x417000_1 x417001_1 x417002_1 _ _ x417003_1 ((rd_T76 l0 x6_1).f0) ((rd_T76 l0 x6_1).f1) ((rd_T76 l0 x6_1).f2) t418 t419 t420 t421 t424 _ ?side1 ?side2 A13.out).mono ?_
                          (case side1 => repeat (first | exact (Kd.R_reads' HO_417003.out).2.2 | (with_reducible refine Kd.C_alloc ?_ _) | (with_reducible refine Kd.C_drewN ?_ _) | (with_reducible refine Kd.C_drew ?_)))
                          (case side2 => exact (Kd.R_reads' HO_417003.out).2.1)
                          rintro e w68 ⟨v422, rfl, ho0, hb⟩
                          refine ⟨_, rfl, ?_⟩
                          have n0_ := Aside0.mk (Kd.R_elder' (by (with_reducible repeat (first | apply Kd.R_alloc | apply Kd.R_drewN | apply Kd.R_drew)); exact HO_417003.out) (Kd.R_base ho0) hb)
                          have n1_ := Aside0.mk (Kd.R_lower (Kd.R_new' ho0 (Kd.R_lt (by (with_reducible repeat (first | apply Kd.R_alloc | apply Kd.R_drewN | apply Kd.R_drew)); exact HO_417003.out))) (below_size (by repeat (first | (with_reducible first | exact HB.out | apply below_alloc | apply pw_below_drewN | apply below_drew1 | refine below_set ?_ GE416.out | refine below_set ?_ GE425.out) | exact HB.out))))
                          have n2_ := Aside0.mk (blk_below (g := gb416) (o := .cells #[.int .i64 x417000_1, .int .i64 x417001_1, .int .i64 x417002_1, .slice Ao65 x417003_1.length co65] 24 (0, 0)) (by (with_reducible repeat (first | refine blk_drewN ?_ _ | refine blk_drew ?_ | refine blk_alloc ?_ _)); exact BK416.out) hb)
                          have n3_ := Aside0.mk (blk_below (g := gb425) (o := .cells #[.int .i64 0, .int .i64 0, .int .i64 0, .slice none 0 0] 24 (0, 0)) (by (with_reducible repeat (first | refine blk_drewN ?_ _ | refine blk_drew ?_ | refine blk_alloc ?_ _)); exact BK425.out) hb)
                          have n4_ := Aside0.mk (below_step (by repeat (first | (with_reducible first | exact HB.out | apply below_alloc | apply pw_below_drewN | apply below_drew1 | refine below_set ?_ GE416.out | refine below_set ?_ GE425.out) | exact HB.out)) hb)
                          clear HO_417003
                          clear BK416
                          clear BK425
                          clear HB
                          have HO_417003 := n0_
                          have HO423 := n1_
                          have BK416 := n2_
                          have BK425 := n3_
                          have HB := n4_
                          clear n0_ n1_ n2_ n3_ n4_
                          (try clear hb)
                          (try clear hb2)
                          (try clear hk)
                          (try clear hi)
                          (try clear ho0)
                          refine hK.out _ _ ⟨(blk_cell BK416.out 0).trans rfl, (blk_cell BK416.out 1).trans rfl, (blk_cell BK416.out 2).trans rfl, (blk_cell BK416.out 3).trans rfl, ((HB.out.cell (World.block_lt_of_cell? w _ hw417_0)).trans hw417_0), ((HB.out.cell (World.block_lt_of_cell? w _ hw417_1)).trans hw417_1), ((HB.out.cell (World.block_lt_of_cell? w _ hw417_2)).trans hw417_2)⟩ (fun hHeld => ?_)
                          clear hK K
                          refine norm_ (a' := ?_) ?_ ?_
                          rotate_left
                          · show Act.put _ (some 29) _ = _
                            simp only [Act.put, List.setIfInBounds_toArray, List.set_cons_zero, List.set_cons_succ, i64_w, i32_w]
                            rfl
                          refine pure_ (i := 6) (N := some 23) (v := ?_) (a' := ?_) #[true, true, true, true, true, true, true, false, false, true, false, false] rfl rfl (any_of HT_.out (by kernel_rfl)) (fun _ _ _ h => h) (Or.inl ⟨by rfl, ?_⟩) ?_ ?_
                          rotate_left
                          · intro w'
                            go_simp
                            with_reducible rfl
                          rotate_left
                          · simp only [Act.put, List.setIfInBounds_toArray, List.set_cons_zero, List.set_cons_succ, i64_w, i32_w]
                            rfl
                          refine pure_ (i := 7) (N := some 30) (v := ?_) (a' := ?_) #[true, true, true, true, true, true, true, true, false, true, false, false] rfl rfl (any_of HT_.out (by kernel_rfl)) (fun _ _ _ h => h) (Or.inl ⟨by rfl, ?_⟩) ?_ ?_
                          rotate_left
                          · intro w'
                            go_simp
                            with_reducible rfl
                          rotate_left
                          · simp only [Act.put, List.setIfInBounds_toArray, List.set_cons_zero, List.set_cons_succ, i64_w, i32_w]
                            rfl
                          refine pure_ (i := 8) (N := some 31) (v := ?_) (a' := ?_) #[true, true, true, true, true, true, true, true, true, true, false, false] rfl rfl (any_of HT_.out (by kernel_rfl)) (fun _ _ _ h => h) (Or.inl ⟨by rfl, ?_⟩) ?_ ?_
                          rotate_left
                          · intro w'
                            go_simp
                            with_reducible rfl
                          rotate_left
                          · simp only [Act.put, List.setIfInBounds_toArray, List.set_cons_zero, List.set_cons_succ, i64_w, i32_w]
                            rfl
                          exact norm_ (by simp only [putAll, Act.put, List.setIfInBounds_toArray, List.set_cons_zero, List.set_cons_succ]) (hCont (v422, gb425) _ ⟨hHeld, (by (with_reducible repeat (first | apply Kd.R_alloc | apply Kd.R_drewN | apply Kd.R_drew)); exact Kd.R_mono HO423.out (fun _ hk => hk.2)), (by (with_reducible repeat (first | apply Kd.R_alloc | apply Kd.R_drewN | apply Kd.R_drew)); exact Kd.R_mono HO_417003.out (fun _ hk => hk.2)), (by (with_reducible repeat (first | refine blk_drewN ?_ _ | refine blk_drew ?_ | refine blk_alloc ?_ _)); exact BK416.out), (by (with_reducible repeat (first | refine blk_drewN ?_ _ | refine blk_drew ?_ | refine blk_alloc ?_ _)); exact BK425.out), GW425.out, GE425.out, NB416_425.out, NB425_416.out, (by repeat (first | (with_reducible first | exact HB.out | apply below_alloc | apply pw_below_drewN | apply below_drew1 | refine below_set ?_ GE416.out | refine below_set ?_ GE425.out) | exact HB.out))⟩)
                      rintro ⟨v422, gb425⟩ w69 ⟨hS_, h0_, h1_, h2_, h3_, h4_, h5_, h6_, h7_, h8_⟩
                      have n0_ : Aside0 (Kd.R k30 30 w69 w.heap.size (fun k_ => some k_ ≠ (.slice Ao65 x417003_1.length co65 : Value).ownBlock) v422 t421) := ⟨h0_⟩
                      have n1_ : Aside0 (Kd.R k30 30 w69 w.heap.size (fun k_ => some k_ ≠ (v422 : Value).ownBlock) (.slice Ao65 x417003_1.length co65) x417003_1) := ⟨h1_⟩
                      have n2_ : Aside0 (w69.heap[gb416]? = some (.cells #[.int .i64 x417000_1, .int .i64 x417001_1, .int .i64 x417002_1, .slice Ao65 x417003_1.length co65] 24 (0, 0))) := ⟨h2_⟩
                      have n3_ : Aside0 (w69.heap[gb425]? = some (.cells #[.int .i64 0, .int .i64 0, .int .i64 0, .slice none 0 0] 24 (0, 0))) := ⟨h3_⟩
                      have n4_ : Aside0 (w.heap.size ≤ gb425) := ⟨h4_⟩
                      have n5_ : Aside0 (w.heap.size ≤ gb425) := ⟨h5_⟩
                      have n6_ : Aside0 (gb416 ≠ gb425) := ⟨h6_⟩
                      have n7_ : Aside0 (gb425 ≠ gb416) := ⟨h7_⟩
                      have n8_ : Aside0 (Below w.heap.size w w69) := ⟨h8_⟩
                      clear HO_417003
                      clear BK416
                      clear HB
                      clear h0_ h1_ h2_ h3_ h4_ h5_ h6_ h7_ h8_
                      have HO423 := n0_
                      have HO_417003 := n1_
                      have BK416 := n2_
                      have BK425 := n3_
                      have GW425 := n4_
                      have GE425 := n5_
                      have NB416_425 := n6_
                      have NB425_416 := n7_
                      have HB := n8_
                      clear n0_ n1_ n2_ n3_ n4_ n5_ n6_ n7_ n8_
                      have hHeld : w69.cell? ⟨gb416, 0, none⟩ = some (.int .i64 x417000_1) ∧ w69.cell? ⟨gb416, 1, none⟩ = some (.int .i64 x417001_1) ∧ w69.cell? ⟨gb416, 2, none⟩ = some (.int .i64 x417002_1) ∧ w69.cell? ⟨gb416, 3, none⟩ = some (.slice Ao65 x417003_1.length co65) ∧ w69.cell? (ad417.add ((x6_1).toNat * 3)) = some (.int .i64 ((rd_T76 l0 x6_1).f0)) ∧ w69.cell? ⟨(ad417.add ((x6_1).toNat * 3)).block, (ad417.add ((x6_1).toNat * 3)).off + 1, none⟩ = some (.int .i64 ((rd_T76 l0 x6_1).f1)) ∧ w69.cell? ⟨(ad417.add ((x6_1).toNat * 3)).block, (ad417.add ((x6_1).toNat * 3)).off + 2, none⟩ = some (.int .i64 ((rd_T76 l0 x6_1).f2)) := hS_
                      obtain ⟨Ao73, co73, eo73⟩ := Kd.R_slice HO423.out
                      (first | subst eo73 | (injection eo73 with f1_ f2_ f3_; have f4_ := f1_.symm; have f5_ := f3_.symm; clear f1_ f2_ f3_; subst f4_; subst f5_))
                      refine norm_ (a' := ?_) ?_ ?_
                      rotate_left
                      · simp only [putAll, Act.put, List.setIfInBounds_toArray, List.set_cons_zero, List.set_cons_succ]
                        rfl
                      refine one_ (i := 10) (N := none) #[true, true, true, true, true, true, true, true, true, true, true, false] rfl rfl (one_of HT_.out (by kernel_rfl)) (by decide) (fun K hK => ?_)
                      have hs70 : w69.cell? ⟨gb425, 0, none⟩ = some (.int .i64 0) := (blk_cell BK425.out 0).trans rfl
                      have hfs70 := blk_frozen BK425.out 0
                      have hns70_0 := NB416_425.out
                      have hms70_0 := NB425_416.out
                      have hs71 : w69.cell? ⟨gb425, 1, none⟩ = some (.int .i64 0) := (blk_cell BK425.out 1).trans rfl
                      have hfs71 := blk_frozen BK425.out 1
                      have hns71_0 := NB416_425.out
                      have hms71_0 := NB425_416.out
                      have hs72 : w69.cell? ⟨gb425, 2, none⟩ = some (.int .i64 0) := (blk_cell BK425.out 2).trans rfl
                      have hfs72 := blk_frozen BK425.out 2
                      have hns72_0 := NB416_425.out
                      have hms72_0 := NB425_416.out
                      have hs74 : w69.cell? ⟨gb425, 3, none⟩ = some (.slice none 0 0) := (blk_cell BK425.out 3).trans rfl
                      have hfs74 := blk_frozen BK425.out 3
                      have hns74_0 := NB416_425.out
                      have hms74_0 := NB425_416.out
                      refine skip_ (w1 := ?_) (by rfl) rfl ?_ ?_
                      rotate_left
                      · go_simp
                        rfl
                      refine hK.out _ _ ⟨((cell_far (p := ⟨gb425, _, none⟩) NB416_425.out _).trans (((cell_far (p := ⟨gb425, _, none⟩) NB416_425.out _).trans (((cell_far (p := ⟨gb425, _, none⟩) NB416_425.out _).trans (((cell_far (p := ⟨gb425, _, none⟩) NB416_425.out _).trans (hHeld.1)))))))), ((cell_far (p := ⟨gb425, _, none⟩) NB416_425.out _).trans (((cell_far (p := ⟨gb425, _, none⟩) NB416_425.out _).trans (((cell_far (p := ⟨gb425, _, none⟩) NB416_425.out _).trans (((cell_far (p := ⟨gb425, _, none⟩) NB416_425.out _).trans (hHeld.2.1)))))))), ((cell_far (p := ⟨gb425, _, none⟩) NB416_425.out _).trans (((cell_far (p := ⟨gb425, _, none⟩) NB416_425.out _).trans (((cell_far (p := ⟨gb425, _, none⟩) NB416_425.out _).trans (((cell_far (p := ⟨gb425, _, none⟩) NB416_425.out _).trans (hHeld.2.2.1)))))))), ((cell_far (p := ⟨gb425, _, none⟩) NB416_425.out _).trans (((cell_far (p := ⟨gb425, _, none⟩) NB416_425.out _).trans (((cell_far (p := ⟨gb425, _, none⟩) NB416_425.out _).trans (((cell_far (p := ⟨gb425, _, none⟩) NB416_425.out _).trans (hHeld.2.2.2.1)))))))), ((cell_far (p := ⟨gb425, _, none⟩) (by first | exact Nat.ne_of_lt (Nat.lt_of_lt_of_le (by have := World.block_lt_of_cell? _ _ hw417_0; first | rwa [add_block] at this | exact this) GW425.out) | (rw [add_block]; exact Nat.ne_of_lt (Nat.lt_of_lt_of_le (by have := World.block_lt_of_cell? _ _ hw417_0; first | rwa [add_block] at this | exact this) GW425.out)) | (show (Addr.add _ _).block ≠ _; rw [add_block]; exact Nat.ne_of_lt (Nat.lt_of_lt_of_le (by have := World.block_lt_of_cell? _ _ hw417_0; first | rwa [add_block] at this | exact this) GW425.out)) | (dsimp only; exact Nat.ne_of_lt (Nat.lt_of_lt_of_le (by have := World.block_lt_of_cell? _ _ hw417_0; first | rwa [add_block] at this | exact this) GW425.out))) _).trans (((cell_far (p := ⟨gb425, _, none⟩) (by first | exact Nat.ne_of_lt (Nat.lt_of_lt_of_le (by have := World.block_lt_of_cell? _ _ hw417_0; first | rwa [add_block] at this | exact this) GW425.out) | (rw [add_block]; exact Nat.ne_of_lt (Nat.lt_of_lt_of_le (by have := World.block_lt_of_cell? _ _ hw417_0; first | rwa [add_block] at this | exact this) GW425.out)) | (show (Addr.add _ _).block ≠ _; rw [add_block]; exact Nat.ne_of_lt (Nat.lt_of_lt_of_le (by have := World.block_lt_of_cell? _ _ hw417_0; first | rwa [add_block] at this | exact this) GW425.out)) | (dsimp only; exact Nat.ne_of_lt (Nat.lt_of_lt_of_le (by have := World.block_lt_of_cell? _ _ hw417_0; first | rwa [add_block] at this | exact this) GW425.out))) _).trans (((cell_far (p := ⟨gb425, _, none⟩) (by first | exact Nat.ne_of_lt (Nat.lt_of_lt_of_le (by have := World.block_lt_of_cell? _ _ hw417_0; first | rwa [add_block] at this | exact this) GW425.out) | (rw [add_block]; exact Nat.ne_of_lt (Nat.lt_of_lt_of_le (by have := World.block_lt_of_cell? _ _ hw417_0; first | rwa [add_block] at this | exact this) GW425.out)) | (show (Addr.add _ _).block ≠ _; rw [add_block]; exact Nat.ne_of_lt (Nat.lt_of_lt_of_le (by have := World.block_lt_of_cell? _ _ hw417_0; first | rwa [add_block] at this | exact this) GW425.out)) | (dsimp only; exact Nat.ne_of_lt (Nat.lt_of_lt_of_le (by have := World.block_lt_of_cell? _ _ hw417_0; first | rwa [add_block] at this | exact this) GW425.out))) _).trans (((cell_far (p := ⟨gb425, _, none⟩) (by first | exact Nat.ne_of_lt (Nat.lt_of_lt_of_le (by have := World.block_lt_of_cell? _ _ hw417_0; first | rwa [add_block] at this | exact this) GW425.out) | (rw [add_block]; exact Nat.ne_of_lt (Nat.lt_of_lt_of_le (by have := World.block_lt_of_cell? _ _ hw417_0; first | rwa [add_block] at this | exact this) GW425.out)) | (show (Addr.add _ _).block ≠ _; rw [add_block]; exact Nat.ne_of_lt (Nat.lt_of_lt_of_le (by have := World.block_lt_of_cell? _ _ hw417_0; first | rwa [add_block] at this | exact this) GW425.out)) | (dsimp only; exact Nat.ne_of_lt (Nat.lt_of_lt_of_le (by have := World.block_lt_of_cell? _ _ hw417_0; first | rwa [add_block] at this | exact this) GW425.out))) _).trans (hHeld.2.2.2.2.1)))))))), ((cell_far (p := ⟨gb425, _, none⟩) (by first | exact Nat.ne_of_lt (Nat.lt_of_lt_of_le (by have := World.block_lt_of_cell? _ _ hw417_1; first | rwa [add_block] at this | exact this) GW425.out) | (rw [add_block]; exact Nat.ne_of_lt (Nat.lt_of_lt_of_le (by have := World.block_lt_of_cell? _ _ hw417_1; first | rwa [add_block] at this | exact this) GW425.out)) | (show (Addr.add _ _).block ≠ _; rw [add_block]; exact Nat.ne_of_lt (Nat.lt_of_lt_of_le (by have := World.block_lt_of_cell? _ _ hw417_1; first | rwa [add_block] at this | exact this) GW425.out)) | (dsimp only; exact Nat.ne_of_lt (Nat.lt_of_lt_of_le (by have := World.block_lt_of_cell? _ _ hw417_1; first | rwa [add_block] at this | exact this) GW425.out))) _).trans (((cell_far (p := ⟨gb425, _, none⟩) (by first | exact Nat.ne_of_lt (Nat.lt_of_lt_of_le (by have := World.block_lt_of_cell? _ _ hw417_1; first | rwa [add_block] at this | exact this) GW425.out) | (rw [add_block]; exact Nat.ne_of_lt (Nat.lt_of_lt_of_le (by have := World.block_lt_of_cell? _ _ hw417_1; first | rwa [add_block] at this | exact this) GW425.out)) | (show (Addr.add _ _).block ≠ _; rw [add_block]; exact Nat.ne_of_lt (Nat.lt_of_lt_of_le (by have := World.block_lt_of_cell? _ _ hw417_1; first | rwa [add_block] at this | exact this) GW425.out)) | (dsimp only; exact Nat.ne_of_lt (Nat.lt_of_lt_of_le (by have := World.block_lt_of_cell? _ _ hw417_1; first | rwa [add_block] at this | exact this) GW425.out))) _).trans (((cell_far (p := ⟨gb425, _, none⟩) (by first | exact Nat.ne_of_lt (Nat.lt_of_lt_of_le (by have := World.block_lt_of_cell? _ _ hw417_1; first | rwa [add_block] at this | exact this) GW425.out) | (rw [add_block]; exact Nat.ne_of_lt (Nat.lt_of_lt_of_le (by have := World.block_lt_of_cell? _ _ hw417_1; first | rwa [add_block] at this | exact this) GW425.out)) | (show (Addr.add _ _).block ≠ _; rw [add_block]; exact Nat.ne_of_lt (Nat.lt_of_lt_of_le (by have := World.block_lt_of_cell? _ _ hw417_1; first | rwa [add_block] at this | exact this) GW425.out)) | (dsimp only; exact Nat.ne_of_lt (Nat.lt_of_lt_of_le (by have := World.block_lt_of_cell? _ _ hw417_1; first | rwa [add_block] at this | exact this) GW425.out))) _).trans (((cell_far (p := ⟨gb425, _, none⟩) (by first | exact Nat.ne_of_lt (Nat.lt_of_lt_of_le (by have := World.block_lt_of_cell? _ _ hw417_1; first | rwa [add_block] at this | exact this) GW425.out) | (rw [add_block]; exact Nat.ne_of_lt (Nat.lt_of_lt_of_le (by have := World.block_lt_of_cell? _ _ hw417_1; first | rwa [add_block] at this | exact this) GW425.out)) | (show (Addr.add _ _).block ≠ _; rw [add_block]; exact Nat.ne_of_lt (Nat.lt_of_lt_of_le (by have := World.block_lt_of_cell? _ _ hw417_1; first | rwa [add_block] at this | exact this) GW425.out)) | (dsimp only; exact Nat.ne_of_lt (Nat.lt_of_lt_of_le (by have := World.block_lt_of_cell? _ _ hw417_1; first | rwa [add_block] at this | exact this) GW425.out))) _).trans (hHeld.2.2.2.2.2.1)))))))), ((cell_far (p := ⟨gb425, _, none⟩) (by first | exact Nat.ne_of_lt (Nat.lt_of_lt_of_le (by have := World.block_lt_of_cell? _ _ hw417_2; first | rwa [add_block] at this | exact this) GW425.out) | (rw [add_block]; exact Nat.ne_of_lt (Nat.lt_of_lt_of_le (by have := World.block_lt_of_cell? _ _ hw417_2; first | rwa [add_block] at this | exact this) GW425.out)) | (show (Addr.add _ _).block ≠ _; rw [add_block]; exact Nat.ne_of_lt (Nat.lt_of_lt_of_le (by have := World.block_lt_of_cell? _ _ hw417_2; first | rwa [add_block] at this | exact this) GW425.out)) | (dsimp only; exact Nat.ne_of_lt (Nat.lt_of_lt_of_le (by have := World.block_lt_of_cell? _ _ hw417_2; first | rwa [add_block] at this | exact this) GW425.out))) _).trans (((cell_far (p := ⟨gb425, _, none⟩) (by first | exact Nat.ne_of_lt (Nat.lt_of_lt_of_le (by have := World.block_lt_of_cell? _ _ hw417_2; first | rwa [add_block] at this | exact this) GW425.out) | (rw [add_block]; exact Nat.ne_of_lt (Nat.lt_of_lt_of_le (by have := World.block_lt_of_cell? _ _ hw417_2; first | rwa [add_block] at this | exact this) GW425.out)) | (show (Addr.add _ _).block ≠ _; rw [add_block]; exact Nat.ne_of_lt (Nat.lt_of_lt_of_le (by have := World.block_lt_of_cell? _ _ hw417_2; first | rwa [add_block] at this | exact this) GW425.out)) | (dsimp only; exact Nat.ne_of_lt (Nat.lt_of_lt_of_le (by have := World.block_lt_of_cell? _ _ hw417_2; first | rwa [add_block] at this | exact this) GW425.out))) _).trans (((cell_far (p := ⟨gb425, _, none⟩) (by first | exact Nat.ne_of_lt (Nat.lt_of_lt_of_le (by have := World.block_lt_of_cell? _ _ hw417_2; first | rwa [add_block] at this | exact this) GW425.out) | (rw [add_block]; exact Nat.ne_of_lt (Nat.lt_of_lt_of_le (by have := World.block_lt_of_cell? _ _ hw417_2; first | rwa [add_block] at this | exact this) GW425.out)) | (show (Addr.add _ _).block ≠ _; rw [add_block]; exact Nat.ne_of_lt (Nat.lt_of_lt_of_le (by have := World.block_lt_of_cell? _ _ hw417_2; first | rwa [add_block] at this | exact this) GW425.out)) | (dsimp only; exact Nat.ne_of_lt (Nat.lt_of_lt_of_le (by have := World.block_lt_of_cell? _ _ hw417_2; first | rwa [add_block] at this | exact this) GW425.out))) _).trans (((cell_far (p := ⟨gb425, _, none⟩) (by first | exact Nat.ne_of_lt (Nat.lt_of_lt_of_le (by have := World.block_lt_of_cell? _ _ hw417_2; first | rwa [add_block] at this | exact this) GW425.out) | (rw [add_block]; exact Nat.ne_of_lt (Nat.lt_of_lt_of_le (by have := World.block_lt_of_cell? _ _ hw417_2; first | rwa [add_block] at this | exact this) GW425.out)) | (show (Addr.add _ _).block ≠ _; rw [add_block]; exact Nat.ne_of_lt (Nat.lt_of_lt_of_le (by have := World.block_lt_of_cell? _ _ hw417_2; first | rwa [add_block] at this | exact this) GW425.out)) | (dsimp only; exact Nat.ne_of_lt (Nat.lt_of_lt_of_le (by have := World.block_lt_of_cell? _ _ hw417_2; first | rwa [add_block] at this | exact this) GW425.out))) _).trans (hHeld.2.2.2.2.2.2))))))))⟩ (fun hHeld => ?_)
                      clear hK K
                      refine pure_ (i := 11) (N := some 8) (v := ?_) (a' := ?_) #[true, true, true, true, true, true, true, true, true, true, true, true] rfl rfl (any_of HT_.out (by kernel_rfl)) (fun _ _ _ h => h) (Or.inl ⟨by rfl, ?_⟩) ?_ ?_
                      rotate_left
                      · intro w'
                        go_simp
                        with_reducible rfl
                      rotate_left
                      · simp only [Act.put, List.setIfInBounds_toArray, List.set_cons_zero, List.set_cons_succ, i64_w, i32_w]
                        rfl
                      refine done_ (done_of HT_.out (by kernel_rfl)) ?_
                      have hnb75 := NB425_416.out
                      have hnc75 := NB416_425.out
                      have hcz76_0 : w69.cell? ⟨gb425, 0, none⟩ = some (.int .i64 0) := (blk_cell BK425.out 0).trans rfl
                      have hcz76_1 : w69.cell? ⟨gb425, 1, none⟩ = some (.int .i64 0) := (blk_cell BK425.out 1).trans rfl
                      have hcz76_2 : w69.cell? ⟨gb425, 2, none⟩ = some (.int .i64 0) := (blk_cell BK425.out 2).trans rfl
                      have hcz76_3 : w69.cell? ⟨gb425, 3, none⟩ = some (.slice none 0 0) := (blk_cell BK425.out 3).trans rfl
                      have hfz76_0 := blk_frozen BK425.out 0
                      have hfz76_1 := blk_frozen BK425.out 1
                      have hfz76_2 := blk_frozen BK425.out 2
                      have hfz76_3 := blk_frozen BK425.out 3
                      try go_wp2_with (first | ((with_reducible refine gate_callee (f := 17) rfl ?_); refine goesL_ (some 36) rfl rfl Try.func17 (by kernel_rfl) rfl #[.agg #[.int .i64 t418, .int .i64 t419, .int .i64 t420, .slice Ao73 t421.length co73], .agg #[.int .i64 0, .int .i64 0, .int .i64 0, .slice none 0 0]] rfl (by (try simp only [List.map_toArray, List.map_cons, List.map_nil]); first | done | rfl | (simp only [List.length_drop, List.length_take]; rfl)) ?_; (refine (examboardlaw54_same.calls kj7 t418 t419 t420 _ _ t421 0 0 0 _ _ ([] : List (S30)) true _ ?side1 ?side2 ?side3 ?side4 A63.out).mono ?_); (case side1 => refine (Kd.R_reads' (e := 30) (base := w.heap.size) (ok := fun k_ => some k_ ≠ (.slice Ao65 x417003_1.length co65 : Value).ownBlock) (n := t421.length) (c := co73) ?_).2.2; exact (by (with_reducible repeat (first | apply Kd.R_alloc | apply Kd.R_drewN | apply Kd.R_drew)); exact (Kd.R_mono (Kd.R_far (p := ⟨gb425, 3, none⟩) (Kd.R_far (p := ⟨gb425, 2, none⟩) (Kd.R_far (p := ⟨gb425, 1, none⟩) (Kd.R_far (p := ⟨gb425, 0, none⟩) (Kd.R_types HO423.out BK425.out (by decide)) (fun _ hk => hk.2) (.int .i64 t418)) (fun _ hk => hk.2) (.int .i64 t419)) (fun _ hk => hk.2) (.int .i64 t420)) (fun _ hk => hk.2) (.slice Ao73 t421.length co73)) (fun _ h_ => h_.1)))); (case side2 => exact (Kd.R_reads' HO423.out).2.1); (case side3 => exact Kd.C_nil _ _); (case side4 => exact Nat.le_refl _); rintro e w77 ⟨rfl, hb⟩; refine ⟨_, rfl, ?_⟩; have n0_ := Aside0.mk (Kd.R_below (by (with_reducible repeat (first | apply Kd.R_alloc | apply Kd.R_drewN | apply Kd.R_drew)); exact (Kd.R_mono (Kd.R_far (p := ⟨gb425, 3, none⟩) (Kd.R_far (p := ⟨gb425, 2, none⟩) (Kd.R_far (p := ⟨gb425, 1, none⟩) (Kd.R_far (p := ⟨gb425, 0, none⟩) (Kd.R_types HO_417003.out BK425.out (by decide)) (fun _ hk => hk.2) (.int .i64 t418)) (fun _ hk => hk.2) (.int .i64 t419)) (fun _ hk => hk.2) (.int .i64 t420)) (fun _ hk => hk.2) (.slice Ao73 t421.length co73)) (fun _ h_ => h_.1))) hb); have n1_ := Aside0.mk (Kd.R_below (by (with_reducible repeat (first | apply Kd.R_alloc | apply Kd.R_drewN | apply Kd.R_drew)); exact (Kd.R_mono (Kd.R_far (p := ⟨gb425, 3, none⟩) (Kd.R_far (p := ⟨gb425, 2, none⟩) (Kd.R_far (p := ⟨gb425, 1, none⟩) (Kd.R_far (p := ⟨gb425, 0, none⟩) (Kd.R_types HO423.out BK425.out (by decide)) (fun _ hk => hk.2) (.int .i64 t418)) (fun _ hk => hk.2) (.int .i64 t419)) (fun _ hk => hk.2) (.int .i64 t420)) (fun _ hk => hk.2) (.slice Ao73 t421.length co73)) (fun _ h_ => h_.1))) hb); have n2_ := Aside0.mk (blk_below (g := gb416) (o := .cells #[.int .i64 x417000_1, .int .i64 x417001_1, .int .i64 x417002_1, .slice Ao65 x417003_1.length co65] 24 (0, 0)) (by (with_reducible repeat (first | refine blk_drewN ?_ _ | refine blk_drew ?_ | refine blk_alloc ?_ _)); refine blk_far ?_ NB416_425.out _; (with_reducible repeat (first | refine blk_drewN ?_ _ | refine blk_drew ?_ | refine blk_alloc ?_ _)); refine blk_far ?_ NB416_425.out _; (with_reducible repeat (first | refine blk_drewN ?_ _ | refine blk_drew ?_ | refine blk_alloc ?_ _)); refine blk_far ?_ NB416_425.out _; (with_reducible repeat (first | refine blk_drewN ?_ _ | refine blk_drew ?_ | refine blk_alloc ?_ _)); refine blk_far ?_ NB416_425.out _; (with_reducible repeat (first | refine blk_drewN ?_ _ | refine blk_drew ?_ | refine blk_alloc ?_ _)); exact BK416.out) hb); have n3_ := Aside0.mk (blk_below (g := gb425) (o := .cells #[.int .i64 t418, .int .i64 t419, .int .i64 t420, .slice Ao73 t421.length co73] 24 (0, 0)) (by (with_reducible repeat (first | refine blk_drewN ?_ _ | refine blk_drew ?_ | refine blk_alloc ?_ _)); refine blk_put (cs := #[.int .i64 t418, .int .i64 t419, .int .i64 t420, .slice none 0 0]) ?_ 3 _ rfl; (with_reducible repeat (first | refine blk_drewN ?_ _ | refine blk_drew ?_ | refine blk_alloc ?_ _)); refine blk_put (cs := #[.int .i64 t418, .int .i64 t419, .int .i64 0, .slice none 0 0]) ?_ 2 _ rfl; (with_reducible repeat (first | refine blk_drewN ?_ _ | refine blk_drew ?_ | refine blk_alloc ?_ _)); refine blk_put (cs := #[.int .i64 t418, .int .i64 0, .int .i64 0, .slice none 0 0]) ?_ 1 _ rfl; (with_reducible repeat (first | refine blk_drewN ?_ _ | refine blk_drew ?_ | refine blk_alloc ?_ _)); refine blk_put (cs := #[.int .i64 0, .int .i64 0, .int .i64 0, .slice none 0 0]) ?_ 0 _ rfl; (with_reducible repeat (first | refine blk_drewN ?_ _ | refine blk_drew ?_ | refine blk_alloc ?_ _)); exact BK425.out) hb); have n4_ := Aside0.mk (below_step (by repeat (first | (with_reducible first | exact HB.out | apply below_alloc | apply pw_below_drewN | apply below_drew1 | refine below_set ?_ GE416.out | refine below_set ?_ GE425.out) | exact HB.out)) hb); clear HO_417003; clear HO423; clear BK416; clear BK425; clear HB; have HO_417003 := n0_; have HO423 := n1_; have BK416 := n2_; have BK425 := n3_; have HB := n4_; clear n0_ n1_ n2_ n3_ n4_; (try clear hb); (try clear hb2); (try clear hk); (try clear hi)))
                      go_roundg kj7
                      case measure => have := HK1.out; have := HJ7.out; omega
                      case rel => exact ⟨(x4_1), (x5_1), (wrap64 (x6_1 + 1)), (x417000_1), (x417001_1), (x417002_1), (x417003_1), (.slice Ao65 x417003_1.length co65), (by first | rfl | (simp; done) | (simp [*]; done)), (by first | rfl | (simp; done) | (simp [*]; done)), (by first | rfl | (simp; done) | (simp [*]; done)), H', ⟨by have := HK1.out; have := HJ7.out; omega⟩, ⟨by (with_reducible repeat (first | apply Kd.R_alloc | apply Kd.R_drewN | apply Kd.R_drew)); exact Kd.R_mono HO_417003.out (fun _ hk => trivial)⟩, ⟨by (with_reducible repeat (first | refine blk_drewN ?_ _ | refine blk_drew ?_ | refine blk_alloc ?_ _)); exact BK416.out⟩, ⟨by repeat (first | (with_reducible first | exact HB.out | apply below_alloc | apply pw_below_drewN | apply below_drew1 | refine below_set ?_ GE416.out | refine below_set ?_ GE425.out) | exact HB.out)⟩⟩
                    · replace c64 := Bool.eq_false_iff.mpr c64
                      subst c64
                      have H1 : (none) = some r := by rw [if_neg (show ¬ (false = true) by decide)] at H; exact H
                      clear H
                      have H := H1
                      clear H1
                      exact absurd H (by simp)
                · rw [if_neg c12] at H
                  exact absurd H (by simp)
              · rw [if_neg c11] at H
                exact absurd H (by simp)
            · replace c10 := Bool.eq_false_iff.mpr c10
              subst c10
              have H1 : (some true) = some r := by rw [if_neg (show ¬ (false = true) by decide)] at H; exact H
              clear H
              have H := H1
              clear H1
              obtain rfl := Option.some.inj H
              go_wp2
              go_ret
              exact ⟨by first | rfl | (simp [errW_none, errW_some] <;> rfl) | (simp [*, errW_none, errW_some] <;> rfl), by repeat (first | (with_reducible first | exact HB.out | apply below_alloc | apply pw_below_drewN | apply below_drew1 | refine below_set ?_ GE416.out) | exact HB.out)⟩
  · rw [if_neg c3] at H
    exact absurd H (by simp)

end Go.Proofs.Ytgeplglggcoaiaa.Hold
