/- Lean functions and walks for Go functions of this seat, written by this claim's own program (wip/tools/xprint.py) over the kit's print. -/
import Derived.Test.YtgeplglggcoaiaaAssetx0
import Derived.Test.YtgeplglggcoaiaaAssetx2
import Derived.Test.YtgeplglggcoaiaaAssetx5
import Derived.Test.YtgeplglggcoaiaaAssetx14
namespace Go.Proofs.Ytgeplglggcoaiaa.Asset
open Go.RowKit Go.Sort Go.Proofs.YtgeplglggcoaiaaW.PrintWords Go.Proofs.YtgeplglggcoaiaaW.PrintLast Go.Proofs.YtgeplglggcoaiaaW.PrintMore
attribute [local go_sem] max2_int min2_int max_two min_two max_three min_three max_four min_four   -- for this text's walks alone
set_option linter.unusedVariables false
set_option linter.unusedSimpArgs false

/-! ### examboardlaw17_AssetRights: function 11 -/
mutual
def examboardlaw17_AssetRights.j0 : Nat → Int → Int → Int → Bool → Int → Int → ByteArray → Int → Int → Option (Bool)
  | 0, _, _, _, _, _, _, _, _, _ => none
  | k + 1, x1, x2, x3, x58, x379000, x379001, x379002, x379003, x379004 => if x58 = true then (none) else ((asset_Usable.f k x379000 x379001 x379002 x379003 x379004 x1).bind fun t387 => (if t387 = 0 then ((asset_Usable.f k x379000 x379001 x379002 x379003 x379004 x3).bind fun t388 => (if t388 = 0 then (if x1 ≤ x2 then (if x2 ≤ x3 then ((asset_Usable.f k x379000 x379001 x379002 x379003 x379004 x2).bind fun t389 => (examboardlaw17_AssetRights.j1 k x2 (t389 != 0) x379000 x379001 x379002 x379003 x379004)) else (examboardlaw17_AssetRights.j1 k x2 false x379000 x379001 x379002 x379003 x379004)) else (examboardlaw17_AssetRights.j1 k x2 false x379000 x379001 x379002 x379003 x379004)) else (examboardlaw17_AssetRights.j1 k x2 false x379000 x379001 x379002 x379003 x379004))) else (examboardlaw17_AssetRights.j1 k x2 false x379000 x379001 x379002 x379003 x379004)))
def examboardlaw17_AssetRights.j1 : Nat → Int → Bool → Int → Int → ByteArray → Int → Int → Option (Bool)
  | 0, _, _, _, _, _, _, _ => none
  | k + 1, x2, x84, x379000, x379001, x379002, x379003, x379004 => if x84 = true then (none) else ((asset_Usable.f k x379000 x379001 x379002 x379003 x379004 x2).bind fun t390 => (if t390 = 0 then ((examboardlaw17_awake.f k).bind fun t391 => (some t391)) else (if t390 = 17 then ((examboardlaw17_awake.f k).bind fun t392 => (some t392)) else (none))))
end
def examboardlaw17_AssetRights.f (k : Nat) (a0_0 : Int) (a0_1 : Int) (a0_2 : ByteArray) (a0_3 : Int) (a0_4 : Int) (a1 : Int) (a2 : Int) (a3 : Int) : Option (Bool) := (asset_Valid.f k a0_0 a0_1 a0_2 a0_3 a0_4).bind fun t379 => (if t379 = 0 then ((asset_Usable.f k a0_0 a0_1 a0_2 a0_3 a0_4 a0_3).bind fun t383 => (if t383 = 0 then ((asset_Usable.f k a0_0 a0_1 a0_2 a0_3 a0_4 a0_4).bind fun t384 => (if t384 = 0 then ((asset_Usable.f k a0_0 a0_1 a0_2 a0_3 a0_4 (wrap64 (a0_3 - 1))).bind fun t385 => (if t385 = 17 then ((asset_Usable.f k a0_0 a0_1 a0_2 a0_3 a0_4 (wrap64 (a0_4 + 1))).bind fun t386 => (examboardlaw17_AssetRights.j0 k a1 a2 a3 (t386 != 17) a0_0 a0_1 a0_2 a0_3 a0_4)) else (examboardlaw17_AssetRights.j0 k a1 a2 a3 true a0_0 a0_1 a0_2 a0_3 a0_4))) else (examboardlaw17_AssetRights.j0 k a1 a2 a3 true a0_0 a0_1 a0_2 a0_3 a0_4))) else (examboardlaw17_AssetRights.j0 k a1 a2 a3 true a0_0 a0_1 a0_2 a0_3 a0_4))) else ((asset_Usable.f k a0_0 a0_1 a0_2 a0_3 a0_4 a2).bind fun t380 => (if t380 = t379 then ((asset_Usable.f k a0_0 a0_1 a0_2 a0_3 a0_4 a0_3).bind fun t381 => (if t381 = t379 then ((examboardlaw17_awake.f k).bind fun t382 => (some t382)) else (none))) else (none))))
theorem examboardlaw17_AssetRights.mono_l : ∀ k, (∀ y0 y1 y2 y3 y4 y5 y6 y7 y8, LeO (examboardlaw17_AssetRights.j0 k y0 y1 y2 y3 y4 y5 y6 y7 y8) (examboardlaw17_AssetRights.j0 (k + 1) y0 y1 y2 y3 y4 y5 y6 y7 y8)) ∧ (∀ y0 y1 y2 y3 y4 y5 y6, LeO (examboardlaw17_AssetRights.j1 k y0 y1 y2 y3 y4 y5 y6) (examboardlaw17_AssetRights.j1 (k + 1) y0 y1 y2 y3 y4 y5 y6))
  | 0 => ⟨fun _ _ _ _ _ _ _ _ _ r h => by simp [examboardlaw17_AssetRights.j0] at h, fun _ _ _ _ _ _ _ r h => by simp [examboardlaw17_AssetRights.j1] at h⟩
  | k + 1 => by
    obtain ⟨ih0, ih1⟩ := examboardlaw17_AssetRights.mono_l k
    refine ⟨?_, ?_⟩
    · intro y0 y1 y2 y3 y4 y5 y6 y7 y8
      unfold examboardlaw17_AssetRights.j0
      repeat' first
      | (with_reducible exact ih0 _ _ _ _ _ _ _ _ _)
      | (with_reducible exact ih1 _ _ _ _ _ _ _)
      | (with_reducible exact asset_Usable.mono _ _ _ _ _ _ _)
      | (with_reducible exact asset_Valid.mono _ _ _ _ _ _)
      | (with_reducible exact examboardlaw17_awake.mono _)
      | (with_reducible exact LeO.refl _)
      | (with_reducible exact LeO.none _)
      | (with_reducible refine LeO.ite ?_ ?_)
      | (with_reducible refine LeO.bind ?_ (fun _ => ?_))
      | exact ih0 _ _ _ _ _ _ _ _ _
      | exact ih1 _ _ _ _ _ _ _
      | exact asset_Usable.mono _ _ _ _ _ _ _
      | exact asset_Valid.mono _ _ _ _ _ _
      | exact examboardlaw17_awake.mono _
      | exact LeO.none _
      | refine LeO.ite ?_ ?_
      | refine LeO.bind ?_ (fun _ => ?_)
    · intro y0 y1 y2 y3 y4 y5 y6
      unfold examboardlaw17_AssetRights.j1
      repeat' first
      | (with_reducible exact ih0 _ _ _ _ _ _ _ _ _)
      | (with_reducible exact ih1 _ _ _ _ _ _ _)
      | (with_reducible exact asset_Usable.mono _ _ _ _ _ _ _)
      | (with_reducible exact asset_Valid.mono _ _ _ _ _ _)
      | (with_reducible exact examboardlaw17_awake.mono _)
      | (with_reducible exact LeO.refl _)
      | (with_reducible exact LeO.none _)
      | (with_reducible refine LeO.ite ?_ ?_)
      | (with_reducible refine LeO.bind ?_ (fun _ => ?_))
      | exact ih0 _ _ _ _ _ _ _ _ _
      | exact ih1 _ _ _ _ _ _ _
      | exact asset_Usable.mono _ _ _ _ _ _ _
      | exact asset_Valid.mono _ _ _ _ _ _
      | exact examboardlaw17_awake.mono _
      | exact LeO.none _
      | refine LeO.ite ?_ ?_
      | refine LeO.bind ?_ (fun _ => ?_)
theorem examboardlaw17_AssetRights.mono : ∀ a0 a1 a2 a3 a4 a5 a6 a7 k, LeO (examboardlaw17_AssetRights.f k a0 a1 a2 a3 a4 a5 a6 a7) (examboardlaw17_AssetRights.f (k + 1) a0 a1 a2 a3 a4 a5 a6 a7) := by
  intro a0 a1 a2 a3 a4 a5 a6 a7 k
  obtain ⟨ih0, ih1⟩ := examboardlaw17_AssetRights.mono_l k
  unfold examboardlaw17_AssetRights.f
  repeat' first
      | (with_reducible exact ih0 _ _ _ _ _ _ _ _ _)
      | (with_reducible exact ih1 _ _ _ _ _ _ _)
      | (with_reducible exact asset_Usable.mono _ _ _ _ _ _ _)
      | (with_reducible exact asset_Valid.mono _ _ _ _ _ _)
      | (with_reducible exact examboardlaw17_awake.mono _)
      | (with_reducible exact LeO.refl _)
      | (with_reducible exact LeO.none _)
      | (with_reducible refine LeO.ite ?_ ?_)
      | (with_reducible refine LeO.bind ?_ (fun _ => ?_))
      | exact ih0 _ _ _ _ _ _ _ _ _
      | exact ih1 _ _ _ _ _ _ _
      | exact asset_Usable.mono _ _ _ _ _ _ _
      | exact asset_Valid.mono _ _ _ _ _ _
      | exact examboardlaw17_awake.mono _
      | exact LeO.none _
      | refine LeO.ite ?_ ?_
      | refine LeO.bind ?_ (fun _ => ?_)
set_option maxHeartbeats 8000000 in
set_option maxRecDepth 100000 in
theorem examboardlaw17_AssetRights.calls (k : Nat) (a0_0 : Int) (a0_1 : Int) (a0_2 : ByteArray) (a0_3 : Int) (a0_4 : Int) (a1 : Int) (a2 : Int) (a3 : Int) (r : Bool) (w : World) (h : examboardlaw17_AssetRights.f k a0_0 a0_1 a0_2 a0_3 a0_4 a1 a2 a3 = some r) :
    Calls Try.prog 11 #[.agg #[.int .i64 a0_0, .int .i64 a0_1, .string a0_2, .int .i64 a0_3, .int .i64 a0_4], .int .i64 a1, .int .i64 a2, .int .i64 a3] w fun e w' => e = .returned (.bool r) ∧ Below w.heap.size w w' := by
  have hu39 := Try.underlying39
  have HB := Aside0.mk (Below.refl w.heap.size w)
  have H : ((asset_Valid.f k a0_0 a0_1 a0_2 a0_3 a0_4).bind fun t379 => (if t379 = 0 then ((asset_Usable.f k a0_0 a0_1 a0_2 a0_3 a0_4 a0_3).bind fun t383 => (if t383 = 0 then ((asset_Usable.f k a0_0 a0_1 a0_2 a0_3 a0_4 a0_4).bind fun t384 => (if t384 = 0 then ((asset_Usable.f k a0_0 a0_1 a0_2 a0_3 a0_4 (wrap64 (a0_3 - 1))).bind fun t385 => (if t385 = 17 then ((asset_Usable.f k a0_0 a0_1 a0_2 a0_3 a0_4 (wrap64 (a0_4 + 1))).bind fun t386 => (examboardlaw17_AssetRights.j0 k a1 a2 a3 (t386 != 17) a0_0 a0_1 a0_2 a0_3 a0_4)) else (examboardlaw17_AssetRights.j0 k a1 a2 a3 true a0_0 a0_1 a0_2 a0_3 a0_4))) else (examboardlaw17_AssetRights.j0 k a1 a2 a3 true a0_0 a0_1 a0_2 a0_3 a0_4))) else (examboardlaw17_AssetRights.j0 k a1 a2 a3 true a0_0 a0_1 a0_2 a0_3 a0_4))) else ((asset_Usable.f k a0_0 a0_1 a0_2 a0_3 a0_4 a2).bind fun t380 => (if t380 = t379 then ((asset_Usable.f k a0_0 a0_1 a0_2 a0_3 a0_4 a0_3).bind fun t381 => (if t381 = t379 then ((examboardlaw17_awake.f k).bind fun t382 => (some t382)) else (none))) else (none))))) = some r := h
  clear h
  replace H := Option.bind_eq_some_iff.mp H
  obtain ⟨t379, A50, H⟩ := H
  replace H : (if t379 = 0 then ((asset_Usable.f k a0_0 a0_1 a0_2 a0_3 a0_4 a0_3).bind fun t383 => (if t383 = 0 then ((asset_Usable.f k a0_0 a0_1 a0_2 a0_3 a0_4 a0_4).bind fun t384 => (if t384 = 0 then ((asset_Usable.f k a0_0 a0_1 a0_2 a0_3 a0_4 (wrap64 (a0_3 - 1))).bind fun t385 => (if t385 = 17 then ((asset_Usable.f k a0_0 a0_1 a0_2 a0_3 a0_4 (wrap64 (a0_4 + 1))).bind fun t386 => (examboardlaw17_AssetRights.j0 k a1 a2 a3 (t386 != 17) a0_0 a0_1 a0_2 a0_3 a0_4)) else (examboardlaw17_AssetRights.j0 k a1 a2 a3 true a0_0 a0_1 a0_2 a0_3 a0_4))) else (examboardlaw17_AssetRights.j0 k a1 a2 a3 true a0_0 a0_1 a0_2 a0_3 a0_4))) else (examboardlaw17_AssetRights.j0 k a1 a2 a3 true a0_0 a0_1 a0_2 a0_3 a0_4))) else ((asset_Usable.f k a0_0 a0_1 a0_2 a0_3 a0_4 a2).bind fun t380 => (if t380 = t379 then ((asset_Usable.f k a0_0 a0_1 a0_2 a0_3 a0_4 a0_3).bind fun t381 => (if t381 = t379 then ((examboardlaw17_awake.f k).bind fun t382 => (some t382)) else (none))) else (none)))) = some r := H
  have A5 := Aside0.mk A50
  clear A50
  by_cases c6 : t379 = 0
  · rw [if_pos c6] at H
    have c6b0 : (t379 == 0) = true := beq_iff_eq.mpr c6
    have c6b1 : (t379 != 0) = false := bne_eq_false_iff_eq.mpr c6
    clear c6
    have HC7 := Aside0.mk H
    clear H
    go_enter Try.func11, Try.ntmps11
    go_upto_region 4 with (first | ((with_reducible refine gate_dst (N := 4) rfl ?_); refine box_event ?hg (N := 4) ?hd (cs := #[.int .i64 a0_0, .int .i64 a0_1, .string a0_2, .int .i64 a0_3, .int .i64 a0_4]) (t := 39) ?hr ?_; (case hd => rfl); (case hg => rfl); (case hr => first | (go_simp; done) | (go_simp; rfl)); intro gb378 hg w8 hbox hb; have n0_ := Aside0.mk (below_step (by repeat (first | (with_reducible first | exact HB.out | apply below_alloc | apply pw_below_drewN | apply below_drew1) | exact HB.out)) hb); have n1_ := Aside0.mk (hbox); have n2_ := Aside0.mk ((by rw [hg]; exact (below_size (by repeat (first | (with_reducible first | exact HB.out | apply below_alloc | apply pw_below_drewN | apply below_drew1) | exact HB.out))) : w.heap.size ≤ gb378)); have n3_ := Aside0.mk ((by rw [hg]; exact (below_size (by repeat (first | (with_reducible first | exact HB.out | apply below_alloc | apply pw_below_drewN | apply below_drew1) | exact HB.out))) : w.heap.size ≤ gb378)); clear HB; have HB := n0_; have BK378 := n1_; have GW378 := n2_; have GE378 := n3_; clear n0_ n1_ n2_ n3_; clear hb hbox hg; have hcz9_0 : w8.cell? ⟨gb378, 0, none⟩ = some (.int .i64 a0_0) := (blk_cell BK378.out 0).trans rfl; have hcz9_1 : w8.cell? ⟨gb378, 1, none⟩ = some (.int .i64 a0_1) := (blk_cell BK378.out 1).trans rfl; have hcz9_2 : w8.cell? ⟨gb378, 2, none⟩ = some (.string a0_2) := (blk_cell BK378.out 2).trans rfl; have hcz9_3 : w8.cell? ⟨gb378, 3, none⟩ = some (.int .i64 a0_3) := (blk_cell BK378.out 3).trans rfl; have hcz9_4 : w8.cell? ⟨gb378, 4, none⟩ = some (.int .i64 a0_4) := (blk_cell BK378.out 4).trans rfl; have hfz9_0 := blk_frozen BK378.out 0; have hfz9_1 := blk_frozen BK378.out 1; have hfz9_2 := blk_frozen BK378.out 2; have hfz9_3 := blk_frozen BK378.out 3; have hfz9_4 := blk_frozen BK378.out 4) | ((with_reducible refine gate_callee (f := 27) rfl ?_); refine goesL_ (some 12) rfl rfl Try.func27 (by kernel_rfl) rfl #[.agg #[.int .i64 a0_0, .int .i64 a0_1, .string a0_2, .int .i64 a0_3, .int .i64 a0_4]] rfl (by (try simp only [List.map_toArray, List.map_cons, List.map_nil]); first | done | rfl | (simp only [List.length_drop, List.length_take]; rfl)) ?_; (with_reducible refine (asset_Valid.calls k a0_0 a0_1 a0_2 a0_3 a0_4 t379 _ A5.out).mono ?_); rintro e w10 ⟨rfl, hb⟩; refine ⟨_, rfl, ?_⟩; have n0_ := Aside0.mk (blk_below (g := gb378) (o := .cells #[.int .i64 a0_0, .int .i64 a0_1, .string a0_2, .int .i64 a0_3, .int .i64 a0_4] 39 (0, 0)) (by (with_reducible repeat (first | refine blk_drewN ?_ _ | refine blk_drew ?_ | refine blk_alloc ?_ _)); exact BK378.out) hb); have n1_ := Aside0.mk (below_step (by repeat (first | (with_reducible first | exact HB.out | apply below_alloc | apply pw_below_drewN | apply below_drew1 | refine below_set ?_ GE378.out) | exact HB.out)) hb); clear BK378; clear HB; have BK378 := n0_; have HB := n1_; clear n0_ n1_; (try clear hb); (try clear hb2); (try clear hk); (try clear hi)))
    (try simp only [Act.put, List.setIfInBounds_toArray, List.set_cons_zero, List.set_cons_succ])
    go_cut [58] (fun v58 wc => ∃ (kq : Nat) (x58_6 : Bool), v58 = .bool x58_6 ∧ Aside0 (examboardlaw17_AssetRights.j0 kq a1 a2 a3 x58_6 a0_0 a0_1 a0_2 a0_3 a0_4 = some r) ∧ Aside0 (kq ≤ k) ∧ Aside0 (wc.heap[gb378]? = some (.cells #[.int .i64 a0_0, .int .i64 a0_1, .string a0_2, .int .i64 a0_3, .int .i64 a0_4] 39 (0, 0))) ∧ Aside0 (Below w.heap.size w wc))
    case first =>
      have H := HC7.out
      clear HC7
      replace H := Option.bind_eq_some_iff.mp H
      obtain ⟨t383, A110, H⟩ := H
      replace H : (if t383 = 0 then ((asset_Usable.f k a0_0 a0_1 a0_2 a0_3 a0_4 a0_4).bind fun t384 => (if t384 = 0 then ((asset_Usable.f k a0_0 a0_1 a0_2 a0_3 a0_4 (wrap64 (a0_3 - 1))).bind fun t385 => (if t385 = 17 then ((asset_Usable.f k a0_0 a0_1 a0_2 a0_3 a0_4 (wrap64 (a0_4 + 1))).bind fun t386 => (examboardlaw17_AssetRights.j0 k a1 a2 a3 (t386 != 17) a0_0 a0_1 a0_2 a0_3 a0_4)) else (examboardlaw17_AssetRights.j0 k a1 a2 a3 true a0_0 a0_1 a0_2 a0_3 a0_4))) else (examboardlaw17_AssetRights.j0 k a1 a2 a3 true a0_0 a0_1 a0_2 a0_3 a0_4))) else (examboardlaw17_AssetRights.j0 k a1 a2 a3 true a0_0 a0_1 a0_2 a0_3 a0_4)) = some r := H
      have A11 := Aside0.mk A110
      clear A110
      by_cases c12 : t383 = 0
      · rw [if_pos c12] at H
        have c12b0 : (t383 == 0) = true := beq_iff_eq.mpr c12
        have c12b1 : (t383 != 0) = false := bne_eq_false_iff_eq.mpr c12
        clear c12
        (first | rw [c12b0] | (simp only [i64_w, i32_w]; rw [c12b0]) | skip)
        replace H := Option.bind_eq_some_iff.mp H
        obtain ⟨t384, A130, H⟩ := H
        replace H : (if t384 = 0 then ((asset_Usable.f k a0_0 a0_1 a0_2 a0_3 a0_4 (wrap64 (a0_3 - 1))).bind fun t385 => (if t385 = 17 then ((asset_Usable.f k a0_0 a0_1 a0_2 a0_3 a0_4 (wrap64 (a0_4 + 1))).bind fun t386 => (examboardlaw17_AssetRights.j0 k a1 a2 a3 (t386 != 17) a0_0 a0_1 a0_2 a0_3 a0_4)) else (examboardlaw17_AssetRights.j0 k a1 a2 a3 true a0_0 a0_1 a0_2 a0_3 a0_4))) else (examboardlaw17_AssetRights.j0 k a1 a2 a3 true a0_0 a0_1 a0_2 a0_3 a0_4)) = some r := H
        have A13 := Aside0.mk A130
        clear A130
        by_cases c14 : t384 = 0
        · rw [if_pos c14] at H
          have c14b0 : (t384 == 0) = true := beq_iff_eq.mpr c14
          have c14b1 : (t384 != 0) = false := bne_eq_false_iff_eq.mpr c14
          clear c14
          replace H := Option.bind_eq_some_iff.mp H
          obtain ⟨t385, A150, H⟩ := H
          replace H : (if t385 = 17 then ((asset_Usable.f k a0_0 a0_1 a0_2 a0_3 a0_4 (wrap64 (a0_4 + 1))).bind fun t386 => (examboardlaw17_AssetRights.j0 k a1 a2 a3 (t386 != 17) a0_0 a0_1 a0_2 a0_3 a0_4)) else (examboardlaw17_AssetRights.j0 k a1 a2 a3 true a0_0 a0_1 a0_2 a0_3 a0_4)) = some r := H
          have A15 := Aside0.mk A150
          clear A150
          by_cases c16 : t385 = 17
          · rw [if_pos c16] at H
            have c16b0 : (t385 == 17) = true := beq_iff_eq.mpr c16
            have c16b1 : (t385 != 17) = false := bne_eq_false_iff_eq.mpr c16
            clear c16
            replace H := Option.bind_eq_some_iff.mp H
            obtain ⟨t386, A170, H⟩ := H
            replace H : (examboardlaw17_AssetRights.j0 k a1 a2 a3 (t386 != 17) a0_0 a0_1 a0_2 a0_3 a0_4) = some r := H
            have A17 := Aside0.mk A170
            clear A170
            have H' := Aside0.mk H
            clear H
            have hcz18_0 : w10.cell? ⟨gb378, 0, none⟩ = some (.int .i64 a0_0) := (blk_cell BK378.out 0).trans rfl
            have hcz18_1 : w10.cell? ⟨gb378, 1, none⟩ = some (.int .i64 a0_1) := (blk_cell BK378.out 1).trans rfl
            have hcz18_2 : w10.cell? ⟨gb378, 2, none⟩ = some (.string a0_2) := (blk_cell BK378.out 2).trans rfl
            have hcz18_3 : w10.cell? ⟨gb378, 3, none⟩ = some (.int .i64 a0_3) := (blk_cell BK378.out 3).trans rfl
            have hcz18_4 : w10.cell? ⟨gb378, 4, none⟩ = some (.int .i64 a0_4) := (blk_cell BK378.out 4).trans rfl
            have hfz18_0 := blk_frozen BK378.out 0
            have hfz18_1 := blk_frozen BK378.out 1
            have hfz18_2 := blk_frozen BK378.out 2
            have hfz18_3 := blk_frozen BK378.out 3
            have hfz18_4 := blk_frozen BK378.out 4
            go_wp2_with (first | ((with_reducible refine gate_callee (f := 29) rfl ?_); refine goesL_ (some 34) rfl rfl Try.func29 (by kernel_rfl) rfl #[.agg #[.int .i64 a0_0, .int .i64 a0_1, .string a0_2, .int .i64 a0_3, .int .i64 a0_4], .int .i64 a0_3] rfl (by (try simp only [List.map_toArray, List.map_cons, List.map_nil]); first | done | rfl | (simp only [List.length_drop, List.length_take]; rfl)) ?_; (with_reducible refine (asset_Usable.calls k a0_0 a0_1 a0_2 a0_3 a0_4 a0_3 t383 _ A11.out).mono ?_); rintro e w19 ⟨rfl, hb⟩; refine ⟨_, rfl, ?_⟩; have n0_ := Aside0.mk (blk_below (g := gb378) (o := .cells #[.int .i64 a0_0, .int .i64 a0_1, .string a0_2, .int .i64 a0_3, .int .i64 a0_4] 39 (0, 0)) (by (with_reducible repeat (first | refine blk_drewN ?_ _ | refine blk_drew ?_ | refine blk_alloc ?_ _)); exact BK378.out) hb); have n1_ := Aside0.mk (below_step (by repeat (first | (with_reducible first | exact HB.out | apply below_alloc | apply pw_below_drewN | apply below_drew1 | refine below_set ?_ GE378.out) | exact HB.out)) hb); clear BK378; clear HB; have BK378 := n0_; have HB := n1_; clear n0_ n1_; (try clear hb); (try clear hb2); (try clear hk); (try clear hi); have hcz20_0 : w19.cell? ⟨gb378, 0, none⟩ = some (.int .i64 a0_0) := (blk_cell BK378.out 0).trans rfl; have hcz20_1 : w19.cell? ⟨gb378, 1, none⟩ = some (.int .i64 a0_1) := (blk_cell BK378.out 1).trans rfl; have hcz20_2 : w19.cell? ⟨gb378, 2, none⟩ = some (.string a0_2) := (blk_cell BK378.out 2).trans rfl; have hcz20_3 : w19.cell? ⟨gb378, 3, none⟩ = some (.int .i64 a0_3) := (blk_cell BK378.out 3).trans rfl; have hcz20_4 : w19.cell? ⟨gb378, 4, none⟩ = some (.int .i64 a0_4) := (blk_cell BK378.out 4).trans rfl; have hfz20_0 := blk_frozen BK378.out 0; have hfz20_1 := blk_frozen BK378.out 1; have hfz20_2 := blk_frozen BK378.out 2; have hfz20_3 := blk_frozen BK378.out 3; have hfz20_4 := blk_frozen BK378.out 4) | (go_at_call 29; (with_reducible refine (asset_Usable.calls k a0_0 a0_1 a0_2 a0_3 a0_4 a0_4 t384 _ A13.out).mono ?_); rintro e w21 ⟨rfl, hb⟩; have n0_ := Aside0.mk (blk_below (g := gb378) (o := .cells #[.int .i64 a0_0, .int .i64 a0_1, .string a0_2, .int .i64 a0_3, .int .i64 a0_4] 39 (0, 0)) (by (with_reducible repeat (first | refine blk_drewN ?_ _ | refine blk_drew ?_ | refine blk_alloc ?_ _)); exact BK378.out) hb); have n1_ := Aside0.mk (below_step (by repeat (first | (with_reducible first | exact HB.out | apply below_alloc | apply pw_below_drewN | apply below_drew1 | refine below_set ?_ GE378.out) | exact HB.out)) hb); clear BK378; clear HB; have BK378 := n0_; have HB := n1_; clear n0_ n1_; (try clear hb); (try clear hb2); (try clear hk); (try clear hi); have hcz22_0 : w21.cell? ⟨gb378, 0, none⟩ = some (.int .i64 a0_0) := (blk_cell BK378.out 0).trans rfl; have hcz22_1 : w21.cell? ⟨gb378, 1, none⟩ = some (.int .i64 a0_1) := (blk_cell BK378.out 1).trans rfl; have hcz22_2 : w21.cell? ⟨gb378, 2, none⟩ = some (.string a0_2) := (blk_cell BK378.out 2).trans rfl; have hcz22_3 : w21.cell? ⟨gb378, 3, none⟩ = some (.int .i64 a0_3) := (blk_cell BK378.out 3).trans rfl; have hcz22_4 : w21.cell? ⟨gb378, 4, none⟩ = some (.int .i64 a0_4) := (blk_cell BK378.out 4).trans rfl; have hfz22_0 := blk_frozen BK378.out 0; have hfz22_1 := blk_frozen BK378.out 1; have hfz22_2 := blk_frozen BK378.out 2; have hfz22_3 := blk_frozen BK378.out 3; have hfz22_4 := blk_frozen BK378.out 4) | (go_at_call 29; (with_reducible refine (asset_Usable.calls k a0_0 a0_1 a0_2 a0_3 a0_4 (wrap64 (a0_3 - 1)) t385 _ A15.out).mono ?_); rintro e w23 ⟨rfl, hb⟩; have n0_ := Aside0.mk (blk_below (g := gb378) (o := .cells #[.int .i64 a0_0, .int .i64 a0_1, .string a0_2, .int .i64 a0_3, .int .i64 a0_4] 39 (0, 0)) (by (with_reducible repeat (first | refine blk_drewN ?_ _ | refine blk_drew ?_ | refine blk_alloc ?_ _)); exact BK378.out) hb); have n1_ := Aside0.mk (below_step (by repeat (first | (with_reducible first | exact HB.out | apply below_alloc | apply pw_below_drewN | apply below_drew1 | refine below_set ?_ GE378.out) | exact HB.out)) hb); clear BK378; clear HB; have BK378 := n0_; have HB := n1_; clear n0_ n1_; (try clear hb); (try clear hb2); (try clear hk); (try clear hi); have hcz24_0 : w23.cell? ⟨gb378, 0, none⟩ = some (.int .i64 a0_0) := (blk_cell BK378.out 0).trans rfl; have hcz24_1 : w23.cell? ⟨gb378, 1, none⟩ = some (.int .i64 a0_1) := (blk_cell BK378.out 1).trans rfl; have hcz24_2 : w23.cell? ⟨gb378, 2, none⟩ = some (.string a0_2) := (blk_cell BK378.out 2).trans rfl; have hcz24_3 : w23.cell? ⟨gb378, 3, none⟩ = some (.int .i64 a0_3) := (blk_cell BK378.out 3).trans rfl; have hcz24_4 : w23.cell? ⟨gb378, 4, none⟩ = some (.int .i64 a0_4) := (blk_cell BK378.out 4).trans rfl; have hfz24_0 := blk_frozen BK378.out 0; have hfz24_1 := blk_frozen BK378.out 1; have hfz24_2 := blk_frozen BK378.out 2; have hfz24_3 := blk_frozen BK378.out 3; have hfz24_4 := blk_frozen BK378.out 4) | (go_at_call 29; (with_reducible refine (asset_Usable.calls k a0_0 a0_1 a0_2 a0_3 a0_4 (wrap64 (a0_4 + 1)) t386 _ A17.out).mono ?_); rintro e w25 ⟨rfl, hb⟩; have n0_ := Aside0.mk (blk_below (g := gb378) (o := .cells #[.int .i64 a0_0, .int .i64 a0_1, .string a0_2, .int .i64 a0_3, .int .i64 a0_4] 39 (0, 0)) (by (with_reducible repeat (first | refine blk_drewN ?_ _ | refine blk_drew ?_ | refine blk_alloc ?_ _)); exact BK378.out) hb); have n1_ := Aside0.mk (below_step (by repeat (first | (with_reducible first | exact HB.out | apply below_alloc | apply pw_below_drewN | apply below_drew1 | refine below_set ?_ GE378.out) | exact HB.out)) hb); clear BK378; clear HB; have BK378 := n0_; have HB := n1_; clear n0_ n1_; (try clear hb); (try clear hb2); (try clear hk); (try clear hi)))
            go_meet
            case rel => exact ⟨_, ((t386 != 17)), (by first | rfl | (simp; done) | (simp [*]; done)), H', ⟨by first | omega | exact Nat.le_refl _⟩, ⟨by (with_reducible repeat (first | refine blk_drewN ?_ _ | refine blk_drew ?_ | refine blk_alloc ?_ _)); exact BK378.out⟩, ⟨by repeat (first | (with_reducible first | exact HB.out | apply below_alloc | apply pw_below_drewN | apply below_drew1 | refine below_set ?_ GE378.out) | exact HB.out)⟩⟩
          · rw [if_neg c16] at H
            have c16b0 : (t385 == 17) = false := beq_eq_false_iff_ne.mpr c16
            have c16b1 : (t385 != 17) = true := bne_iff_ne.mpr c16
            have H' := Aside0.mk H
            clear H
            have hcz26_0 : w10.cell? ⟨gb378, 0, none⟩ = some (.int .i64 a0_0) := (blk_cell BK378.out 0).trans rfl
            have hcz26_1 : w10.cell? ⟨gb378, 1, none⟩ = some (.int .i64 a0_1) := (blk_cell BK378.out 1).trans rfl
            have hcz26_2 : w10.cell? ⟨gb378, 2, none⟩ = some (.string a0_2) := (blk_cell BK378.out 2).trans rfl
            have hcz26_3 : w10.cell? ⟨gb378, 3, none⟩ = some (.int .i64 a0_3) := (blk_cell BK378.out 3).trans rfl
            have hcz26_4 : w10.cell? ⟨gb378, 4, none⟩ = some (.int .i64 a0_4) := (blk_cell BK378.out 4).trans rfl
            have hfz26_0 := blk_frozen BK378.out 0
            have hfz26_1 := blk_frozen BK378.out 1
            have hfz26_2 := blk_frozen BK378.out 2
            have hfz26_3 := blk_frozen BK378.out 3
            have hfz26_4 := blk_frozen BK378.out 4
            go_wp2_with (first | ((with_reducible refine gate_callee (f := 29) rfl ?_); refine goesL_ (some 34) rfl rfl Try.func29 (by kernel_rfl) rfl #[.agg #[.int .i64 a0_0, .int .i64 a0_1, .string a0_2, .int .i64 a0_3, .int .i64 a0_4], .int .i64 a0_3] rfl (by (try simp only [List.map_toArray, List.map_cons, List.map_nil]); first | done | rfl | (simp only [List.length_drop, List.length_take]; rfl)) ?_; (with_reducible refine (asset_Usable.calls k a0_0 a0_1 a0_2 a0_3 a0_4 a0_3 t383 _ A11.out).mono ?_); rintro e w27 ⟨rfl, hb⟩; refine ⟨_, rfl, ?_⟩; have n0_ := Aside0.mk (blk_below (g := gb378) (o := .cells #[.int .i64 a0_0, .int .i64 a0_1, .string a0_2, .int .i64 a0_3, .int .i64 a0_4] 39 (0, 0)) (by (with_reducible repeat (first | refine blk_drewN ?_ _ | refine blk_drew ?_ | refine blk_alloc ?_ _)); exact BK378.out) hb); have n1_ := Aside0.mk (below_step (by repeat (first | (with_reducible first | exact HB.out | apply below_alloc | apply pw_below_drewN | apply below_drew1 | refine below_set ?_ GE378.out) | exact HB.out)) hb); clear BK378; clear HB; have BK378 := n0_; have HB := n1_; clear n0_ n1_; (try clear hb); (try clear hb2); (try clear hk); (try clear hi); have hcz28_0 : w27.cell? ⟨gb378, 0, none⟩ = some (.int .i64 a0_0) := (blk_cell BK378.out 0).trans rfl; have hcz28_1 : w27.cell? ⟨gb378, 1, none⟩ = some (.int .i64 a0_1) := (blk_cell BK378.out 1).trans rfl; have hcz28_2 : w27.cell? ⟨gb378, 2, none⟩ = some (.string a0_2) := (blk_cell BK378.out 2).trans rfl; have hcz28_3 : w27.cell? ⟨gb378, 3, none⟩ = some (.int .i64 a0_3) := (blk_cell BK378.out 3).trans rfl; have hcz28_4 : w27.cell? ⟨gb378, 4, none⟩ = some (.int .i64 a0_4) := (blk_cell BK378.out 4).trans rfl; have hfz28_0 := blk_frozen BK378.out 0; have hfz28_1 := blk_frozen BK378.out 1; have hfz28_2 := blk_frozen BK378.out 2; have hfz28_3 := blk_frozen BK378.out 3; have hfz28_4 := blk_frozen BK378.out 4) | (go_at_call 29; (with_reducible refine (asset_Usable.calls k a0_0 a0_1 a0_2 a0_3 a0_4 a0_4 t384 _ A13.out).mono ?_); rintro e w29 ⟨rfl, hb⟩; have n0_ := Aside0.mk (blk_below (g := gb378) (o := .cells #[.int .i64 a0_0, .int .i64 a0_1, .string a0_2, .int .i64 a0_3, .int .i64 a0_4] 39 (0, 0)) (by (with_reducible repeat (first | refine blk_drewN ?_ _ | refine blk_drew ?_ | refine blk_alloc ?_ _)); exact BK378.out) hb); have n1_ := Aside0.mk (below_step (by repeat (first | (with_reducible first | exact HB.out | apply below_alloc | apply pw_below_drewN | apply below_drew1 | refine below_set ?_ GE378.out) | exact HB.out)) hb); clear BK378; clear HB; have BK378 := n0_; have HB := n1_; clear n0_ n1_; (try clear hb); (try clear hb2); (try clear hk); (try clear hi); have hcz30_0 : w29.cell? ⟨gb378, 0, none⟩ = some (.int .i64 a0_0) := (blk_cell BK378.out 0).trans rfl; have hcz30_1 : w29.cell? ⟨gb378, 1, none⟩ = some (.int .i64 a0_1) := (blk_cell BK378.out 1).trans rfl; have hcz30_2 : w29.cell? ⟨gb378, 2, none⟩ = some (.string a0_2) := (blk_cell BK378.out 2).trans rfl; have hcz30_3 : w29.cell? ⟨gb378, 3, none⟩ = some (.int .i64 a0_3) := (blk_cell BK378.out 3).trans rfl; have hcz30_4 : w29.cell? ⟨gb378, 4, none⟩ = some (.int .i64 a0_4) := (blk_cell BK378.out 4).trans rfl; have hfz30_0 := blk_frozen BK378.out 0; have hfz30_1 := blk_frozen BK378.out 1; have hfz30_2 := blk_frozen BK378.out 2; have hfz30_3 := blk_frozen BK378.out 3; have hfz30_4 := blk_frozen BK378.out 4) | (go_at_call 29; (with_reducible refine (asset_Usable.calls k a0_0 a0_1 a0_2 a0_3 a0_4 (wrap64 (a0_3 - 1)) t385 _ A15.out).mono ?_); rintro e w31 ⟨rfl, hb⟩; have n0_ := Aside0.mk (blk_below (g := gb378) (o := .cells #[.int .i64 a0_0, .int .i64 a0_1, .string a0_2, .int .i64 a0_3, .int .i64 a0_4] 39 (0, 0)) (by (with_reducible repeat (first | refine blk_drewN ?_ _ | refine blk_drew ?_ | refine blk_alloc ?_ _)); exact BK378.out) hb); have n1_ := Aside0.mk (below_step (by repeat (first | (with_reducible first | exact HB.out | apply below_alloc | apply pw_below_drewN | apply below_drew1 | refine below_set ?_ GE378.out) | exact HB.out)) hb); clear BK378; clear HB; have BK378 := n0_; have HB := n1_; clear n0_ n1_; (try clear hb); (try clear hb2); (try clear hk); (try clear hi)))
            go_meet
            case rel => exact ⟨_, (true), (by first | rfl | (simp; done) | (simp [*]; done)), H', ⟨by first | omega | exact Nat.le_refl _⟩, ⟨by (with_reducible repeat (first | refine blk_drewN ?_ _ | refine blk_drew ?_ | refine blk_alloc ?_ _)); exact BK378.out⟩, ⟨by repeat (first | (with_reducible first | exact HB.out | apply below_alloc | apply pw_below_drewN | apply below_drew1 | refine below_set ?_ GE378.out) | exact HB.out)⟩⟩
        · rw [if_neg c14] at H
          have c14b0 : (t384 == 0) = false := beq_eq_false_iff_ne.mpr c14
          have c14b1 : (t384 != 0) = true := bne_iff_ne.mpr c14
          have H' := Aside0.mk H
          clear H
          have hcz32_0 : w10.cell? ⟨gb378, 0, none⟩ = some (.int .i64 a0_0) := (blk_cell BK378.out 0).trans rfl
          have hcz32_1 : w10.cell? ⟨gb378, 1, none⟩ = some (.int .i64 a0_1) := (blk_cell BK378.out 1).trans rfl
          have hcz32_2 : w10.cell? ⟨gb378, 2, none⟩ = some (.string a0_2) := (blk_cell BK378.out 2).trans rfl
          have hcz32_3 : w10.cell? ⟨gb378, 3, none⟩ = some (.int .i64 a0_3) := (blk_cell BK378.out 3).trans rfl
          have hcz32_4 : w10.cell? ⟨gb378, 4, none⟩ = some (.int .i64 a0_4) := (blk_cell BK378.out 4).trans rfl
          have hfz32_0 := blk_frozen BK378.out 0
          have hfz32_1 := blk_frozen BK378.out 1
          have hfz32_2 := blk_frozen BK378.out 2
          have hfz32_3 := blk_frozen BK378.out 3
          have hfz32_4 := blk_frozen BK378.out 4
          go_wp2_with (first | ((with_reducible refine gate_callee (f := 29) rfl ?_); refine goesL_ (some 34) rfl rfl Try.func29 (by kernel_rfl) rfl #[.agg #[.int .i64 a0_0, .int .i64 a0_1, .string a0_2, .int .i64 a0_3, .int .i64 a0_4], .int .i64 a0_3] rfl (by (try simp only [List.map_toArray, List.map_cons, List.map_nil]); first | done | rfl | (simp only [List.length_drop, List.length_take]; rfl)) ?_; (with_reducible refine (asset_Usable.calls k a0_0 a0_1 a0_2 a0_3 a0_4 a0_3 t383 _ A11.out).mono ?_); rintro e w33 ⟨rfl, hb⟩; refine ⟨_, rfl, ?_⟩; have n0_ := Aside0.mk (blk_below (g := gb378) (o := .cells #[.int .i64 a0_0, .int .i64 a0_1, .string a0_2, .int .i64 a0_3, .int .i64 a0_4] 39 (0, 0)) (by (with_reducible repeat (first | refine blk_drewN ?_ _ | refine blk_drew ?_ | refine blk_alloc ?_ _)); exact BK378.out) hb); have n1_ := Aside0.mk (below_step (by repeat (first | (with_reducible first | exact HB.out | apply below_alloc | apply pw_below_drewN | apply below_drew1 | refine below_set ?_ GE378.out) | exact HB.out)) hb); clear BK378; clear HB; have BK378 := n0_; have HB := n1_; clear n0_ n1_; (try clear hb); (try clear hb2); (try clear hk); (try clear hi); have hcz34_0 : w33.cell? ⟨gb378, 0, none⟩ = some (.int .i64 a0_0) := (blk_cell BK378.out 0).trans rfl; have hcz34_1 : w33.cell? ⟨gb378, 1, none⟩ = some (.int .i64 a0_1) := (blk_cell BK378.out 1).trans rfl; have hcz34_2 : w33.cell? ⟨gb378, 2, none⟩ = some (.string a0_2) := (blk_cell BK378.out 2).trans rfl; have hcz34_3 : w33.cell? ⟨gb378, 3, none⟩ = some (.int .i64 a0_3) := (blk_cell BK378.out 3).trans rfl; have hcz34_4 : w33.cell? ⟨gb378, 4, none⟩ = some (.int .i64 a0_4) := (blk_cell BK378.out 4).trans rfl; have hfz34_0 := blk_frozen BK378.out 0; have hfz34_1 := blk_frozen BK378.out 1; have hfz34_2 := blk_frozen BK378.out 2; have hfz34_3 := blk_frozen BK378.out 3; have hfz34_4 := blk_frozen BK378.out 4) | (go_at_call 29; (with_reducible refine (asset_Usable.calls k a0_0 a0_1 a0_2 a0_3 a0_4 a0_4 t384 _ A13.out).mono ?_); rintro e w35 ⟨rfl, hb⟩; have n0_ := Aside0.mk (blk_below (g := gb378) (o := .cells #[.int .i64 a0_0, .int .i64 a0_1, .string a0_2, .int .i64 a0_3, .int .i64 a0_4] 39 (0, 0)) (by (with_reducible repeat (first | refine blk_drewN ?_ _ | refine blk_drew ?_ | refine blk_alloc ?_ _)); exact BK378.out) hb); have n1_ := Aside0.mk (below_step (by repeat (first | (with_reducible first | exact HB.out | apply below_alloc | apply pw_below_drewN | apply below_drew1 | refine below_set ?_ GE378.out) | exact HB.out)) hb); clear BK378; clear HB; have BK378 := n0_; have HB := n1_; clear n0_ n1_; (try clear hb); (try clear hb2); (try clear hk); (try clear hi)))
          go_meet
          case rel => exact ⟨_, (true), (by first | rfl | (simp; done) | (simp [*]; done)), H', ⟨by first | omega | exact Nat.le_refl _⟩, ⟨by (with_reducible repeat (first | refine blk_drewN ?_ _ | refine blk_drew ?_ | refine blk_alloc ?_ _)); exact BK378.out⟩, ⟨by repeat (first | (with_reducible first | exact HB.out | apply below_alloc | apply pw_below_drewN | apply below_drew1 | refine below_set ?_ GE378.out) | exact HB.out)⟩⟩
      · rw [if_neg c12] at H
        have c12b0 : (t383 == 0) = false := beq_eq_false_iff_ne.mpr c12
        have c12b1 : (t383 != 0) = true := bne_iff_ne.mpr c12
        (first | rw [c12b0] | (simp only [i64_w, i32_w]; rw [c12b0]) | skip)
        have H' := Aside0.mk H
        clear H
        have hcz36_0 : w10.cell? ⟨gb378, 0, none⟩ = some (.int .i64 a0_0) := (blk_cell BK378.out 0).trans rfl
        have hcz36_1 : w10.cell? ⟨gb378, 1, none⟩ = some (.int .i64 a0_1) := (blk_cell BK378.out 1).trans rfl
        have hcz36_2 : w10.cell? ⟨gb378, 2, none⟩ = some (.string a0_2) := (blk_cell BK378.out 2).trans rfl
        have hcz36_3 : w10.cell? ⟨gb378, 3, none⟩ = some (.int .i64 a0_3) := (blk_cell BK378.out 3).trans rfl
        have hcz36_4 : w10.cell? ⟨gb378, 4, none⟩ = some (.int .i64 a0_4) := (blk_cell BK378.out 4).trans rfl
        have hfz36_0 := blk_frozen BK378.out 0
        have hfz36_1 := blk_frozen BK378.out 1
        have hfz36_2 := blk_frozen BK378.out 2
        have hfz36_3 := blk_frozen BK378.out 3
        have hfz36_4 := blk_frozen BK378.out 4
        go_wp2_with (first | ((with_reducible refine gate_callee (f := 29) rfl ?_); refine goesL_ (some 34) rfl rfl Try.func29 (by kernel_rfl) rfl #[.agg #[.int .i64 a0_0, .int .i64 a0_1, .string a0_2, .int .i64 a0_3, .int .i64 a0_4], .int .i64 a0_3] rfl (by (try simp only [List.map_toArray, List.map_cons, List.map_nil]); first | done | rfl | (simp only [List.length_drop, List.length_take]; rfl)) ?_; (with_reducible refine (asset_Usable.calls k a0_0 a0_1 a0_2 a0_3 a0_4 a0_3 t383 _ A11.out).mono ?_); rintro e w37 ⟨rfl, hb⟩; refine ⟨_, rfl, ?_⟩; have n0_ := Aside0.mk (blk_below (g := gb378) (o := .cells #[.int .i64 a0_0, .int .i64 a0_1, .string a0_2, .int .i64 a0_3, .int .i64 a0_4] 39 (0, 0)) (by (with_reducible repeat (first | refine blk_drewN ?_ _ | refine blk_drew ?_ | refine blk_alloc ?_ _)); exact BK378.out) hb); have n1_ := Aside0.mk (below_step (by repeat (first | (with_reducible first | exact HB.out | apply below_alloc | apply pw_below_drewN | apply below_drew1 | refine below_set ?_ GE378.out) | exact HB.out)) hb); clear BK378; clear HB; have BK378 := n0_; have HB := n1_; clear n0_ n1_; (try clear hb); (try clear hb2); (try clear hk); (try clear hi)))
        go_meet
        case rel => exact ⟨_, (true), (by first | rfl | (simp; done) | (simp [*]; done)), H', ⟨by first | omega | exact Nat.le_refl _⟩, ⟨by (with_reducible repeat (first | refine blk_drewN ?_ _ | refine blk_drew ?_ | refine blk_alloc ?_ _)); exact BK378.out⟩, ⟨by repeat (first | (with_reducible first | exact HB.out | apply below_alloc | apply pw_below_drewN | apply below_drew1 | refine below_set ?_ GE378.out) | exact HB.out)⟩⟩
    case rest =>
      clear HC7
      try clear c1
      try clear c2
      try clear p2
      try clear c6
      try clear c6b0
      try clear c6b1
      try clear p6
      try clear c11
      try clear c12
      try clear c12b0
      try clear c12b1
      try clear c14
      try clear c14b0
      try clear c14b1
      try clear c16
      try clear c16b0
      try clear c16b1
      try clear c27
      try clear c29
      try clear hcz18_0
      try clear hcz18_1
      try clear hcz18_2
      try clear hcz18_3
      try clear hcz18_4
      try clear hcz20_0
      try clear hcz20_1
      try clear hcz20_2
      try clear hcz20_3
      try clear hcz20_4
      try clear hcz22_0
      try clear hcz22_1
      try clear hcz22_2
      try clear hcz22_3
      try clear hcz22_4
      try clear hcz24_0
      try clear hcz24_1
      try clear hcz24_2
      try clear hcz24_3
      try clear hcz24_4
      try clear hcz26_0
      try clear hcz26_1
      try clear hcz26_2
      try clear hcz26_3
      try clear hcz26_4
      try clear hcz28_0
      try clear hcz28_1
      try clear hcz28_2
      try clear hcz28_3
      try clear hcz28_4
      try clear hcz30_0
      try clear hcz30_1
      try clear hcz30_2
      try clear hcz30_3
      try clear hcz30_4
      try clear hcz32_0
      try clear hcz32_1
      try clear hcz32_2
      try clear hcz32_3
      try clear hcz32_4
      try clear hcz34_0
      try clear hcz34_1
      try clear hcz34_2
      try clear hcz34_3
      try clear hcz34_4
      try clear hcz36_0
      try clear hcz36_1
      try clear hcz36_2
      try clear hcz36_3
      try clear hcz36_4
      try clear hcz9_0
      try clear hcz9_1
      try clear hcz9_2
      try clear hcz9_3
      try clear hcz9_4
      try clear hfz18_0
      try clear hfz18_1
      try clear hfz18_2
      try clear hfz18_3
      try clear hfz18_4
      try clear hfz20_0
      try clear hfz20_1
      try clear hfz20_2
      try clear hfz20_3
      try clear hfz20_4
      try clear hfz22_0
      try clear hfz22_1
      try clear hfz22_2
      try clear hfz22_3
      try clear hfz22_4
      try clear hfz24_0
      try clear hfz24_1
      try clear hfz24_2
      try clear hfz24_3
      try clear hfz24_4
      try clear hfz26_0
      try clear hfz26_1
      try clear hfz26_2
      try clear hfz26_3
      try clear hfz26_4
      try clear hfz28_0
      try clear hfz28_1
      try clear hfz28_2
      try clear hfz28_3
      try clear hfz28_4
      try clear hfz30_0
      try clear hfz30_1
      try clear hfz30_2
      try clear hfz30_3
      try clear hfz30_4
      try clear hfz32_0
      try clear hfz32_1
      try clear hfz32_2
      try clear hfz32_3
      try clear hfz32_4
      try clear hfz34_0
      try clear hfz34_1
      try clear hfz34_2
      try clear hfz34_3
      try clear hfz34_4
      try clear hfz36_0
      try clear hfz36_1
      try clear hfz36_2
      try clear hfz36_3
      try clear hfz36_4
      try clear hfz9_0
      try clear hfz9_1
      try clear hfz9_2
      try clear hfz9_3
      try clear hfz9_4
      obtain ⟨kq, x58_6, rfl, HA, HJ6, BK378, HB⟩ := hcut
      cases kq with
      | zero => exact absurd HA.out (by simp [examboardlaw17_AssetRights.j0])
      | succ kj6 =>
        have H := HA.out
        clear HA
        simp only [examboardlaw17_AssetRights.j0] at H
        by_cases c38 : x58_6 = true
        · subst c38
          have H1 : (none) = some r := by rw [if_pos rfl] at H; exact H
          clear H
          have H := H1
          clear H1
          exact absurd H (by simp)
        · replace c38 := Bool.eq_false_iff.mpr c38
          subst c38
          have H1 : ((asset_Usable.f kj6 a0_0 a0_1 a0_2 a0_3 a0_4 a1).bind fun t387 => (if t387 = 0 then ((asset_Usable.f kj6 a0_0 a0_1 a0_2 a0_3 a0_4 a3).bind fun t388 => (if t388 = 0 then (if a1 ≤ a2 then (if a2 ≤ a3 then ((asset_Usable.f kj6 a0_0 a0_1 a0_2 a0_3 a0_4 a2).bind fun t389 => (examboardlaw17_AssetRights.j1 kj6 a2 (t389 != 0) a0_0 a0_1 a0_2 a0_3 a0_4)) else (examboardlaw17_AssetRights.j1 kj6 a2 false a0_0 a0_1 a0_2 a0_3 a0_4)) else (examboardlaw17_AssetRights.j1 kj6 a2 false a0_0 a0_1 a0_2 a0_3 a0_4)) else (examboardlaw17_AssetRights.j1 kj6 a2 false a0_0 a0_1 a0_2 a0_3 a0_4))) else (examboardlaw17_AssetRights.j1 kj6 a2 false a0_0 a0_1 a0_2 a0_3 a0_4))) = some r := by rw [if_neg (show ¬ (false = true) by decide)] at H; exact H
          clear H
          have H := H1
          clear H1
          have HC39 := Aside0.mk H
          clear H
          go_upto_region 6 with (fail)
          go_cut [84] (fun v84 wc => ∃ (kq : Nat) (x84_38 : Bool), v84 = .bool x84_38 ∧ Aside0 (examboardlaw17_AssetRights.j1 kq a2 x84_38 a0_0 a0_1 a0_2 a0_3 a0_4 = some r) ∧ Aside0 (kq ≤ kj6) ∧ Aside0 (wc.heap[gb378]? = some (.cells #[.int .i64 a0_0, .int .i64 a0_1, .string a0_2, .int .i64 a0_3, .int .i64 a0_4] 39 (0, 0))) ∧ Aside0 (Below w.heap.size w wc))
          case first =>
            have H := HC39.out
            clear HC39
            replace H := Option.bind_eq_some_iff.mp H
            obtain ⟨t387, A400, H⟩ := H
            replace H : (if t387 = 0 then ((asset_Usable.f kj6 a0_0 a0_1 a0_2 a0_3 a0_4 a3).bind fun t388 => (if t388 = 0 then (if a1 ≤ a2 then (if a2 ≤ a3 then ((asset_Usable.f kj6 a0_0 a0_1 a0_2 a0_3 a0_4 a2).bind fun t389 => (examboardlaw17_AssetRights.j1 kj6 a2 (t389 != 0) a0_0 a0_1 a0_2 a0_3 a0_4)) else (examboardlaw17_AssetRights.j1 kj6 a2 false a0_0 a0_1 a0_2 a0_3 a0_4)) else (examboardlaw17_AssetRights.j1 kj6 a2 false a0_0 a0_1 a0_2 a0_3 a0_4)) else (examboardlaw17_AssetRights.j1 kj6 a2 false a0_0 a0_1 a0_2 a0_3 a0_4))) else (examboardlaw17_AssetRights.j1 kj6 a2 false a0_0 a0_1 a0_2 a0_3 a0_4)) = some r := H
            have A40 := Aside0.mk A400
            clear A400
            by_cases c41 : t387 = 0
            · rw [if_pos c41] at H
              have c41b0 : (t387 == 0) = true := beq_iff_eq.mpr c41
              have c41b1 : (t387 != 0) = false := bne_eq_false_iff_eq.mpr c41
              clear c41
              (first | rw [c41b0] | (simp only [i64_w, i32_w]; rw [c41b0]) | skip)
              replace H := Option.bind_eq_some_iff.mp H
              obtain ⟨t388, A420, H⟩ := H
              replace H : (if t388 = 0 then (if a1 ≤ a2 then (if a2 ≤ a3 then ((asset_Usable.f kj6 a0_0 a0_1 a0_2 a0_3 a0_4 a2).bind fun t389 => (examboardlaw17_AssetRights.j1 kj6 a2 (t389 != 0) a0_0 a0_1 a0_2 a0_3 a0_4)) else (examboardlaw17_AssetRights.j1 kj6 a2 false a0_0 a0_1 a0_2 a0_3 a0_4)) else (examboardlaw17_AssetRights.j1 kj6 a2 false a0_0 a0_1 a0_2 a0_3 a0_4)) else (examboardlaw17_AssetRights.j1 kj6 a2 false a0_0 a0_1 a0_2 a0_3 a0_4)) = some r := H
              have A42 := Aside0.mk A420
              clear A420
              by_cases c43 : t388 = 0
              · rw [if_pos c43] at H
                have c43b0 : (t388 == 0) = true := beq_iff_eq.mpr c43
                have c43b1 : (t388 != 0) = false := bne_eq_false_iff_eq.mpr c43
                clear c43
                by_cases c44 : a1 ≤ a2
                · rw [if_pos c44] at H
                  have c44b0 : decide (a1 ≤ a2) = true := decide_eq_true c44
                  clear c44
                  by_cases c45 : a2 ≤ a3
                  · rw [if_pos c45] at H
                    have c45b0 : decide (a2 ≤ a3) = true := decide_eq_true c45
                    clear c45
                    replace H := Option.bind_eq_some_iff.mp H
                    obtain ⟨t389, A460, H⟩ := H
                    replace H : (examboardlaw17_AssetRights.j1 kj6 a2 (t389 != 0) a0_0 a0_1 a0_2 a0_3 a0_4) = some r := H
                    have A46 := Aside0.mk A460
                    clear A460
                    have H' := Aside0.mk H
                    clear H
                    have hcz47_0 : wc.cell? ⟨gb378, 0, none⟩ = some (.int .i64 a0_0) := (blk_cell BK378.out 0).trans rfl
                    have hcz47_1 : wc.cell? ⟨gb378, 1, none⟩ = some (.int .i64 a0_1) := (blk_cell BK378.out 1).trans rfl
                    have hcz47_2 : wc.cell? ⟨gb378, 2, none⟩ = some (.string a0_2) := (blk_cell BK378.out 2).trans rfl
                    have hcz47_3 : wc.cell? ⟨gb378, 3, none⟩ = some (.int .i64 a0_3) := (blk_cell BK378.out 3).trans rfl
                    have hcz47_4 : wc.cell? ⟨gb378, 4, none⟩ = some (.int .i64 a0_4) := (blk_cell BK378.out 4).trans rfl
                    have hfz47_0 := blk_frozen BK378.out 0
                    have hfz47_1 := blk_frozen BK378.out 1
                    have hfz47_2 := blk_frozen BK378.out 2
                    have hfz47_3 := blk_frozen BK378.out 3
                    have hfz47_4 := blk_frozen BK378.out 4
                    go_wp2_with (first | ((with_reducible refine gate_callee (f := 29) rfl ?_); refine goesL_ (some 61) rfl rfl Try.func29 (by kernel_rfl) rfl #[.agg #[.int .i64 a0_0, .int .i64 a0_1, .string a0_2, .int .i64 a0_3, .int .i64 a0_4], .int .i64 a1] rfl (by (try simp only [List.map_toArray, List.map_cons, List.map_nil]); first | done | rfl | (simp only [List.length_drop, List.length_take]; rfl)) ?_; (with_reducible refine (asset_Usable.calls kj6 a0_0 a0_1 a0_2 a0_3 a0_4 a1 t387 _ A40.out).mono ?_); rintro e w48 ⟨rfl, hb⟩; refine ⟨_, rfl, ?_⟩; have n0_ := Aside0.mk (blk_below (g := gb378) (o := .cells #[.int .i64 a0_0, .int .i64 a0_1, .string a0_2, .int .i64 a0_3, .int .i64 a0_4] 39 (0, 0)) (by (with_reducible repeat (first | refine blk_drewN ?_ _ | refine blk_drew ?_ | refine blk_alloc ?_ _)); exact BK378.out) hb); have n1_ := Aside0.mk (below_step (by repeat (first | (with_reducible first | exact HB.out | apply below_alloc | apply pw_below_drewN | apply below_drew1 | refine below_set ?_ GE378.out) | exact HB.out)) hb); clear BK378; clear HB; have BK378 := n0_; have HB := n1_; clear n0_ n1_; (try clear hb); (try clear hb2); (try clear hk); (try clear hi); have hcz49_0 : w48.cell? ⟨gb378, 0, none⟩ = some (.int .i64 a0_0) := (blk_cell BK378.out 0).trans rfl; have hcz49_1 : w48.cell? ⟨gb378, 1, none⟩ = some (.int .i64 a0_1) := (blk_cell BK378.out 1).trans rfl; have hcz49_2 : w48.cell? ⟨gb378, 2, none⟩ = some (.string a0_2) := (blk_cell BK378.out 2).trans rfl; have hcz49_3 : w48.cell? ⟨gb378, 3, none⟩ = some (.int .i64 a0_3) := (blk_cell BK378.out 3).trans rfl; have hcz49_4 : w48.cell? ⟨gb378, 4, none⟩ = some (.int .i64 a0_4) := (blk_cell BK378.out 4).trans rfl; have hfz49_0 := blk_frozen BK378.out 0; have hfz49_1 := blk_frozen BK378.out 1; have hfz49_2 := blk_frozen BK378.out 2; have hfz49_3 := blk_frozen BK378.out 3; have hfz49_4 := blk_frozen BK378.out 4) | (go_at_call 29; (with_reducible refine (asset_Usable.calls kj6 a0_0 a0_1 a0_2 a0_3 a0_4 a3 t388 _ A42.out).mono ?_); rintro e w50 ⟨rfl, hb⟩; have n0_ := Aside0.mk (blk_below (g := gb378) (o := .cells #[.int .i64 a0_0, .int .i64 a0_1, .string a0_2, .int .i64 a0_3, .int .i64 a0_4] 39 (0, 0)) (by (with_reducible repeat (first | refine blk_drewN ?_ _ | refine blk_drew ?_ | refine blk_alloc ?_ _)); exact BK378.out) hb); have n1_ := Aside0.mk (below_step (by repeat (first | (with_reducible first | exact HB.out | apply below_alloc | apply pw_below_drewN | apply below_drew1 | refine below_set ?_ GE378.out) | exact HB.out)) hb); clear BK378; clear HB; have BK378 := n0_; have HB := n1_; clear n0_ n1_; (try clear hb); (try clear hb2); (try clear hk); (try clear hi); have hcz51_0 : w50.cell? ⟨gb378, 0, none⟩ = some (.int .i64 a0_0) := (blk_cell BK378.out 0).trans rfl; have hcz51_1 : w50.cell? ⟨gb378, 1, none⟩ = some (.int .i64 a0_1) := (blk_cell BK378.out 1).trans rfl; have hcz51_2 : w50.cell? ⟨gb378, 2, none⟩ = some (.string a0_2) := (blk_cell BK378.out 2).trans rfl; have hcz51_3 : w50.cell? ⟨gb378, 3, none⟩ = some (.int .i64 a0_3) := (blk_cell BK378.out 3).trans rfl; have hcz51_4 : w50.cell? ⟨gb378, 4, none⟩ = some (.int .i64 a0_4) := (blk_cell BK378.out 4).trans rfl; have hfz51_0 := blk_frozen BK378.out 0; have hfz51_1 := blk_frozen BK378.out 1; have hfz51_2 := blk_frozen BK378.out 2; have hfz51_3 := blk_frozen BK378.out 3; have hfz51_4 := blk_frozen BK378.out 4) | (go_at_call 29; (with_reducible refine (asset_Usable.calls kj6 a0_0 a0_1 a0_2 a0_3 a0_4 a2 t389 _ A46.out).mono ?_); rintro e w52 ⟨rfl, hb⟩; have n0_ := Aside0.mk (blk_below (g := gb378) (o := .cells #[.int .i64 a0_0, .int .i64 a0_1, .string a0_2, .int .i64 a0_3, .int .i64 a0_4] 39 (0, 0)) (by (with_reducible repeat (first | refine blk_drewN ?_ _ | refine blk_drew ?_ | refine blk_alloc ?_ _)); exact BK378.out) hb); have n1_ := Aside0.mk (below_step (by repeat (first | (with_reducible first | exact HB.out | apply below_alloc | apply pw_below_drewN | apply below_drew1 | refine below_set ?_ GE378.out) | exact HB.out)) hb); clear BK378; clear HB; have BK378 := n0_; have HB := n1_; clear n0_ n1_; (try clear hb); (try clear hb2); (try clear hk); (try clear hi)))
                    go_meet
                    case rel => exact ⟨_, ((t389 != 0)), (by first | rfl | (simp; done) | (simp [*]; done)), H', ⟨by have := HJ6.out; first | omega | exact Nat.le_refl _⟩, ⟨by (with_reducible repeat (first | refine blk_drewN ?_ _ | refine blk_drew ?_ | refine blk_alloc ?_ _)); exact BK378.out⟩, ⟨by repeat (first | (with_reducible first | exact HB.out | apply below_alloc | apply pw_below_drewN | apply below_drew1 | refine below_set ?_ GE378.out) | exact HB.out)⟩⟩
                  · rw [if_neg c45] at H
                    have c45b0 : decide (a2 ≤ a3) = false := decide_eq_false c45
                    clear c45
                    have H' := Aside0.mk H
                    clear H
                    have hcz53_0 : wc.cell? ⟨gb378, 0, none⟩ = some (.int .i64 a0_0) := (blk_cell BK378.out 0).trans rfl
                    have hcz53_1 : wc.cell? ⟨gb378, 1, none⟩ = some (.int .i64 a0_1) := (blk_cell BK378.out 1).trans rfl
                    have hcz53_2 : wc.cell? ⟨gb378, 2, none⟩ = some (.string a0_2) := (blk_cell BK378.out 2).trans rfl
                    have hcz53_3 : wc.cell? ⟨gb378, 3, none⟩ = some (.int .i64 a0_3) := (blk_cell BK378.out 3).trans rfl
                    have hcz53_4 : wc.cell? ⟨gb378, 4, none⟩ = some (.int .i64 a0_4) := (blk_cell BK378.out 4).trans rfl
                    have hfz53_0 := blk_frozen BK378.out 0
                    have hfz53_1 := blk_frozen BK378.out 1
                    have hfz53_2 := blk_frozen BK378.out 2
                    have hfz53_3 := blk_frozen BK378.out 3
                    have hfz53_4 := blk_frozen BK378.out 4
                    go_wp2_with (first | ((with_reducible refine gate_callee (f := 29) rfl ?_); refine goesL_ (some 61) rfl rfl Try.func29 (by kernel_rfl) rfl #[.agg #[.int .i64 a0_0, .int .i64 a0_1, .string a0_2, .int .i64 a0_3, .int .i64 a0_4], .int .i64 a1] rfl (by (try simp only [List.map_toArray, List.map_cons, List.map_nil]); first | done | rfl | (simp only [List.length_drop, List.length_take]; rfl)) ?_; (with_reducible refine (asset_Usable.calls kj6 a0_0 a0_1 a0_2 a0_3 a0_4 a1 t387 _ A40.out).mono ?_); rintro e w54 ⟨rfl, hb⟩; refine ⟨_, rfl, ?_⟩; have n0_ := Aside0.mk (blk_below (g := gb378) (o := .cells #[.int .i64 a0_0, .int .i64 a0_1, .string a0_2, .int .i64 a0_3, .int .i64 a0_4] 39 (0, 0)) (by (with_reducible repeat (first | refine blk_drewN ?_ _ | refine blk_drew ?_ | refine blk_alloc ?_ _)); exact BK378.out) hb); have n1_ := Aside0.mk (below_step (by repeat (first | (with_reducible first | exact HB.out | apply below_alloc | apply pw_below_drewN | apply below_drew1 | refine below_set ?_ GE378.out) | exact HB.out)) hb); clear BK378; clear HB; have BK378 := n0_; have HB := n1_; clear n0_ n1_; (try clear hb); (try clear hb2); (try clear hk); (try clear hi); have hcz55_0 : w54.cell? ⟨gb378, 0, none⟩ = some (.int .i64 a0_0) := (blk_cell BK378.out 0).trans rfl; have hcz55_1 : w54.cell? ⟨gb378, 1, none⟩ = some (.int .i64 a0_1) := (blk_cell BK378.out 1).trans rfl; have hcz55_2 : w54.cell? ⟨gb378, 2, none⟩ = some (.string a0_2) := (blk_cell BK378.out 2).trans rfl; have hcz55_3 : w54.cell? ⟨gb378, 3, none⟩ = some (.int .i64 a0_3) := (blk_cell BK378.out 3).trans rfl; have hcz55_4 : w54.cell? ⟨gb378, 4, none⟩ = some (.int .i64 a0_4) := (blk_cell BK378.out 4).trans rfl; have hfz55_0 := blk_frozen BK378.out 0; have hfz55_1 := blk_frozen BK378.out 1; have hfz55_2 := blk_frozen BK378.out 2; have hfz55_3 := blk_frozen BK378.out 3; have hfz55_4 := blk_frozen BK378.out 4) | (go_at_call 29; (with_reducible refine (asset_Usable.calls kj6 a0_0 a0_1 a0_2 a0_3 a0_4 a3 t388 _ A42.out).mono ?_); rintro e w56 ⟨rfl, hb⟩; have n0_ := Aside0.mk (blk_below (g := gb378) (o := .cells #[.int .i64 a0_0, .int .i64 a0_1, .string a0_2, .int .i64 a0_3, .int .i64 a0_4] 39 (0, 0)) (by (with_reducible repeat (first | refine blk_drewN ?_ _ | refine blk_drew ?_ | refine blk_alloc ?_ _)); exact BK378.out) hb); have n1_ := Aside0.mk (below_step (by repeat (first | (with_reducible first | exact HB.out | apply below_alloc | apply pw_below_drewN | apply below_drew1 | refine below_set ?_ GE378.out) | exact HB.out)) hb); clear BK378; clear HB; have BK378 := n0_; have HB := n1_; clear n0_ n1_; (try clear hb); (try clear hb2); (try clear hk); (try clear hi)))
                    go_meet
                    case rel => exact ⟨_, (false), (by first | rfl | (simp; done) | (simp [*]; done)), H', ⟨by have := HJ6.out; first | omega | exact Nat.le_refl _⟩, ⟨by (with_reducible repeat (first | refine blk_drewN ?_ _ | refine blk_drew ?_ | refine blk_alloc ?_ _)); exact BK378.out⟩, ⟨by repeat (first | (with_reducible first | exact HB.out | apply below_alloc | apply pw_below_drewN | apply below_drew1 | refine below_set ?_ GE378.out) | exact HB.out)⟩⟩
                · rw [if_neg c44] at H
                  have c44b0 : decide (a1 ≤ a2) = false := decide_eq_false c44
                  clear c44
                  have H' := Aside0.mk H
                  clear H
                  have hcz57_0 : wc.cell? ⟨gb378, 0, none⟩ = some (.int .i64 a0_0) := (blk_cell BK378.out 0).trans rfl
                  have hcz57_1 : wc.cell? ⟨gb378, 1, none⟩ = some (.int .i64 a0_1) := (blk_cell BK378.out 1).trans rfl
                  have hcz57_2 : wc.cell? ⟨gb378, 2, none⟩ = some (.string a0_2) := (blk_cell BK378.out 2).trans rfl
                  have hcz57_3 : wc.cell? ⟨gb378, 3, none⟩ = some (.int .i64 a0_3) := (blk_cell BK378.out 3).trans rfl
                  have hcz57_4 : wc.cell? ⟨gb378, 4, none⟩ = some (.int .i64 a0_4) := (blk_cell BK378.out 4).trans rfl
                  have hfz57_0 := blk_frozen BK378.out 0
                  have hfz57_1 := blk_frozen BK378.out 1
                  have hfz57_2 := blk_frozen BK378.out 2
                  have hfz57_3 := blk_frozen BK378.out 3
                  have hfz57_4 := blk_frozen BK378.out 4
                  go_wp2_with (first | ((with_reducible refine gate_callee (f := 29) rfl ?_); refine goesL_ (some 61) rfl rfl Try.func29 (by kernel_rfl) rfl #[.agg #[.int .i64 a0_0, .int .i64 a0_1, .string a0_2, .int .i64 a0_3, .int .i64 a0_4], .int .i64 a1] rfl (by (try simp only [List.map_toArray, List.map_cons, List.map_nil]); first | done | rfl | (simp only [List.length_drop, List.length_take]; rfl)) ?_; (with_reducible refine (asset_Usable.calls kj6 a0_0 a0_1 a0_2 a0_3 a0_4 a1 t387 _ A40.out).mono ?_); rintro e w58 ⟨rfl, hb⟩; refine ⟨_, rfl, ?_⟩; have n0_ := Aside0.mk (blk_below (g := gb378) (o := .cells #[.int .i64 a0_0, .int .i64 a0_1, .string a0_2, .int .i64 a0_3, .int .i64 a0_4] 39 (0, 0)) (by (with_reducible repeat (first | refine blk_drewN ?_ _ | refine blk_drew ?_ | refine blk_alloc ?_ _)); exact BK378.out) hb); have n1_ := Aside0.mk (below_step (by repeat (first | (with_reducible first | exact HB.out | apply below_alloc | apply pw_below_drewN | apply below_drew1 | refine below_set ?_ GE378.out) | exact HB.out)) hb); clear BK378; clear HB; have BK378 := n0_; have HB := n1_; clear n0_ n1_; (try clear hb); (try clear hb2); (try clear hk); (try clear hi); have hcz59_0 : w58.cell? ⟨gb378, 0, none⟩ = some (.int .i64 a0_0) := (blk_cell BK378.out 0).trans rfl; have hcz59_1 : w58.cell? ⟨gb378, 1, none⟩ = some (.int .i64 a0_1) := (blk_cell BK378.out 1).trans rfl; have hcz59_2 : w58.cell? ⟨gb378, 2, none⟩ = some (.string a0_2) := (blk_cell BK378.out 2).trans rfl; have hcz59_3 : w58.cell? ⟨gb378, 3, none⟩ = some (.int .i64 a0_3) := (blk_cell BK378.out 3).trans rfl; have hcz59_4 : w58.cell? ⟨gb378, 4, none⟩ = some (.int .i64 a0_4) := (blk_cell BK378.out 4).trans rfl; have hfz59_0 := blk_frozen BK378.out 0; have hfz59_1 := blk_frozen BK378.out 1; have hfz59_2 := blk_frozen BK378.out 2; have hfz59_3 := blk_frozen BK378.out 3; have hfz59_4 := blk_frozen BK378.out 4) | (go_at_call 29; (with_reducible refine (asset_Usable.calls kj6 a0_0 a0_1 a0_2 a0_3 a0_4 a3 t388 _ A42.out).mono ?_); rintro e w60 ⟨rfl, hb⟩; have n0_ := Aside0.mk (blk_below (g := gb378) (o := .cells #[.int .i64 a0_0, .int .i64 a0_1, .string a0_2, .int .i64 a0_3, .int .i64 a0_4] 39 (0, 0)) (by (with_reducible repeat (first | refine blk_drewN ?_ _ | refine blk_drew ?_ | refine blk_alloc ?_ _)); exact BK378.out) hb); have n1_ := Aside0.mk (below_step (by repeat (first | (with_reducible first | exact HB.out | apply below_alloc | apply pw_below_drewN | apply below_drew1 | refine below_set ?_ GE378.out) | exact HB.out)) hb); clear BK378; clear HB; have BK378 := n0_; have HB := n1_; clear n0_ n1_; (try clear hb); (try clear hb2); (try clear hk); (try clear hi)))
                  go_meet
                  case rel => exact ⟨_, (false), (by first | rfl | (simp; done) | (simp [*]; done)), H', ⟨by have := HJ6.out; first | omega | exact Nat.le_refl _⟩, ⟨by (with_reducible repeat (first | refine blk_drewN ?_ _ | refine blk_drew ?_ | refine blk_alloc ?_ _)); exact BK378.out⟩, ⟨by repeat (first | (with_reducible first | exact HB.out | apply below_alloc | apply pw_below_drewN | apply below_drew1 | refine below_set ?_ GE378.out) | exact HB.out)⟩⟩
              · rw [if_neg c43] at H
                have c43b0 : (t388 == 0) = false := beq_eq_false_iff_ne.mpr c43
                have c43b1 : (t388 != 0) = true := bne_iff_ne.mpr c43
                have H' := Aside0.mk H
                clear H
                have hcz61_0 : wc.cell? ⟨gb378, 0, none⟩ = some (.int .i64 a0_0) := (blk_cell BK378.out 0).trans rfl
                have hcz61_1 : wc.cell? ⟨gb378, 1, none⟩ = some (.int .i64 a0_1) := (blk_cell BK378.out 1).trans rfl
                have hcz61_2 : wc.cell? ⟨gb378, 2, none⟩ = some (.string a0_2) := (blk_cell BK378.out 2).trans rfl
                have hcz61_3 : wc.cell? ⟨gb378, 3, none⟩ = some (.int .i64 a0_3) := (blk_cell BK378.out 3).trans rfl
                have hcz61_4 : wc.cell? ⟨gb378, 4, none⟩ = some (.int .i64 a0_4) := (blk_cell BK378.out 4).trans rfl
                have hfz61_0 := blk_frozen BK378.out 0
                have hfz61_1 := blk_frozen BK378.out 1
                have hfz61_2 := blk_frozen BK378.out 2
                have hfz61_3 := blk_frozen BK378.out 3
                have hfz61_4 := blk_frozen BK378.out 4
                go_wp2_with (first | ((with_reducible refine gate_callee (f := 29) rfl ?_); refine goesL_ (some 61) rfl rfl Try.func29 (by kernel_rfl) rfl #[.agg #[.int .i64 a0_0, .int .i64 a0_1, .string a0_2, .int .i64 a0_3, .int .i64 a0_4], .int .i64 a1] rfl (by (try simp only [List.map_toArray, List.map_cons, List.map_nil]); first | done | rfl | (simp only [List.length_drop, List.length_take]; rfl)) ?_; (with_reducible refine (asset_Usable.calls kj6 a0_0 a0_1 a0_2 a0_3 a0_4 a1 t387 _ A40.out).mono ?_); rintro e w62 ⟨rfl, hb⟩; refine ⟨_, rfl, ?_⟩; have n0_ := Aside0.mk (blk_below (g := gb378) (o := .cells #[.int .i64 a0_0, .int .i64 a0_1, .string a0_2, .int .i64 a0_3, .int .i64 a0_4] 39 (0, 0)) (by (with_reducible repeat (first | refine blk_drewN ?_ _ | refine blk_drew ?_ | refine blk_alloc ?_ _)); exact BK378.out) hb); have n1_ := Aside0.mk (below_step (by repeat (first | (with_reducible first | exact HB.out | apply below_alloc | apply pw_below_drewN | apply below_drew1 | refine below_set ?_ GE378.out) | exact HB.out)) hb); clear BK378; clear HB; have BK378 := n0_; have HB := n1_; clear n0_ n1_; (try clear hb); (try clear hb2); (try clear hk); (try clear hi); have hcz63_0 : w62.cell? ⟨gb378, 0, none⟩ = some (.int .i64 a0_0) := (blk_cell BK378.out 0).trans rfl; have hcz63_1 : w62.cell? ⟨gb378, 1, none⟩ = some (.int .i64 a0_1) := (blk_cell BK378.out 1).trans rfl; have hcz63_2 : w62.cell? ⟨gb378, 2, none⟩ = some (.string a0_2) := (blk_cell BK378.out 2).trans rfl; have hcz63_3 : w62.cell? ⟨gb378, 3, none⟩ = some (.int .i64 a0_3) := (blk_cell BK378.out 3).trans rfl; have hcz63_4 : w62.cell? ⟨gb378, 4, none⟩ = some (.int .i64 a0_4) := (blk_cell BK378.out 4).trans rfl; have hfz63_0 := blk_frozen BK378.out 0; have hfz63_1 := blk_frozen BK378.out 1; have hfz63_2 := blk_frozen BK378.out 2; have hfz63_3 := blk_frozen BK378.out 3; have hfz63_4 := blk_frozen BK378.out 4) | (go_at_call 29; (with_reducible refine (asset_Usable.calls kj6 a0_0 a0_1 a0_2 a0_3 a0_4 a3 t388 _ A42.out).mono ?_); rintro e w64 ⟨rfl, hb⟩; have n0_ := Aside0.mk (blk_below (g := gb378) (o := .cells #[.int .i64 a0_0, .int .i64 a0_1, .string a0_2, .int .i64 a0_3, .int .i64 a0_4] 39 (0, 0)) (by (with_reducible repeat (first | refine blk_drewN ?_ _ | refine blk_drew ?_ | refine blk_alloc ?_ _)); exact BK378.out) hb); have n1_ := Aside0.mk (below_step (by repeat (first | (with_reducible first | exact HB.out | apply below_alloc | apply pw_below_drewN | apply below_drew1 | refine below_set ?_ GE378.out) | exact HB.out)) hb); clear BK378; clear HB; have BK378 := n0_; have HB := n1_; clear n0_ n1_; (try clear hb); (try clear hb2); (try clear hk); (try clear hi)))
                go_meet
                case rel => exact ⟨_, (false), (by first | rfl | (simp; done) | (simp [*]; done)), H', ⟨by have := HJ6.out; first | omega | exact Nat.le_refl _⟩, ⟨by (with_reducible repeat (first | refine blk_drewN ?_ _ | refine blk_drew ?_ | refine blk_alloc ?_ _)); exact BK378.out⟩, ⟨by repeat (first | (with_reducible first | exact HB.out | apply below_alloc | apply pw_below_drewN | apply below_drew1 | refine below_set ?_ GE378.out) | exact HB.out)⟩⟩
            · rw [if_neg c41] at H
              have c41b0 : (t387 == 0) = false := beq_eq_false_iff_ne.mpr c41
              have c41b1 : (t387 != 0) = true := bne_iff_ne.mpr c41
              (first | rw [c41b0] | (simp only [i64_w, i32_w]; rw [c41b0]) | skip)
              have H' := Aside0.mk H
              clear H
              have hcz65_0 : wc.cell? ⟨gb378, 0, none⟩ = some (.int .i64 a0_0) := (blk_cell BK378.out 0).trans rfl
              have hcz65_1 : wc.cell? ⟨gb378, 1, none⟩ = some (.int .i64 a0_1) := (blk_cell BK378.out 1).trans rfl
              have hcz65_2 : wc.cell? ⟨gb378, 2, none⟩ = some (.string a0_2) := (blk_cell BK378.out 2).trans rfl
              have hcz65_3 : wc.cell? ⟨gb378, 3, none⟩ = some (.int .i64 a0_3) := (blk_cell BK378.out 3).trans rfl
              have hcz65_4 : wc.cell? ⟨gb378, 4, none⟩ = some (.int .i64 a0_4) := (blk_cell BK378.out 4).trans rfl
              have hfz65_0 := blk_frozen BK378.out 0
              have hfz65_1 := blk_frozen BK378.out 1
              have hfz65_2 := blk_frozen BK378.out 2
              have hfz65_3 := blk_frozen BK378.out 3
              have hfz65_4 := blk_frozen BK378.out 4
              go_wp2_with (first | ((with_reducible refine gate_callee (f := 29) rfl ?_); refine goesL_ (some 61) rfl rfl Try.func29 (by kernel_rfl) rfl #[.agg #[.int .i64 a0_0, .int .i64 a0_1, .string a0_2, .int .i64 a0_3, .int .i64 a0_4], .int .i64 a1] rfl (by (try simp only [List.map_toArray, List.map_cons, List.map_nil]); first | done | rfl | (simp only [List.length_drop, List.length_take]; rfl)) ?_; (with_reducible refine (asset_Usable.calls kj6 a0_0 a0_1 a0_2 a0_3 a0_4 a1 t387 _ A40.out).mono ?_); rintro e w66 ⟨rfl, hb⟩; refine ⟨_, rfl, ?_⟩; have n0_ := Aside0.mk (blk_below (g := gb378) (o := .cells #[.int .i64 a0_0, .int .i64 a0_1, .string a0_2, .int .i64 a0_3, .int .i64 a0_4] 39 (0, 0)) (by (with_reducible repeat (first | refine blk_drewN ?_ _ | refine blk_drew ?_ | refine blk_alloc ?_ _)); exact BK378.out) hb); have n1_ := Aside0.mk (below_step (by repeat (first | (with_reducible first | exact HB.out | apply below_alloc | apply pw_below_drewN | apply below_drew1 | refine below_set ?_ GE378.out) | exact HB.out)) hb); clear BK378; clear HB; have BK378 := n0_; have HB := n1_; clear n0_ n1_; (try clear hb); (try clear hb2); (try clear hk); (try clear hi)))
              go_meet
              case rel => exact ⟨_, (false), (by first | rfl | (simp; done) | (simp [*]; done)), H', ⟨by have := HJ6.out; first | omega | exact Nat.le_refl _⟩, ⟨by (with_reducible repeat (first | refine blk_drewN ?_ _ | refine blk_drew ?_ | refine blk_alloc ?_ _)); exact BK378.out⟩, ⟨by repeat (first | (with_reducible first | exact HB.out | apply below_alloc | apply pw_below_drewN | apply below_drew1 | refine below_set ?_ GE378.out) | exact HB.out)⟩⟩
          case rest =>
            clear HC39
            try clear c1
            try clear c2
            try clear p2
            try clear c3
            try clear c4
            try clear c6
            try clear c6b0
            try clear c6b1
            try clear p6
            try clear c11
            try clear c12
            try clear c12b0
            try clear c12b1
            try clear c14
            try clear c14b0
            try clear c14b1
            try clear c16
            try clear c16b0
            try clear c16b1
            try clear c27
            try clear c29
            try clear c38
            try clear c41
            try clear c41b0
            try clear c41b1
            try clear c43
            try clear c43b0
            try clear c43b1
            try clear c44
            try clear c44b0
            try clear c45
            try clear c45b0
            try clear p64
            try clear hcz18_0
            try clear hcz18_1
            try clear hcz18_2
            try clear hcz18_3
            try clear hcz18_4
            try clear hcz20_0
            try clear hcz20_1
            try clear hcz20_2
            try clear hcz20_3
            try clear hcz20_4
            try clear hcz22_0
            try clear hcz22_1
            try clear hcz22_2
            try clear hcz22_3
            try clear hcz22_4
            try clear hcz24_0
            try clear hcz24_1
            try clear hcz24_2
            try clear hcz24_3
            try clear hcz24_4
            try clear hcz26_0
            try clear hcz26_1
            try clear hcz26_2
            try clear hcz26_3
            try clear hcz26_4
            try clear hcz28_0
            try clear hcz28_1
            try clear hcz28_2
            try clear hcz28_3
            try clear hcz28_4
            try clear hcz30_0
            try clear hcz30_1
            try clear hcz30_2
            try clear hcz30_3
            try clear hcz30_4
            try clear hcz32_0
            try clear hcz32_1
            try clear hcz32_2
            try clear hcz32_3
            try clear hcz32_4
            try clear hcz34_0
            try clear hcz34_1
            try clear hcz34_2
            try clear hcz34_3
            try clear hcz34_4
            try clear hcz36_0
            try clear hcz36_1
            try clear hcz36_2
            try clear hcz36_3
            try clear hcz36_4
            try clear hcz47_0
            try clear hcz47_1
            try clear hcz47_2
            try clear hcz47_3
            try clear hcz47_4
            try clear hcz49_0
            try clear hcz49_1
            try clear hcz49_2
            try clear hcz49_3
            try clear hcz49_4
            try clear hcz51_0
            try clear hcz51_1
            try clear hcz51_2
            try clear hcz51_3
            try clear hcz51_4
            try clear hcz53_0
            try clear hcz53_1
            try clear hcz53_2
            try clear hcz53_3
            try clear hcz53_4
            try clear hcz55_0
            try clear hcz55_1
            try clear hcz55_2
            try clear hcz55_3
            try clear hcz55_4
            try clear hcz57_0
            try clear hcz57_1
            try clear hcz57_2
            try clear hcz57_3
            try clear hcz57_4
            try clear hcz59_0
            try clear hcz59_1
            try clear hcz59_2
            try clear hcz59_3
            try clear hcz59_4
            try clear hcz61_0
            try clear hcz61_1
            try clear hcz61_2
            try clear hcz61_3
            try clear hcz61_4
            try clear hcz63_0
            try clear hcz63_1
            try clear hcz63_2
            try clear hcz63_3
            try clear hcz63_4
            try clear hcz65_0
            try clear hcz65_1
            try clear hcz65_2
            try clear hcz65_3
            try clear hcz65_4
            try clear hcz9_0
            try clear hcz9_1
            try clear hcz9_2
            try clear hcz9_3
            try clear hcz9_4
            try clear hfz18_0
            try clear hfz18_1
            try clear hfz18_2
            try clear hfz18_3
            try clear hfz18_4
            try clear hfz20_0
            try clear hfz20_1
            try clear hfz20_2
            try clear hfz20_3
            try clear hfz20_4
            try clear hfz22_0
            try clear hfz22_1
            try clear hfz22_2
            try clear hfz22_3
            try clear hfz22_4
            try clear hfz24_0
            try clear hfz24_1
            try clear hfz24_2
            try clear hfz24_3
            try clear hfz24_4
            try clear hfz26_0
            try clear hfz26_1
            try clear hfz26_2
            try clear hfz26_3
            try clear hfz26_4
            try clear hfz28_0
            try clear hfz28_1
            try clear hfz28_2
            try clear hfz28_3
            try clear hfz28_4
            try clear hfz30_0
            try clear hfz30_1
            try clear hfz30_2
            try clear hfz30_3
            try clear hfz30_4
            try clear hfz32_0
            try clear hfz32_1
            try clear hfz32_2
            try clear hfz32_3
            try clear hfz32_4
            try clear hfz34_0
            try clear hfz34_1
            try clear hfz34_2
            try clear hfz34_3
            try clear hfz34_4
            try clear hfz36_0
            try clear hfz36_1
            try clear hfz36_2
            try clear hfz36_3
            try clear hfz36_4
            try clear hfz47_0
            try clear hfz47_1
            try clear hfz47_2
            try clear hfz47_3
            try clear hfz47_4
            try clear hfz49_0
            try clear hfz49_1
            try clear hfz49_2
            try clear hfz49_3
            try clear hfz49_4
            try clear hfz51_0
            try clear hfz51_1
            try clear hfz51_2
            try clear hfz51_3
            try clear hfz51_4
            try clear hfz53_0
            try clear hfz53_1
            try clear hfz53_2
            try clear hfz53_3
            try clear hfz53_4
            try clear hfz55_0
            try clear hfz55_1
            try clear hfz55_2
            try clear hfz55_3
            try clear hfz55_4
            try clear hfz57_0
            try clear hfz57_1
            try clear hfz57_2
            try clear hfz57_3
            try clear hfz57_4
            try clear hfz59_0
            try clear hfz59_1
            try clear hfz59_2
            try clear hfz59_3
            try clear hfz59_4
            try clear hfz61_0
            try clear hfz61_1
            try clear hfz61_2
            try clear hfz61_3
            try clear hfz61_4
            try clear hfz63_0
            try clear hfz63_1
            try clear hfz63_2
            try clear hfz63_3
            try clear hfz63_4
            try clear hfz65_0
            try clear hfz65_1
            try clear hfz65_2
            try clear hfz65_3
            try clear hfz65_4
            try clear hfz9_0
            try clear hfz9_1
            try clear hfz9_2
            try clear hfz9_3
            try clear hfz9_4
            try clear p2
            try clear p6
            obtain ⟨kq, x84_38, rfl, HA, HJ38, BK378, HB⟩ := hcut
            cases kq with
            | zero => exact absurd HA.out (by simp [examboardlaw17_AssetRights.j1])
            | succ kj38 =>
              have H := HA.out
              clear HA
              simp only [examboardlaw17_AssetRights.j1] at H
              by_cases c67 : x84_38 = true
              · subst c67
                have H1 : (none) = some r := by rw [if_pos rfl] at H; exact H
                clear H
                have H := H1
                clear H1
                exact absurd H (by simp)
              · replace c67 := Bool.eq_false_iff.mpr c67
                subst c67
                have H1 : ((asset_Usable.f kj38 a0_0 a0_1 a0_2 a0_3 a0_4 a2).bind fun t390 => (if t390 = 0 then ((examboardlaw17_awake.f kj38).bind fun t391 => (some t391)) else (if t390 = 17 then ((examboardlaw17_awake.f kj38).bind fun t392 => (some t392)) else (none)))) = some r := by rw [if_neg (show ¬ (false = true) by decide)] at H; exact H
                clear H
                have H := H1
                clear H1
                replace H := Option.bind_eq_some_iff.mp H
                obtain ⟨t390, A680, H⟩ := H
                replace H : (if t390 = 0 then ((examboardlaw17_awake.f kj38).bind fun t391 => (some t391)) else (if t390 = 17 then ((examboardlaw17_awake.f kj38).bind fun t392 => (some t392)) else (none))) = some r := H
                have A68 := Aside0.mk A680
                clear A680
                by_cases c69 : t390 = 0
                · rw [if_pos c69] at H
                  have c69b0 : (t390 == 0) = true := beq_iff_eq.mpr c69
                  have c69b1 : (t390 != 0) = false := bne_eq_false_iff_eq.mpr c69
                  clear c69
                  replace H := Option.bind_eq_some_iff.mp H
                  obtain ⟨t391, A700, H⟩ := H
                  replace H : (some t391) = some r := H
                  have A70 := Aside0.mk A700
                  clear A700
                  obtain rfl := Option.some.inj H
                  have hcz71_0 : wc.cell? ⟨gb378, 0, none⟩ = some (.int .i64 a0_0) := (blk_cell BK378.out 0).trans rfl
                  have hcz71_1 : wc.cell? ⟨gb378, 1, none⟩ = some (.int .i64 a0_1) := (blk_cell BK378.out 1).trans rfl
                  have hcz71_2 : wc.cell? ⟨gb378, 2, none⟩ = some (.string a0_2) := (blk_cell BK378.out 2).trans rfl
                  have hcz71_3 : wc.cell? ⟨gb378, 3, none⟩ = some (.int .i64 a0_3) := (blk_cell BK378.out 3).trans rfl
                  have hcz71_4 : wc.cell? ⟨gb378, 4, none⟩ = some (.int .i64 a0_4) := (blk_cell BK378.out 4).trans rfl
                  have hfz71_0 := blk_frozen BK378.out 0
                  have hfz71_1 := blk_frozen BK378.out 1
                  have hfz71_2 := blk_frozen BK378.out 2
                  have hfz71_3 := blk_frozen BK378.out 3
                  have hfz71_4 := blk_frozen BK378.out 4
                  go_wp2_with (first | ((with_reducible refine gate_callee (f := 29) rfl ?_); refine goesL_ (some 87) rfl rfl Try.func29 (by kernel_rfl) rfl #[.agg #[.int .i64 a0_0, .int .i64 a0_1, .string a0_2, .int .i64 a0_3, .int .i64 a0_4], .int .i64 a2] rfl (by (try simp only [List.map_toArray, List.map_cons, List.map_nil]); first | done | rfl | (simp only [List.length_drop, List.length_take]; rfl)) ?_; (with_reducible refine (asset_Usable.calls kj38 a0_0 a0_1 a0_2 a0_3 a0_4 a2 t390 _ A68.out).mono ?_); rintro e w72 ⟨rfl, hb⟩; refine ⟨_, rfl, ?_⟩; have n0_ := Aside0.mk (blk_below (g := gb378) (o := .cells #[.int .i64 a0_0, .int .i64 a0_1, .string a0_2, .int .i64 a0_3, .int .i64 a0_4] 39 (0, 0)) (by (with_reducible repeat (first | refine blk_drewN ?_ _ | refine blk_drew ?_ | refine blk_alloc ?_ _)); exact BK378.out) hb); have n1_ := Aside0.mk (below_step (by repeat (first | (with_reducible first | exact HB.out | apply below_alloc | apply pw_below_drewN | apply below_drew1 | refine below_set ?_ GE378.out) | exact HB.out)) hb); clear BK378; clear HB; have BK378 := n0_; have HB := n1_; clear n0_ n1_; (try clear hb); (try clear hb2); (try clear hk); (try clear hi)) | (go_at_call 31; (with_reducible refine (examboardlaw17_awake.calls kj38  t391 _ A70.out).mono ?_); rintro e w73 ⟨rfl, hb⟩; have n0_ := Aside0.mk (blk_below (g := gb378) (o := .cells #[.int .i64 a0_0, .int .i64 a0_1, .string a0_2, .int .i64 a0_3, .int .i64 a0_4] 39 (0, 0)) (by (with_reducible repeat (first | refine blk_drewN ?_ _ | refine blk_drew ?_ | refine blk_alloc ?_ _)); exact BK378.out) hb); have n1_ := Aside0.mk (below_step (by repeat (first | (with_reducible first | exact HB.out | apply below_alloc | apply pw_below_drewN | apply below_drew1 | refine below_set ?_ GE378.out) | exact HB.out)) hb); clear BK378; clear HB; have BK378 := n0_; have HB := n1_; clear n0_ n1_; (try clear hb); (try clear hb2); (try clear hk); (try clear hi)))
                  go_ret
                  exact ⟨by first | rfl | (simp [errW_none, errW_some] <;> rfl) | (simp [*, errW_none, errW_some] <;> rfl), by repeat (first | (with_reducible first | exact HB.out | apply below_alloc | apply pw_below_drewN | apply below_drew1 | refine below_set ?_ GE378.out) | exact HB.out)⟩
                · rw [if_neg c69] at H
                  have c69b0 : (t390 == 0) = false := beq_eq_false_iff_ne.mpr c69
                  have c69b1 : (t390 != 0) = true := bne_iff_ne.mpr c69
                  by_cases c74 : t390 = 17
                  · rw [if_pos c74] at H
                    have c74b0 : (t390 == 17) = true := beq_iff_eq.mpr c74
                    have c74b1 : (t390 != 17) = false := bne_eq_false_iff_eq.mpr c74
                    clear c74
                    replace H := Option.bind_eq_some_iff.mp H
                    obtain ⟨t392, A750, H⟩ := H
                    replace H : (some t392) = some r := H
                    have A75 := Aside0.mk A750
                    clear A750
                    obtain rfl := Option.some.inj H
                    have hcz76_0 : wc.cell? ⟨gb378, 0, none⟩ = some (.int .i64 a0_0) := (blk_cell BK378.out 0).trans rfl
                    have hcz76_1 : wc.cell? ⟨gb378, 1, none⟩ = some (.int .i64 a0_1) := (blk_cell BK378.out 1).trans rfl
                    have hcz76_2 : wc.cell? ⟨gb378, 2, none⟩ = some (.string a0_2) := (blk_cell BK378.out 2).trans rfl
                    have hcz76_3 : wc.cell? ⟨gb378, 3, none⟩ = some (.int .i64 a0_3) := (blk_cell BK378.out 3).trans rfl
                    have hcz76_4 : wc.cell? ⟨gb378, 4, none⟩ = some (.int .i64 a0_4) := (blk_cell BK378.out 4).trans rfl
                    have hfz76_0 := blk_frozen BK378.out 0
                    have hfz76_1 := blk_frozen BK378.out 1
                    have hfz76_2 := blk_frozen BK378.out 2
                    have hfz76_3 := blk_frozen BK378.out 3
                    have hfz76_4 := blk_frozen BK378.out 4
                    go_wp2_with (first | ((with_reducible refine gate_callee (f := 29) rfl ?_); refine goesL_ (some 87) rfl rfl Try.func29 (by kernel_rfl) rfl #[.agg #[.int .i64 a0_0, .int .i64 a0_1, .string a0_2, .int .i64 a0_3, .int .i64 a0_4], .int .i64 a2] rfl (by (try simp only [List.map_toArray, List.map_cons, List.map_nil]); first | done | rfl | (simp only [List.length_drop, List.length_take]; rfl)) ?_; (with_reducible refine (asset_Usable.calls kj38 a0_0 a0_1 a0_2 a0_3 a0_4 a2 t390 _ A68.out).mono ?_); rintro e w77 ⟨rfl, hb⟩; refine ⟨_, rfl, ?_⟩; have n0_ := Aside0.mk (blk_below (g := gb378) (o := .cells #[.int .i64 a0_0, .int .i64 a0_1, .string a0_2, .int .i64 a0_3, .int .i64 a0_4] 39 (0, 0)) (by (with_reducible repeat (first | refine blk_drewN ?_ _ | refine blk_drew ?_ | refine blk_alloc ?_ _)); exact BK378.out) hb); have n1_ := Aside0.mk (below_step (by repeat (first | (with_reducible first | exact HB.out | apply below_alloc | apply pw_below_drewN | apply below_drew1 | refine below_set ?_ GE378.out) | exact HB.out)) hb); clear BK378; clear HB; have BK378 := n0_; have HB := n1_; clear n0_ n1_; (try clear hb); (try clear hb2); (try clear hk); (try clear hi)) | (go_at_call 31; (with_reducible refine (examboardlaw17_awake.calls kj38  t392 _ A75.out).mono ?_); rintro e w78 ⟨rfl, hb⟩; have n0_ := Aside0.mk (blk_below (g := gb378) (o := .cells #[.int .i64 a0_0, .int .i64 a0_1, .string a0_2, .int .i64 a0_3, .int .i64 a0_4] 39 (0, 0)) (by (with_reducible repeat (first | refine blk_drewN ?_ _ | refine blk_drew ?_ | refine blk_alloc ?_ _)); exact BK378.out) hb); have n1_ := Aside0.mk (below_step (by repeat (first | (with_reducible first | exact HB.out | apply below_alloc | apply pw_below_drewN | apply below_drew1 | refine below_set ?_ GE378.out) | exact HB.out)) hb); clear BK378; clear HB; have BK378 := n0_; have HB := n1_; clear n0_ n1_; (try clear hb); (try clear hb2); (try clear hk); (try clear hi)))
                    go_ret
                    exact ⟨by first | rfl | (simp [errW_none, errW_some] <;> rfl) | (simp [*, errW_none, errW_some] <;> rfl), by repeat (first | (with_reducible first | exact HB.out | apply below_alloc | apply pw_below_drewN | apply below_drew1 | refine below_set ?_ GE378.out) | exact HB.out)⟩
                  · rw [if_neg c74] at H
                    exact absurd H (by simp)
  · rw [if_neg c6] at H
    have c6b0 : (t379 == 0) = false := beq_eq_false_iff_ne.mpr c6
    have c6b1 : (t379 != 0) = true := bne_iff_ne.mpr c6
    replace H := Option.bind_eq_some_iff.mp H
    obtain ⟨t380, A790, H⟩ := H
    replace H : (if t380 = t379 then ((asset_Usable.f k a0_0 a0_1 a0_2 a0_3 a0_4 a0_3).bind fun t381 => (if t381 = t379 then ((examboardlaw17_awake.f k).bind fun t382 => (some t382)) else (none))) else (none)) = some r := H
    have A79 := Aside0.mk A790
    clear A790
    by_cases c80 : t380 = t379
    · rw [if_pos c80] at H
      have c80b0 : (t380 == t379) = true := beq_iff_eq.mpr c80
      have c80b1 : (t380 != t379) = false := bne_eq_false_iff_eq.mpr c80
      clear c80
      replace H := Option.bind_eq_some_iff.mp H
      obtain ⟨t381, A810, H⟩ := H
      replace H : (if t381 = t379 then ((examboardlaw17_awake.f k).bind fun t382 => (some t382)) else (none)) = some r := H
      have A81 := Aside0.mk A810
      clear A810
      by_cases c82 : t381 = t379
      · rw [if_pos c82] at H
        have c82b0 : (t381 == t379) = true := beq_iff_eq.mpr c82
        have c82b1 : (t381 != t379) = false := bne_eq_false_iff_eq.mpr c82
        clear c82
        replace H := Option.bind_eq_some_iff.mp H
        obtain ⟨t382, A830, H⟩ := H
        replace H : (some t382) = some r := H
        have A83 := Aside0.mk A830
        clear A830
        obtain rfl := Option.some.inj H
        go_enter Try.func11, Try.ntmps11
        go_wp2_with (first | ((with_reducible refine gate_dst (N := 4) rfl ?_); refine box_event ?hg (N := 4) ?hd (cs := #[.int .i64 a0_0, .int .i64 a0_1, .string a0_2, .int .i64 a0_3, .int .i64 a0_4]) (t := 39) ?hr ?_; (case hd => rfl); (case hg => rfl); (case hr => first | (go_simp; done) | (go_simp; rfl)); intro gb378 hg w84 hbox hb; have n0_ := Aside0.mk (below_step (by repeat (first | (with_reducible first | exact HB.out | apply below_alloc | apply pw_below_drewN | apply below_drew1) | exact HB.out)) hb); have n1_ := Aside0.mk (hbox); have n2_ := Aside0.mk ((by rw [hg]; exact (below_size (by repeat (first | (with_reducible first | exact HB.out | apply below_alloc | apply pw_below_drewN | apply below_drew1) | exact HB.out))) : w.heap.size ≤ gb378)); have n3_ := Aside0.mk ((by rw [hg]; exact (below_size (by repeat (first | (with_reducible first | exact HB.out | apply below_alloc | apply pw_below_drewN | apply below_drew1) | exact HB.out))) : w.heap.size ≤ gb378)); clear HB; have HB := n0_; have BK378 := n1_; have GW378 := n2_; have GE378 := n3_; clear n0_ n1_ n2_ n3_; clear hb hbox hg; have hcz85_0 : w84.cell? ⟨gb378, 0, none⟩ = some (.int .i64 a0_0) := (blk_cell BK378.out 0).trans rfl; have hcz85_1 : w84.cell? ⟨gb378, 1, none⟩ = some (.int .i64 a0_1) := (blk_cell BK378.out 1).trans rfl; have hcz85_2 : w84.cell? ⟨gb378, 2, none⟩ = some (.string a0_2) := (blk_cell BK378.out 2).trans rfl; have hcz85_3 : w84.cell? ⟨gb378, 3, none⟩ = some (.int .i64 a0_3) := (blk_cell BK378.out 3).trans rfl; have hcz85_4 : w84.cell? ⟨gb378, 4, none⟩ = some (.int .i64 a0_4) := (blk_cell BK378.out 4).trans rfl; have hfz85_0 := blk_frozen BK378.out 0; have hfz85_1 := blk_frozen BK378.out 1; have hfz85_2 := blk_frozen BK378.out 2; have hfz85_3 := blk_frozen BK378.out 3; have hfz85_4 := blk_frozen BK378.out 4) | ((with_reducible refine gate_callee (f := 27) rfl ?_); refine goesL_ (some 12) rfl rfl Try.func27 (by kernel_rfl) rfl #[.agg #[.int .i64 a0_0, .int .i64 a0_1, .string a0_2, .int .i64 a0_3, .int .i64 a0_4]] rfl (by (try simp only [List.map_toArray, List.map_cons, List.map_nil]); first | done | rfl | (simp only [List.length_drop, List.length_take]; rfl)) ?_; (with_reducible refine (asset_Valid.calls k a0_0 a0_1 a0_2 a0_3 a0_4 t379 _ A5.out).mono ?_); rintro e w86 ⟨rfl, hb⟩; refine ⟨_, rfl, ?_⟩; have n0_ := Aside0.mk (blk_below (g := gb378) (o := .cells #[.int .i64 a0_0, .int .i64 a0_1, .string a0_2, .int .i64 a0_3, .int .i64 a0_4] 39 (0, 0)) (by (with_reducible repeat (first | refine blk_drewN ?_ _ | refine blk_drew ?_ | refine blk_alloc ?_ _)); exact BK378.out) hb); have n1_ := Aside0.mk (below_step (by repeat (first | (with_reducible first | exact HB.out | apply below_alloc | apply pw_below_drewN | apply below_drew1 | refine below_set ?_ GE378.out) | exact HB.out)) hb); clear BK378; clear HB; have BK378 := n0_; have HB := n1_; clear n0_ n1_; (try clear hb); (try clear hb2); (try clear hk); (try clear hi); have hcz87_0 : w86.cell? ⟨gb378, 0, none⟩ = some (.int .i64 a0_0) := (blk_cell BK378.out 0).trans rfl; have hcz87_1 : w86.cell? ⟨gb378, 1, none⟩ = some (.int .i64 a0_1) := (blk_cell BK378.out 1).trans rfl; have hcz87_2 : w86.cell? ⟨gb378, 2, none⟩ = some (.string a0_2) := (blk_cell BK378.out 2).trans rfl; have hcz87_3 : w86.cell? ⟨gb378, 3, none⟩ = some (.int .i64 a0_3) := (blk_cell BK378.out 3).trans rfl; have hcz87_4 : w86.cell? ⟨gb378, 4, none⟩ = some (.int .i64 a0_4) := (blk_cell BK378.out 4).trans rfl; have hfz87_0 := blk_frozen BK378.out 0; have hfz87_1 := blk_frozen BK378.out 1; have hfz87_2 := blk_frozen BK378.out 2; have hfz87_3 := blk_frozen BK378.out 3; have hfz87_4 := blk_frozen BK378.out 4) | ((with_reducible refine gate_callee (f := 29) rfl ?_); refine goesL_ (some 17) rfl rfl Try.func29 (by kernel_rfl) rfl #[.agg #[.int .i64 a0_0, .int .i64 a0_1, .string a0_2, .int .i64 a0_3, .int .i64 a0_4], .int .i64 a2] rfl (by (try simp only [List.map_toArray, List.map_cons, List.map_nil]); first | done | rfl | (simp only [List.length_drop, List.length_take]; rfl)) ?_; (with_reducible refine (asset_Usable.calls k a0_0 a0_1 a0_2 a0_3 a0_4 a2 t380 _ A79.out).mono ?_); rintro e w88 ⟨rfl, hb⟩; refine ⟨_, rfl, ?_⟩; have n0_ := Aside0.mk (blk_below (g := gb378) (o := .cells #[.int .i64 a0_0, .int .i64 a0_1, .string a0_2, .int .i64 a0_3, .int .i64 a0_4] 39 (0, 0)) (by (with_reducible repeat (first | refine blk_drewN ?_ _ | refine blk_drew ?_ | refine blk_alloc ?_ _)); exact BK378.out) hb); have n1_ := Aside0.mk (below_step (by repeat (first | (with_reducible first | exact HB.out | apply below_alloc | apply pw_below_drewN | apply below_drew1 | refine below_set ?_ GE378.out) | exact HB.out)) hb); clear BK378; clear HB; have BK378 := n0_; have HB := n1_; clear n0_ n1_; (try clear hb); (try clear hb2); (try clear hk); (try clear hi); have hcz89_0 : w88.cell? ⟨gb378, 0, none⟩ = some (.int .i64 a0_0) := (blk_cell BK378.out 0).trans rfl; have hcz89_1 : w88.cell? ⟨gb378, 1, none⟩ = some (.int .i64 a0_1) := (blk_cell BK378.out 1).trans rfl; have hcz89_2 : w88.cell? ⟨gb378, 2, none⟩ = some (.string a0_2) := (blk_cell BK378.out 2).trans rfl; have hcz89_3 : w88.cell? ⟨gb378, 3, none⟩ = some (.int .i64 a0_3) := (blk_cell BK378.out 3).trans rfl; have hcz89_4 : w88.cell? ⟨gb378, 4, none⟩ = some (.int .i64 a0_4) := (blk_cell BK378.out 4).trans rfl; have hfz89_0 := blk_frozen BK378.out 0; have hfz89_1 := blk_frozen BK378.out 1; have hfz89_2 := blk_frozen BK378.out 2; have hfz89_3 := blk_frozen BK378.out 3; have hfz89_4 := blk_frozen BK378.out 4) | (go_at_call 29; (with_reducible refine (asset_Usable.calls k a0_0 a0_1 a0_2 a0_3 a0_4 a0_3 t381 _ A81.out).mono ?_); rintro e w90 ⟨rfl, hb⟩; have n0_ := Aside0.mk (blk_below (g := gb378) (o := .cells #[.int .i64 a0_0, .int .i64 a0_1, .string a0_2, .int .i64 a0_3, .int .i64 a0_4] 39 (0, 0)) (by (with_reducible repeat (first | refine blk_drewN ?_ _ | refine blk_drew ?_ | refine blk_alloc ?_ _)); exact BK378.out) hb); have n1_ := Aside0.mk (below_step (by repeat (first | (with_reducible first | exact HB.out | apply below_alloc | apply pw_below_drewN | apply below_drew1 | refine below_set ?_ GE378.out) | exact HB.out)) hb); clear BK378; clear HB; have BK378 := n0_; have HB := n1_; clear n0_ n1_; (try clear hb); (try clear hb2); (try clear hk); (try clear hi)) | (go_at_call 31; (with_reducible refine (examboardlaw17_awake.calls k  t382 _ A83.out).mono ?_); rintro e w91 ⟨rfl, hb⟩; have n0_ := Aside0.mk (blk_below (g := gb378) (o := .cells #[.int .i64 a0_0, .int .i64 a0_1, .string a0_2, .int .i64 a0_3, .int .i64 a0_4] 39 (0, 0)) (by (with_reducible repeat (first | refine blk_drewN ?_ _ | refine blk_drew ?_ | refine blk_alloc ?_ _)); exact BK378.out) hb); have n1_ := Aside0.mk (below_step (by repeat (first | (with_reducible first | exact HB.out | apply below_alloc | apply pw_below_drewN | apply below_drew1 | refine below_set ?_ GE378.out) | exact HB.out)) hb); clear BK378; clear HB; have BK378 := n0_; have HB := n1_; clear n0_ n1_; (try clear hb); (try clear hb2); (try clear hk); (try clear hi)))
        go_ret
        exact ⟨by first | rfl | (simp [errW_none, errW_some] <;> rfl) | (simp [*, errW_none, errW_some] <;> rfl), by repeat (first | (with_reducible first | exact HB.out | apply below_alloc | apply pw_below_drewN | apply below_drew1 | refine below_set ?_ GE378.out) | exact HB.out)⟩
      · rw [if_neg c82] at H
        exact absurd H (by simp)
    · rw [if_neg c80] at H
      exact absurd H (by simp)

end Go.Proofs.Ytgeplglggcoaiaa.Asset
