/- Lean functions and walks for Go functions of this seat, written by this claim's own program (wip/tools/xprint.py) over the kit's print. -/
import Derived.Test.YtgeplglggcoaiaaHoldx0
namespace Go.Proofs.Ytgeplglggcoaiaa.Hold
open Go.RowKit Go.Sort Go.Proofs.YtgeplglggcoaiaaW.PrintWords Go.Proofs.YtgeplglggcoaiaaW.PrintLast Go.Proofs.YtgeplglggcoaiaaW.PrintMore
attribute [local go_sem] max2_int min2_int max_two min_two max_three min_three max_four min_four   -- for this text's walks alone
set_option linter.unusedVariables false
set_option linter.unusedSimpArgs false

/-! ### examboardref54_holds: function 61 -/
mutual
def examboardref54_holds.l0 : Nat → Int → Int → Int → Int → List (S30) → Option (Int)
  | 0, _, _, _, _, _ => none
  | k + 1, x3, x133000, x133001, x133002, x133003 => if x3 < (x133003.length : Int) then (if 0 ≤ x3 then (if ((rd_T30 x133003 x3).f0) < 1 then (examboardref54_holds.j1 k x3 true x133000 x133001 x133002 x133003 ((rd_T30 x133003 x3).f0) ((rd_T30 x133003 x3).f1) ((rd_T30 x133003 x3).f2)) else (examboardref54_holds.j1 k x3 (decide (((rd_T30 x133003 x3).f0) > 5)) x133000 x133001 x133002 x133003 ((rd_T30 x133003 x3).f0) ((rd_T30 x133003 x3).f1) ((rd_T30 x133003 x3).f2))) else (none)) else (some 0)
def examboardref54_holds.j1 : Nat → Int → Bool → Int → Int → Int → List (S30) → Int → Int → Int → Option (Int)
  | 0, _, _, _, _, _, _, _, _, _ => none
  | k + 1, x3, x24, x133000, x133001, x133002, x133003, x135000, x135001, x135002 => if x24 = true then (some 1) else (if x135001 < 0 then (examboardref54_holds.j2 k x3 true x133000 x133001 x133002 x133003 x135000 x135001 x135002) else (if x135001 > x133002 then (examboardref54_holds.j2 k x3 true x133000 x133001 x133002 x133003 x135000 x135001 x135002) else (if x135002 < 0 then (examboardref54_holds.j2 k x3 true x133000 x133001 x133002 x133003 x135000 x135001 x135002) else (examboardref54_holds.j2 k x3 (decide (x135002 > x133002)) x133000 x133001 x133002 x133003 x135000 x135001 x135002))))
def examboardref54_holds.j2 : Nat → Int → Bool → Int → Int → Int → List (S30) → Int → Int → Int → Option (Int)
  | 0, _, _, _, _, _, _, _, _, _ => none
  | k + 1, x3, x46, x133000, x133001, x133002, x133003, x135000, x135001, x135002 => if x46 = true then (some 3) else (if x135002 > 0 then (if x135002 < x135001 then (some 15) else (examboardref54_holds.l0 k (wrap64 (x3 + 1)) x133000 x133001 x133002 x133003)) else (examboardref54_holds.l0 k (wrap64 (x3 + 1)) x133000 x133001 x133002 x133003))
end
def examboardref54_holds.f (k : Nat) (a0_0 : Int) (a0_1 : Int) (a0_2 : Int) (l0_3 : List (S30)) : Option (Int) := examboardref54_holds.l0 k 0 a0_0 a0_1 a0_2 l0_3
theorem examboardref54_holds.mono_l : ∀ k, (∀ y0 y1 y2 y3 y4, LeO (examboardref54_holds.l0 k y0 y1 y2 y3 y4) (examboardref54_holds.l0 (k + 1) y0 y1 y2 y3 y4)) ∧ (∀ y0 y1 y2 y3 y4 y5 y6 y7 y8, LeO (examboardref54_holds.j1 k y0 y1 y2 y3 y4 y5 y6 y7 y8) (examboardref54_holds.j1 (k + 1) y0 y1 y2 y3 y4 y5 y6 y7 y8)) ∧ (∀ y0 y1 y2 y3 y4 y5 y6 y7 y8, LeO (examboardref54_holds.j2 k y0 y1 y2 y3 y4 y5 y6 y7 y8) (examboardref54_holds.j2 (k + 1) y0 y1 y2 y3 y4 y5 y6 y7 y8))
  | 0 => ⟨fun _ _ _ _ _ r h => by simp [examboardref54_holds.l0] at h, fun _ _ _ _ _ _ _ _ _ r h => by simp [examboardref54_holds.j1] at h, fun _ _ _ _ _ _ _ _ _ r h => by simp [examboardref54_holds.j2] at h⟩
  | k + 1 => by
    obtain ⟨ih0, ih1, ih2⟩ := examboardref54_holds.mono_l k
    refine ⟨?_, ?_, ?_⟩
    · intro y0 y1 y2 y3 y4
      unfold examboardref54_holds.l0
      repeat' first
      | (with_reducible exact ih0 _ _ _ _ _)
      | (with_reducible exact ih1 _ _ _ _ _ _ _ _ _)
      | (with_reducible exact ih2 _ _ _ _ _ _ _ _ _)
      | (with_reducible exact LeO.refl _)
      | (with_reducible exact LeO.none _)
      | (with_reducible refine LeO.ite ?_ ?_)
      | (with_reducible refine LeO.bind ?_ (fun _ => ?_))
      | exact ih0 _ _ _ _ _
      | exact ih1 _ _ _ _ _ _ _ _ _
      | exact ih2 _ _ _ _ _ _ _ _ _
      | exact LeO.none _
      | refine LeO.ite ?_ ?_
      | refine LeO.bind ?_ (fun _ => ?_)
    · intro y0 y1 y2 y3 y4 y5 y6 y7 y8
      unfold examboardref54_holds.j1
      repeat' first
      | (with_reducible exact ih0 _ _ _ _ _)
      | (with_reducible exact ih1 _ _ _ _ _ _ _ _ _)
      | (with_reducible exact ih2 _ _ _ _ _ _ _ _ _)
      | (with_reducible exact LeO.refl _)
      | (with_reducible exact LeO.none _)
      | (with_reducible refine LeO.ite ?_ ?_)
      | (with_reducible refine LeO.bind ?_ (fun _ => ?_))
      | exact ih0 _ _ _ _ _
      | exact ih1 _ _ _ _ _ _ _ _ _
      | exact ih2 _ _ _ _ _ _ _ _ _
      | exact LeO.none _
      | refine LeO.ite ?_ ?_
      | refine LeO.bind ?_ (fun _ => ?_)
    · intro y0 y1 y2 y3 y4 y5 y6 y7 y8
      unfold examboardref54_holds.j2
      repeat' first
      | (with_reducible exact ih0 _ _ _ _ _)
      | (with_reducible exact ih1 _ _ _ _ _ _ _ _ _)
      | (with_reducible exact ih2 _ _ _ _ _ _ _ _ _)
      | (with_reducible exact LeO.refl _)
      | (with_reducible exact LeO.none _)
      | (with_reducible refine LeO.ite ?_ ?_)
      | (with_reducible refine LeO.bind ?_ (fun _ => ?_))
      | exact ih0 _ _ _ _ _
      | exact ih1 _ _ _ _ _ _ _ _ _
      | exact ih2 _ _ _ _ _ _ _ _ _
      | exact LeO.none _
      | refine LeO.ite ?_ ?_
      | refine LeO.bind ?_ (fun _ => ?_)
theorem examboardref54_holds.mono : ∀ a0 a1 a2 a3 k, LeO (examboardref54_holds.f k a0 a1 a2 a3) (examboardref54_holds.f (k + 1) a0 a1 a2 a3) := by
  intro a0 a1 a2 a3 k
  obtain ⟨ih0, ih1, ih2⟩ := examboardref54_holds.mono_l k
  unfold examboardref54_holds.f
  repeat' first
      | (with_reducible exact ih0 _ _ _ _ _)
      | (with_reducible exact ih1 _ _ _ _ _ _ _ _ _)
      | (with_reducible exact ih2 _ _ _ _ _ _ _ _ _)
      | (with_reducible exact LeO.refl _)
      | (with_reducible exact LeO.none _)
      | (with_reducible refine LeO.ite ?_ ?_)
      | (with_reducible refine LeO.bind ?_ (fun _ => ?_))
      | exact ih0 _ _ _ _ _
      | exact ih1 _ _ _ _ _ _ _ _ _
      | exact ih2 _ _ _ _ _ _ _ _ _
      | exact LeO.none _
      | refine LeO.ite ?_ ?_
      | refine LeO.bind ?_ (fun _ => ?_)
set_option maxHeartbeats 8000000 in
set_option maxRecDepth 100000 in
theorem examboardref54_holds.calls (k : Nat) (a0_0 : Int) (a0_1 : Int) (a0_2 : Int) (A0_3 : Option Addr) (c0_3 : Nat) (l0_3 : List (S30)) (r : Int) (w : World) (hr0_3 : Kd.C k30 w A0_3 l0_3.length l0_3) (hc0_3 : l0_3.length ≤ c0_3) (h : examboardref54_holds.f k a0_0 a0_1 a0_2 l0_3 = some r) :
    Calls Try.prog 61 #[.agg #[.int .i64 a0_0, .int .i64 a0_1, .int .i64 a0_2, .slice A0_3 l0_3.length c0_3]] w fun e w' => e = .returned (.int .i64 r) ∧ Below w.heap.size w w' := by
  have hu24 := Try.underlying24
  have hu30 := Try.underlying30
  have HR0_3 := Aside0.mk hr0_3
  have HC0_3 := Aside0.mk hc0_3
  clear hr0_3 hc0_3
  have HB := Aside0.mk (Below.refl w.heap.size w)
  have H : (examboardref54_holds.l0 k 0 a0_0 a0_1 a0_2 l0_3) = some r := h
  clear h
  have H' := Aside0.mk H
  clear H
  go_enter Try.func61, Try.ntmps61
  go_wp2_with (first | ((with_reducible refine gate_dst (N := 1) rfl ?_); refine box_event ?hg (N := 1) ?hd (cs := #[.int .i64 a0_0, .int .i64 a0_1, .int .i64 a0_2, .slice A0_3 l0_3.length c0_3]) (t := 24) ?hr ?_; (case hd => rfl); (case hg => rfl); (case hr => first | (go_simp; done) | (go_simp; rfl)); intro gb132 hg w2 hbox hb; have n0_ := Aside0.mk (below_step (by repeat (first | (with_reducible first | exact HB.out | apply below_alloc | apply pw_below_drewN | apply below_drew1) | exact HB.out)) hb); have n1_ := Aside0.mk (hbox); have n2_ := Aside0.mk ((by rw [hg]; exact (below_size (by repeat (first | (with_reducible first | exact HB.out | apply below_alloc | apply pw_below_drewN | apply below_drew1) | exact HB.out))) : w.heap.size ≤ gb132)); have n3_ := Aside0.mk ((by rw [hg]; exact (below_size (by repeat (first | (with_reducible first | exact HB.out | apply below_alloc | apply pw_below_drewN | apply below_drew1) | exact HB.out))) : w.heap.size ≤ gb132)); clear HB; have HB := n0_; have BK132 := n1_; have GW132 := n2_; have GE132 := n3_; clear n0_ n1_ n2_ n3_; clear hb hbox hg))
  go_loopg [3] k (fun kq v3 w' => ∃ (x3_1 : Int), v3 = .int .i64 x3_1 ∧ Aside0 (examboardref54_holds.l0 kq x3_1 a0_0 a0_1 a0_2 l0_3 = some r) ∧ Aside0 (kq ≤ k) ∧ Aside0 (w'.heap[gb132]? = some (.cells #[.int .i64 a0_0, .int .i64 a0_1, .int .i64 a0_2, (.slice A0_3 l0_3.length c0_3)] 24 (0, 0))) ∧ Aside0 (Below w.heap.size w w'))
  case atStart => exact ⟨(0), (by first | rfl | (simp; done) | (simp [*]; done)), H', ⟨Nat.le_refl _⟩, ⟨by (with_reducible repeat (first | refine blk_drewN ?_ _ | refine blk_drew ?_ | refine blk_alloc ?_ _)); exact BK132.out⟩, ⟨by repeat (first | (with_reducible first | exact HB.out | apply below_alloc | apply pw_below_drewN | apply below_drew1 | refine below_set ?_ GE132.out) | exact HB.out)⟩⟩
  case round =>
    clear H'
    try clear p2
    obtain ⟨x3_1, rfl, HA, HK1, BK132, HB⟩ := hrel
    cases gk with
    | zero => exact absurd HA.out (by simp [examboardref54_holds.l0])
    | succ k1 =>
      have H := HA.out
      clear HA
      simp only [examboardref54_holds.l0] at H
      by_cases c3 : x3_1 < (l0_3.length : Int)
      · rw [if_pos c3] at H
        have c3b0 : decide (x3_1 < (l0_3.length : Int)) = true := decide_eq_true c3
        clear c3
        by_cases c4 : 0 ≤ x3_1
        · rw [if_pos c4] at H
          have c4b0 : decide (0 ≤ x3_1) = true := decide_eq_true c4
          clear c4
          have HC5 := Aside0.mk H
          clear H
          have hcz6_0 : wr.cell? ⟨gb132, 0, none⟩ = some (.int .i64 a0_0) := (blk_cell BK132.out 0).trans rfl
          have hcz6_1 : wr.cell? ⟨gb132, 1, none⟩ = some (.int .i64 a0_1) := (blk_cell BK132.out 1).trans rfl
          have hcz6_2 : wr.cell? ⟨gb132, 2, none⟩ = some (.int .i64 a0_2) := (blk_cell BK132.out 2).trans rfl
          have hcz6_3 : wr.cell? ⟨gb132, 3, none⟩ = some (.slice A0_3 l0_3.length c0_3) := (blk_cell BK132.out 3).trans rfl
          have hfz6_0 := blk_frozen BK132.out 0
          have hfz6_1 := blk_frozen BK132.out 1
          have hfz6_2 := blk_frozen BK132.out 2
          have hfz6_3 := blk_frozen BK132.out 3
          have p133 : 0 ≤ (x3_1 : Int) := of_decide_eq_true (by first | (with_reducible assumption) | assumption)
          have q133 : x3_1 < (l0_3.length : Int) := of_decide_eq_true (by first | (with_reducible assumption) | assumption)
          obtain ⟨ad133, e133, hx133_0, hx133_1, hx133_2⟩ := at_T30 HR0_3.out x3_1 p133 q133
          cases e133
          replace hx133_0 := (HB.out.cell (World.block_lt_of_cell? w _ hx133_0)).trans hx133_0
          replace hx133_1 := (HB.out.cell (World.block_lt_of_cell? w _ hx133_1)).trans hx133_1
          replace hx133_2 := (HB.out.cell (World.block_lt_of_cell? w _ hx133_2)).trans hx133_2
          replace p133 := eq_true p133
          replace q133 := eq_true q133
          go_upto_region 5 with (first | ((with_reducible refine gate_dst (N := 4) rfl ?_); refine box_event ?hg (N := 4) ?hd (cs := #[.int .i64 0, .int .i64 0, .int .i64 0]) (t := 30) ?hr ?_; (case hd => rfl); (case hg => rfl); (case hr => first | (go_simp; done) | (go_simp; rfl)); intro gb134 hg w7 hbox hb; have n0_ := Aside0.mk (blk_below (g := gb132) (o := .cells #[.int .i64 a0_0, .int .i64 a0_1, .int .i64 a0_2, .slice (some ad133) l0_3.length c0_3] 24 (0, 0)) (by (with_reducible repeat (first | refine blk_drewN ?_ _ | refine blk_drew ?_ | refine blk_alloc ?_ _)); exact BK132.out) hb); have n1_ := Aside0.mk (below_step (by repeat (first | (with_reducible first | exact HB.out | apply below_alloc | apply pw_below_drewN | apply below_drew1 | refine below_set ?_ GE132.out) | exact HB.out)) hb); have n2_ := Aside0.mk (hbox); have n3_ := Aside0.mk ((by rw [hg]; exact (below_size (by repeat (first | (with_reducible first | exact HB.out | apply below_alloc | apply pw_below_drewN | apply below_drew1 | refine below_set ?_ GE132.out) | exact HB.out))) : w.heap.size ≤ gb134)); have n4_ := Aside0.mk ((by rw [hg]; exact (below_size (by repeat (first | (with_reducible first | exact HB.out | apply below_alloc | apply pw_below_drewN | apply below_drew1 | refine below_set ?_ GE132.out) | exact HB.out))) : w.heap.size ≤ gb134)); have n5_ := Aside0.mk ((by rw [hg]; exact Nat.ne_of_lt (blk_lt (g := gb132) (o := .cells #[.int .i64 a0_0, .int .i64 a0_1, .int .i64 a0_2, .slice (some ad133) l0_3.length c0_3] 24 (0, 0)) (by (with_reducible repeat (first | refine blk_drewN ?_ _ | refine blk_drew ?_ | refine blk_alloc ?_ _)); exact BK132.out)) : gb132 ≠ gb134)); have n6_ := Aside0.mk ((by rw [hg]; exact Nat.ne_of_gt (blk_lt (g := gb132) (o := .cells #[.int .i64 a0_0, .int .i64 a0_1, .int .i64 a0_2, .slice (some ad133) l0_3.length c0_3] 24 (0, 0)) (by (with_reducible repeat (first | refine blk_drewN ?_ _ | refine blk_drew ?_ | refine blk_alloc ?_ _)); exact BK132.out)) : gb134 ≠ gb132)); clear BK132; clear HB; have BK132 := n0_; have HB := n1_; have BK134 := n2_; have GW134 := n3_; have GE134 := n4_; have NB132_134 := n5_; have NB134_132 := n6_; clear n0_ n1_ n2_ n3_ n4_ n5_ n6_; clear hb hbox hg; have hnb8 := NB134_132.out; have hnc8 := NB132_134.out; have hcz9_0 : w7.cell? ⟨gb134, 0, none⟩ = some (.int .i64 0) := (blk_cell BK134.out 0).trans rfl; have hcz9_1 : w7.cell? ⟨gb134, 1, none⟩ = some (.int .i64 0) := (blk_cell BK134.out 1).trans rfl; have hcz9_2 : w7.cell? ⟨gb134, 2, none⟩ = some (.int .i64 0) := (blk_cell BK134.out 2).trans rfl; have hfz9_0 := blk_frozen BK134.out 0; have hfz9_1 := blk_frozen BK134.out 1; have hfz9_2 := blk_frozen BK134.out 2))
          (try simp only [Act.put, List.setIfInBounds_toArray, List.set_cons_zero, List.set_cons_succ])
          go_cut [24] (fun v24 wc => ∃ (kq : Nat) (x24_4 : Bool), v24 = .bool x24_4 ∧ Aside0 (examboardref54_holds.j1 kq x3_1 x24_4 a0_0 a0_1 a0_2 l0_3 ((rd_T30 l0_3 x3_1).f0) ((rd_T30 l0_3 x3_1).f1) ((rd_T30 l0_3 x3_1).f2) = some r) ∧ Aside0 (kq ≤ k1) ∧ Aside0 (wc.heap[gb132]? = some (.cells #[.int .i64 a0_0, .int .i64 a0_1, .int .i64 a0_2, (.slice (some ad133) l0_3.length c0_3)] 24 (0, 0))) ∧ Aside0 (wc.heap[gb134]? = some (.cells #[.int .i64 ((rd_T30 l0_3 x3_1).f0), .int .i64 ((rd_T30 l0_3 x3_1).f1), .int .i64 ((rd_T30 l0_3 x3_1).f2)] 30 (0, 0))) ∧ Aside0 (Below w.heap.size w wc))
          case first =>
            have H := HC5.out
            clear HC5
            by_cases c10 : ((rd_T30 l0_3 x3_1).f0) < 1
            · rw [if_pos c10] at H
              have c10b0 : decide (((rd_T30 l0_3 x3_1).f0) < 1) = true := decide_eq_true c10
              clear c10
              (first | rw [c10b0] | (simp only [i64_w, i32_w]; rw [c10b0]) | skip)
              have H' := Aside0.mk H
              clear H
              have hnb11 := NB134_132.out
              have hnc11 := NB132_134.out
              have hcz12_0 : w7.cell? ⟨gb134, 0, none⟩ = some (.int .i64 0) := (blk_cell BK134.out 0).trans rfl
              have hcz12_1 : w7.cell? ⟨gb134, 1, none⟩ = some (.int .i64 0) := (blk_cell BK134.out 1).trans rfl
              have hcz12_2 : w7.cell? ⟨gb134, 2, none⟩ = some (.int .i64 0) := (blk_cell BK134.out 2).trans rfl
              have hfz12_0 := blk_frozen BK134.out 0
              have hfz12_1 := blk_frozen BK134.out 1
              have hfz12_2 := blk_frozen BK134.out 2
              go_wp2
              go_meet
              case rel => exact ⟨_, (true), (by first | rfl | (simp; done) | (simp [*]; done)), H', ⟨by have := HK1.out; first | omega | exact Nat.le_refl _⟩, ⟨by (with_reducible repeat (first | refine blk_drewN ?_ _ | refine blk_drew ?_ | refine blk_alloc ?_ _)); refine blk_far ?_ NB132_134.out _; (with_reducible repeat (first | refine blk_drewN ?_ _ | refine blk_drew ?_ | refine blk_alloc ?_ _)); refine blk_far ?_ NB132_134.out _; (with_reducible repeat (first | refine blk_drewN ?_ _ | refine blk_drew ?_ | refine blk_alloc ?_ _)); refine blk_far ?_ NB132_134.out _; (with_reducible repeat (first | refine blk_drewN ?_ _ | refine blk_drew ?_ | refine blk_alloc ?_ _)); exact BK132.out⟩, ⟨by (with_reducible repeat (first | refine blk_drewN ?_ _ | refine blk_drew ?_ | refine blk_alloc ?_ _)); refine blk_put (cs := #[.int .i64 ((rd_T30 l0_3 x3_1).f0), .int .i64 ((rd_T30 l0_3 x3_1).f1), .int .i64 0]) ?_ 2 _ rfl; (with_reducible repeat (first | refine blk_drewN ?_ _ | refine blk_drew ?_ | refine blk_alloc ?_ _)); refine blk_put (cs := #[.int .i64 ((rd_T30 l0_3 x3_1).f0), .int .i64 0, .int .i64 0]) ?_ 1 _ rfl; (with_reducible repeat (first | refine blk_drewN ?_ _ | refine blk_drew ?_ | refine blk_alloc ?_ _)); refine blk_put (cs := #[.int .i64 0, .int .i64 0, .int .i64 0]) ?_ 0 _ rfl; (with_reducible repeat (first | refine blk_drewN ?_ _ | refine blk_drew ?_ | refine blk_alloc ?_ _)); exact BK134.out⟩, ⟨by repeat (first | (with_reducible first | exact HB.out | apply below_alloc | apply pw_below_drewN | apply below_drew1 | refine below_set ?_ GE132.out | refine below_set ?_ GE134.out) | exact HB.out)⟩⟩
            · rw [if_neg c10] at H
              have c10b0 : decide (((rd_T30 l0_3 x3_1).f0) < 1) = false := decide_eq_false c10
              clear c10
              (first | rw [c10b0] | (simp only [i64_w, i32_w]; rw [c10b0]) | skip)
              have H' := Aside0.mk H
              clear H
              have hnb13 := NB134_132.out
              have hnc13 := NB132_134.out
              have hcz14_0 : w7.cell? ⟨gb134, 0, none⟩ = some (.int .i64 0) := (blk_cell BK134.out 0).trans rfl
              have hcz14_1 : w7.cell? ⟨gb134, 1, none⟩ = some (.int .i64 0) := (blk_cell BK134.out 1).trans rfl
              have hcz14_2 : w7.cell? ⟨gb134, 2, none⟩ = some (.int .i64 0) := (blk_cell BK134.out 2).trans rfl
              have hfz14_0 := blk_frozen BK134.out 0
              have hfz14_1 := blk_frozen BK134.out 1
              have hfz14_2 := blk_frozen BK134.out 2
              go_wp2
              go_meet
              case rel => exact ⟨_, (decide (((rd_T30 l0_3 x3_1).f0) > 5)), (by first | rfl | (simp; done) | (simp [*]; done)), H', ⟨by have := HK1.out; first | omega | exact Nat.le_refl _⟩, ⟨by (with_reducible repeat (first | refine blk_drewN ?_ _ | refine blk_drew ?_ | refine blk_alloc ?_ _)); refine blk_far ?_ NB132_134.out _; (with_reducible repeat (first | refine blk_drewN ?_ _ | refine blk_drew ?_ | refine blk_alloc ?_ _)); refine blk_far ?_ NB132_134.out _; (with_reducible repeat (first | refine blk_drewN ?_ _ | refine blk_drew ?_ | refine blk_alloc ?_ _)); refine blk_far ?_ NB132_134.out _; (with_reducible repeat (first | refine blk_drewN ?_ _ | refine blk_drew ?_ | refine blk_alloc ?_ _)); exact BK132.out⟩, ⟨by (with_reducible repeat (first | refine blk_drewN ?_ _ | refine blk_drew ?_ | refine blk_alloc ?_ _)); refine blk_put (cs := #[.int .i64 ((rd_T30 l0_3 x3_1).f0), .int .i64 ((rd_T30 l0_3 x3_1).f1), .int .i64 0]) ?_ 2 _ rfl; (with_reducible repeat (first | refine blk_drewN ?_ _ | refine blk_drew ?_ | refine blk_alloc ?_ _)); refine blk_put (cs := #[.int .i64 ((rd_T30 l0_3 x3_1).f0), .int .i64 0, .int .i64 0]) ?_ 1 _ rfl; (with_reducible repeat (first | refine blk_drewN ?_ _ | refine blk_drew ?_ | refine blk_alloc ?_ _)); refine blk_put (cs := #[.int .i64 0, .int .i64 0, .int .i64 0]) ?_ 0 _ rfl; (with_reducible repeat (first | refine blk_drewN ?_ _ | refine blk_drew ?_ | refine blk_alloc ?_ _)); exact BK134.out⟩, ⟨by repeat (first | (with_reducible first | exact HB.out | apply below_alloc | apply pw_below_drewN | apply below_drew1 | refine below_set ?_ GE132.out | refine below_set ?_ GE134.out) | exact HB.out)⟩⟩
          case rest =>
            clear HC5
            try clear c1
            try clear p1
            try clear q1
            try clear hx1
            try clear p2
            try clear c3
            try clear c3b0
            try clear c4
            try clear c4b0
            try clear c6
            try clear c8
            try clear c10
            try clear c10b0
            try clear c11
            try clear c13
            try clear p13
            try clear q13
            try clear hx13
            try clear hcz12_0
            try clear hcz12_1
            try clear hcz12_2
            try clear hcz14_0
            try clear hcz14_1
            try clear hcz14_2
            try clear hcz6_0
            try clear hcz6_1
            try clear hcz6_2
            try clear hcz6_3
            try clear hcz9_0
            try clear hcz9_1
            try clear hcz9_2
            try clear hfz12_0
            try clear hfz12_1
            try clear hfz12_2
            try clear hfz14_0
            try clear hfz14_1
            try clear hfz14_2
            try clear hfz6_0
            try clear hfz6_1
            try clear hfz6_2
            try clear hfz6_3
            try clear hfz9_0
            try clear hfz9_1
            try clear hfz9_2
            try clear hx133_0
            try clear hx133_1
            try clear hx133_2
            try clear p133
            try clear p2
            try clear q133
            obtain ⟨kq, x24_4, rfl, HA, HJ4, BK132, BK134, HB⟩ := hcut
            cases kq with
            | zero => exact absurd HA.out (by simp [examboardref54_holds.j1])
            | succ kj4 =>
              have H := HA.out
              clear HA
              simp only [examboardref54_holds.j1] at H
              by_cases c15 : x24_4 = true
              · subst c15
                have H1 : (some 1) = some r := by rw [if_pos rfl] at H; exact H
                clear H
                have H := H1
                clear H1
                obtain rfl := Option.some.inj H
                go_wp2
                go_ret
                exact ⟨by first | rfl | (simp [errW_none, errW_some] <;> rfl) | (simp [*, errW_none, errW_some] <;> rfl), by repeat (first | (with_reducible first | exact HB.out | apply below_alloc | apply pw_below_drewN | apply below_drew1 | refine below_set ?_ GE132.out | refine below_set ?_ GE134.out) | exact HB.out)⟩
              · replace c15 := Bool.eq_false_iff.mpr c15
                subst c15
                have H1 : (if ((rd_T30 l0_3 x3_1).f1) < 0 then (examboardref54_holds.j2 kj4 x3_1 true a0_0 a0_1 a0_2 l0_3 ((rd_T30 l0_3 x3_1).f0) ((rd_T30 l0_3 x3_1).f1) ((rd_T30 l0_3 x3_1).f2)) else (if ((rd_T30 l0_3 x3_1).f1) > a0_2 then (examboardref54_holds.j2 kj4 x3_1 true a0_0 a0_1 a0_2 l0_3 ((rd_T30 l0_3 x3_1).f0) ((rd_T30 l0_3 x3_1).f1) ((rd_T30 l0_3 x3_1).f2)) else (if ((rd_T30 l0_3 x3_1).f2) < 0 then (examboardref54_holds.j2 kj4 x3_1 true a0_0 a0_1 a0_2 l0_3 ((rd_T30 l0_3 x3_1).f0) ((rd_T30 l0_3 x3_1).f1) ((rd_T30 l0_3 x3_1).f2)) else (examboardref54_holds.j2 kj4 x3_1 (decide (((rd_T30 l0_3 x3_1).f2) > a0_2)) a0_0 a0_1 a0_2 l0_3 ((rd_T30 l0_3 x3_1).f0) ((rd_T30 l0_3 x3_1).f1) ((rd_T30 l0_3 x3_1).f2))))) = some r := by rw [if_neg (show ¬ (false = true) by decide)] at H; exact H
                clear H
                have H := H1
                clear H1
                have HC16 := Aside0.mk H
                clear H
                go_upto_region 7 with (fail)
                go_cut [46] (fun v46 wc => ∃ (kq : Nat) (x46_15 : Bool), v46 = .bool x46_15 ∧ Aside0 (examboardref54_holds.j2 kq x3_1 x46_15 a0_0 a0_1 a0_2 l0_3 ((rd_T30 l0_3 x3_1).f0) ((rd_T30 l0_3 x3_1).f1) ((rd_T30 l0_3 x3_1).f2) = some r) ∧ Aside0 (kq ≤ kj4) ∧ Aside0 (wc.heap[gb132]? = some (.cells #[.int .i64 a0_0, .int .i64 a0_1, .int .i64 a0_2, (.slice (some ad133) l0_3.length c0_3)] 24 (0, 0))) ∧ Aside0 (wc.heap[gb134]? = some (.cells #[.int .i64 ((rd_T30 l0_3 x3_1).f0), .int .i64 ((rd_T30 l0_3 x3_1).f1), .int .i64 ((rd_T30 l0_3 x3_1).f2)] 30 (0, 0))) ∧ Aside0 (Below w.heap.size w wc))
                case first =>
                  have H := HC16.out
                  clear HC16
                  by_cases c17 : ((rd_T30 l0_3 x3_1).f1) < 0
                  · rw [if_pos c17] at H
                    have c17b0 : decide (((rd_T30 l0_3 x3_1).f1) < 0) = true := decide_eq_true c17
                    clear c17
                    (first | rw [c17b0] | (simp only [i64_w, i32_w]; rw [c17b0]) | skip)
                    have H' := Aside0.mk H
                    clear H
                    have hnb18 := NB134_132.out
                    have hnc18 := NB132_134.out
                    have hcz19_0 : wc.cell? ⟨gb134, 0, none⟩ = some (.int .i64 ((rd_T30 l0_3 x3_1).f0)) := (blk_cell BK134.out 0).trans rfl
                    have hcz19_1 : wc.cell? ⟨gb134, 1, none⟩ = some (.int .i64 ((rd_T30 l0_3 x3_1).f1)) := (blk_cell BK134.out 1).trans rfl
                    have hcz19_2 : wc.cell? ⟨gb134, 2, none⟩ = some (.int .i64 ((rd_T30 l0_3 x3_1).f2)) := (blk_cell BK134.out 2).trans rfl
                    have hfz19_0 := blk_frozen BK134.out 0
                    have hfz19_1 := blk_frozen BK134.out 1
                    have hfz19_2 := blk_frozen BK134.out 2
                    go_wp2
                    go_meet
                    case rel => exact ⟨_, (true), (by first | rfl | (simp; done) | (simp [*]; done)), H', ⟨by have := HK1.out; have := HJ4.out; first | omega | exact Nat.le_refl _⟩, ⟨by (with_reducible repeat (first | refine blk_drewN ?_ _ | refine blk_drew ?_ | refine blk_alloc ?_ _)); exact BK132.out⟩, ⟨by (with_reducible repeat (first | refine blk_drewN ?_ _ | refine blk_drew ?_ | refine blk_alloc ?_ _)); exact BK134.out⟩, ⟨by repeat (first | (with_reducible first | exact HB.out | apply below_alloc | apply pw_below_drewN | apply below_drew1 | refine below_set ?_ GE132.out | refine below_set ?_ GE134.out) | exact HB.out)⟩⟩
                  · rw [if_neg c17] at H
                    have c17b0 : decide (((rd_T30 l0_3 x3_1).f1) < 0) = false := decide_eq_false c17
                    clear c17
                    (first | rw [c17b0] | (simp only [i64_w, i32_w]; rw [c17b0]) | skip)
                    by_cases c20 : ((rd_T30 l0_3 x3_1).f1) > a0_2
                    · rw [if_pos c20] at H
                      have c20b0 : decide (a0_2 < ((rd_T30 l0_3 x3_1).f1)) = true := decide_eq_true c20
                      clear c20
                      have H' := Aside0.mk H
                      clear H
                      have hnb21 := NB134_132.out
                      have hnc21 := NB132_134.out
                      have hcz22_0 : wc.cell? ⟨gb134, 0, none⟩ = some (.int .i64 ((rd_T30 l0_3 x3_1).f0)) := (blk_cell BK134.out 0).trans rfl
                      have hcz22_1 : wc.cell? ⟨gb134, 1, none⟩ = some (.int .i64 ((rd_T30 l0_3 x3_1).f1)) := (blk_cell BK134.out 1).trans rfl
                      have hcz22_2 : wc.cell? ⟨gb134, 2, none⟩ = some (.int .i64 ((rd_T30 l0_3 x3_1).f2)) := (blk_cell BK134.out 2).trans rfl
                      have hfz22_0 := blk_frozen BK134.out 0
                      have hfz22_1 := blk_frozen BK134.out 1
                      have hfz22_2 := blk_frozen BK134.out 2
                      have hcz23_0 : wc.cell? ⟨gb132, 0, none⟩ = some (.int .i64 a0_0) := (blk_cell BK132.out 0).trans rfl
                      have hcz23_1 : wc.cell? ⟨gb132, 1, none⟩ = some (.int .i64 a0_1) := (blk_cell BK132.out 1).trans rfl
                      have hcz23_2 : wc.cell? ⟨gb132, 2, none⟩ = some (.int .i64 a0_2) := (blk_cell BK132.out 2).trans rfl
                      have hcz23_3 : wc.cell? ⟨gb132, 3, none⟩ = some (.slice (some ad133) l0_3.length c0_3) := (blk_cell BK132.out 3).trans rfl
                      have hfz23_0 := blk_frozen BK132.out 0
                      have hfz23_1 := blk_frozen BK132.out 1
                      have hfz23_2 := blk_frozen BK132.out 2
                      have hfz23_3 := blk_frozen BK132.out 3
                      go_wp2
                      go_meet
                      case rel => exact ⟨_, (true), (by first | rfl | (simp; done) | (simp [*]; done)), H', ⟨by have := HK1.out; have := HJ4.out; first | omega | exact Nat.le_refl _⟩, ⟨by (with_reducible repeat (first | refine blk_drewN ?_ _ | refine blk_drew ?_ | refine blk_alloc ?_ _)); exact BK132.out⟩, ⟨by (with_reducible repeat (first | refine blk_drewN ?_ _ | refine blk_drew ?_ | refine blk_alloc ?_ _)); exact BK134.out⟩, ⟨by repeat (first | (with_reducible first | exact HB.out | apply below_alloc | apply pw_below_drewN | apply below_drew1 | refine below_set ?_ GE132.out | refine below_set ?_ GE134.out) | exact HB.out)⟩⟩
                    · rw [if_neg c20] at H
                      have c20b0 : decide (a0_2 < ((rd_T30 l0_3 x3_1).f1)) = false := decide_eq_false c20
                      clear c20
                      by_cases c24 : ((rd_T30 l0_3 x3_1).f2) < 0
                      · rw [if_pos c24] at H
                        have c24b0 : decide (((rd_T30 l0_3 x3_1).f2) < 0) = true := decide_eq_true c24
                        clear c24
                        have H' := Aside0.mk H
                        clear H
                        have hnb25 := NB134_132.out
                        have hnc25 := NB132_134.out
                        have hcz26_0 : wc.cell? ⟨gb134, 0, none⟩ = some (.int .i64 ((rd_T30 l0_3 x3_1).f0)) := (blk_cell BK134.out 0).trans rfl
                        have hcz26_1 : wc.cell? ⟨gb134, 1, none⟩ = some (.int .i64 ((rd_T30 l0_3 x3_1).f1)) := (blk_cell BK134.out 1).trans rfl
                        have hcz26_2 : wc.cell? ⟨gb134, 2, none⟩ = some (.int .i64 ((rd_T30 l0_3 x3_1).f2)) := (blk_cell BK134.out 2).trans rfl
                        have hfz26_0 := blk_frozen BK134.out 0
                        have hfz26_1 := blk_frozen BK134.out 1
                        have hfz26_2 := blk_frozen BK134.out 2
                        have hcz27_0 : wc.cell? ⟨gb132, 0, none⟩ = some (.int .i64 a0_0) := (blk_cell BK132.out 0).trans rfl
                        have hcz27_1 : wc.cell? ⟨gb132, 1, none⟩ = some (.int .i64 a0_1) := (blk_cell BK132.out 1).trans rfl
                        have hcz27_2 : wc.cell? ⟨gb132, 2, none⟩ = some (.int .i64 a0_2) := (blk_cell BK132.out 2).trans rfl
                        have hcz27_3 : wc.cell? ⟨gb132, 3, none⟩ = some (.slice (some ad133) l0_3.length c0_3) := (blk_cell BK132.out 3).trans rfl
                        have hfz27_0 := blk_frozen BK132.out 0
                        have hfz27_1 := blk_frozen BK132.out 1
                        have hfz27_2 := blk_frozen BK132.out 2
                        have hfz27_3 := blk_frozen BK132.out 3
                        go_wp2
                        go_meet
                        case rel => exact ⟨_, (true), (by first | rfl | (simp; done) | (simp [*]; done)), H', ⟨by have := HK1.out; have := HJ4.out; first | omega | exact Nat.le_refl _⟩, ⟨by (with_reducible repeat (first | refine blk_drewN ?_ _ | refine blk_drew ?_ | refine blk_alloc ?_ _)); exact BK132.out⟩, ⟨by (with_reducible repeat (first | refine blk_drewN ?_ _ | refine blk_drew ?_ | refine blk_alloc ?_ _)); exact BK134.out⟩, ⟨by repeat (first | (with_reducible first | exact HB.out | apply below_alloc | apply pw_below_drewN | apply below_drew1 | refine below_set ?_ GE132.out | refine below_set ?_ GE134.out) | exact HB.out)⟩⟩
                      · rw [if_neg c24] at H
                        have c24b0 : decide (((rd_T30 l0_3 x3_1).f2) < 0) = false := decide_eq_false c24
                        clear c24
                        have H' := Aside0.mk H
                        clear H
                        have hnb28 := NB134_132.out
                        have hnc28 := NB132_134.out
                        have hcz29_0 : wc.cell? ⟨gb134, 0, none⟩ = some (.int .i64 ((rd_T30 l0_3 x3_1).f0)) := (blk_cell BK134.out 0).trans rfl
                        have hcz29_1 : wc.cell? ⟨gb134, 1, none⟩ = some (.int .i64 ((rd_T30 l0_3 x3_1).f1)) := (blk_cell BK134.out 1).trans rfl
                        have hcz29_2 : wc.cell? ⟨gb134, 2, none⟩ = some (.int .i64 ((rd_T30 l0_3 x3_1).f2)) := (blk_cell BK134.out 2).trans rfl
                        have hfz29_0 := blk_frozen BK134.out 0
                        have hfz29_1 := blk_frozen BK134.out 1
                        have hfz29_2 := blk_frozen BK134.out 2
                        have hcz30_0 : wc.cell? ⟨gb132, 0, none⟩ = some (.int .i64 a0_0) := (blk_cell BK132.out 0).trans rfl
                        have hcz30_1 : wc.cell? ⟨gb132, 1, none⟩ = some (.int .i64 a0_1) := (blk_cell BK132.out 1).trans rfl
                        have hcz30_2 : wc.cell? ⟨gb132, 2, none⟩ = some (.int .i64 a0_2) := (blk_cell BK132.out 2).trans rfl
                        have hcz30_3 : wc.cell? ⟨gb132, 3, none⟩ = some (.slice (some ad133) l0_3.length c0_3) := (blk_cell BK132.out 3).trans rfl
                        have hfz30_0 := blk_frozen BK132.out 0
                        have hfz30_1 := blk_frozen BK132.out 1
                        have hfz30_2 := blk_frozen BK132.out 2
                        have hfz30_3 := blk_frozen BK132.out 3
                        go_wp2
                        go_meet
                        case rel => exact ⟨_, (decide (((rd_T30 l0_3 x3_1).f2) > a0_2)), (by first | rfl | (simp; done) | (simp [*]; done)), H', ⟨by have := HK1.out; have := HJ4.out; first | omega | exact Nat.le_refl _⟩, ⟨by (with_reducible repeat (first | refine blk_drewN ?_ _ | refine blk_drew ?_ | refine blk_alloc ?_ _)); exact BK132.out⟩, ⟨by (with_reducible repeat (first | refine blk_drewN ?_ _ | refine blk_drew ?_ | refine blk_alloc ?_ _)); exact BK134.out⟩, ⟨by repeat (first | (with_reducible first | exact HB.out | apply below_alloc | apply pw_below_drewN | apply below_drew1 | refine below_set ?_ GE132.out | refine below_set ?_ GE134.out) | exact HB.out)⟩⟩
                case rest =>
                  clear HC16
                  try clear c1
                  try clear p1
                  try clear q1
                  try clear hx1
                  try clear c2
                  try clear p2
                  try clear c3
                  try clear c3b0
                  try clear c4
                  try clear c4b0
                  try clear c6
                  try clear c8
                  try clear c10
                  try clear c10b0
                  try clear c11
                  try clear c13
                  try clear p13
                  try clear q13
                  try clear hx13
                  try clear c15
                  try clear c17
                  try clear c17b0
                  try clear c18
                  try clear c20
                  try clear c20b0
                  try clear c21
                  try clear c24
                  try clear c24b0
                  try clear c25
                  try clear c28
                  try clear hcz12_0
                  try clear hcz12_1
                  try clear hcz12_2
                  try clear hcz14_0
                  try clear hcz14_1
                  try clear hcz14_2
                  try clear hcz19_0
                  try clear hcz19_1
                  try clear hcz19_2
                  try clear hcz22_0
                  try clear hcz22_1
                  try clear hcz22_2
                  try clear hcz23_0
                  try clear hcz23_1
                  try clear hcz23_2
                  try clear hcz23_3
                  try clear hcz26_0
                  try clear hcz26_1
                  try clear hcz26_2
                  try clear hcz27_0
                  try clear hcz27_1
                  try clear hcz27_2
                  try clear hcz27_3
                  try clear hcz29_0
                  try clear hcz29_1
                  try clear hcz29_2
                  try clear hcz30_0
                  try clear hcz30_1
                  try clear hcz30_2
                  try clear hcz30_3
                  try clear hcz6_0
                  try clear hcz6_1
                  try clear hcz6_2
                  try clear hcz6_3
                  try clear hcz9_0
                  try clear hcz9_1
                  try clear hcz9_2
                  try clear hfz12_0
                  try clear hfz12_1
                  try clear hfz12_2
                  try clear hfz14_0
                  try clear hfz14_1
                  try clear hfz14_2
                  try clear hfz19_0
                  try clear hfz19_1
                  try clear hfz19_2
                  try clear hfz22_0
                  try clear hfz22_1
                  try clear hfz22_2
                  try clear hfz23_0
                  try clear hfz23_1
                  try clear hfz23_2
                  try clear hfz23_3
                  try clear hfz26_0
                  try clear hfz26_1
                  try clear hfz26_2
                  try clear hfz27_0
                  try clear hfz27_1
                  try clear hfz27_2
                  try clear hfz27_3
                  try clear hfz29_0
                  try clear hfz29_1
                  try clear hfz29_2
                  try clear hfz30_0
                  try clear hfz30_1
                  try clear hfz30_2
                  try clear hfz30_3
                  try clear hfz6_0
                  try clear hfz6_1
                  try clear hfz6_2
                  try clear hfz6_3
                  try clear hfz9_0
                  try clear hfz9_1
                  try clear hfz9_2
                  try clear hx133_0
                  try clear hx133_1
                  try clear hx133_2
                  try clear p1
                  try clear p13
                  try clear p133
                  try clear p2
                  try clear q1
                  try clear q13
                  try clear q133
                  obtain ⟨kq, x46_15, rfl, HA, HJ15, BK132, BK134, HB⟩ := hcut
                  cases kq with
                  | zero => exact absurd HA.out (by simp [examboardref54_holds.j2])
                  | succ kj15 =>
                    have H := HA.out
                    clear HA
                    simp only [examboardref54_holds.j2] at H
                    by_cases c31 : x46_15 = true
                    · subst c31
                      have H1 : (some 3) = some r := by rw [if_pos rfl] at H; exact H
                      clear H
                      have H := H1
                      clear H1
                      obtain rfl := Option.some.inj H
                      go_wp2
                      go_ret
                      exact ⟨by first | rfl | (simp [errW_none, errW_some] <;> rfl) | (simp [*, errW_none, errW_some] <;> rfl), by repeat (first | (with_reducible first | exact HB.out | apply below_alloc | apply pw_below_drewN | apply below_drew1 | refine below_set ?_ GE132.out | refine below_set ?_ GE134.out) | exact HB.out)⟩
                    · replace c31 := Bool.eq_false_iff.mpr c31
                      subst c31
                      have H1 : (if ((rd_T30 l0_3 x3_1).f2) > 0 then (if ((rd_T30 l0_3 x3_1).f2) < ((rd_T30 l0_3 x3_1).f1) then (some 15) else (examboardref54_holds.l0 kj15 (wrap64 (x3_1 + 1)) a0_0 a0_1 a0_2 l0_3)) else (examboardref54_holds.l0 kj15 (wrap64 (x3_1 + 1)) a0_0 a0_1 a0_2 l0_3)) = some r := by rw [if_neg (show ¬ (false = true) by decide)] at H; exact H
                      clear H
                      have H := H1
                      clear H1
                      by_cases c32 : ((rd_T30 l0_3 x3_1).f2) > 0
                      · rw [if_pos c32] at H
                        have c32b0 : decide (0 < ((rd_T30 l0_3 x3_1).f2)) = true := decide_eq_true c32
                        clear c32
                        by_cases c33 : ((rd_T30 l0_3 x3_1).f2) < ((rd_T30 l0_3 x3_1).f1)
                        · rw [if_pos c33] at H
                          have c33b0 : decide (((rd_T30 l0_3 x3_1).f2) < ((rd_T30 l0_3 x3_1).f1)) = true := decide_eq_true c33
                          clear c33
                          obtain rfl := Option.some.inj H
                          have hnb34 := NB134_132.out
                          have hnc34 := NB132_134.out
                          have hcz35_0 : wc.cell? ⟨gb134, 0, none⟩ = some (.int .i64 ((rd_T30 l0_3 x3_1).f0)) := (blk_cell BK134.out 0).trans rfl
                          have hcz35_1 : wc.cell? ⟨gb134, 1, none⟩ = some (.int .i64 ((rd_T30 l0_3 x3_1).f1)) := (blk_cell BK134.out 1).trans rfl
                          have hcz35_2 : wc.cell? ⟨gb134, 2, none⟩ = some (.int .i64 ((rd_T30 l0_3 x3_1).f2)) := (blk_cell BK134.out 2).trans rfl
                          have hfz35_0 := blk_frozen BK134.out 0
                          have hfz35_1 := blk_frozen BK134.out 1
                          have hfz35_2 := blk_frozen BK134.out 2
                          go_wp2
                          go_ret
                          exact ⟨by first | rfl | (simp [errW_none, errW_some] <;> rfl) | (simp [*, errW_none, errW_some] <;> rfl), by repeat (first | (with_reducible first | exact HB.out | apply below_alloc | apply pw_below_drewN | apply below_drew1 | refine below_set ?_ GE132.out | refine below_set ?_ GE134.out) | exact HB.out)⟩
                        · rw [if_neg c33] at H
                          have c33b0 : decide (((rd_T30 l0_3 x3_1).f2) < ((rd_T30 l0_3 x3_1).f1)) = false := decide_eq_false c33
                          clear c33
                          have H' := Aside0.mk H
                          clear H
                          have hnb36 := NB134_132.out
                          have hnc36 := NB132_134.out
                          have hcz37_0 : wc.cell? ⟨gb134, 0, none⟩ = some (.int .i64 ((rd_T30 l0_3 x3_1).f0)) := (blk_cell BK134.out 0).trans rfl
                          have hcz37_1 : wc.cell? ⟨gb134, 1, none⟩ = some (.int .i64 ((rd_T30 l0_3 x3_1).f1)) := (blk_cell BK134.out 1).trans rfl
                          have hcz37_2 : wc.cell? ⟨gb134, 2, none⟩ = some (.int .i64 ((rd_T30 l0_3 x3_1).f2)) := (blk_cell BK134.out 2).trans rfl
                          have hfz37_0 := blk_frozen BK134.out 0
                          have hfz37_1 := blk_frozen BK134.out 1
                          have hfz37_2 := blk_frozen BK134.out 2
                          go_wp2
                          go_roundg kj15
                          case measure => have := HK1.out; have := HJ4.out; have := HJ15.out; omega
                          case rel => exact ⟨(wrap64 (x3_1 + 1)), (by first | rfl | (simp; done) | (simp [*]; done)), H', ⟨by have := HK1.out; have := HJ4.out; have := HJ15.out; omega⟩, ⟨by (with_reducible repeat (first | refine blk_drewN ?_ _ | refine blk_drew ?_ | refine blk_alloc ?_ _)); exact BK132.out⟩, ⟨by repeat (first | (with_reducible first | exact HB.out | apply below_alloc | apply pw_below_drewN | apply below_drew1 | refine below_set ?_ GE132.out | refine below_set ?_ GE134.out) | exact HB.out)⟩⟩
                      · rw [if_neg c32] at H
                        have c32b0 : decide (0 < ((rd_T30 l0_3 x3_1).f2)) = false := decide_eq_false c32
                        clear c32
                        have H' := Aside0.mk H
                        clear H
                        have hnb38 := NB134_132.out
                        have hnc38 := NB132_134.out
                        have hcz39_0 : wc.cell? ⟨gb134, 0, none⟩ = some (.int .i64 ((rd_T30 l0_3 x3_1).f0)) := (blk_cell BK134.out 0).trans rfl
                        have hcz39_1 : wc.cell? ⟨gb134, 1, none⟩ = some (.int .i64 ((rd_T30 l0_3 x3_1).f1)) := (blk_cell BK134.out 1).trans rfl
                        have hcz39_2 : wc.cell? ⟨gb134, 2, none⟩ = some (.int .i64 ((rd_T30 l0_3 x3_1).f2)) := (blk_cell BK134.out 2).trans rfl
                        have hfz39_0 := blk_frozen BK134.out 0
                        have hfz39_1 := blk_frozen BK134.out 1
                        have hfz39_2 := blk_frozen BK134.out 2
                        go_wp2
                        go_roundg kj15
                        case measure => have := HK1.out; have := HJ4.out; have := HJ15.out; omega
                        case rel => exact ⟨(wrap64 (x3_1 + 1)), (by first | rfl | (simp; done) | (simp [*]; done)), H', ⟨by have := HK1.out; have := HJ4.out; have := HJ15.out; omega⟩, ⟨by (with_reducible repeat (first | refine blk_drewN ?_ _ | refine blk_drew ?_ | refine blk_alloc ?_ _)); exact BK132.out⟩, ⟨by repeat (first | (with_reducible first | exact HB.out | apply below_alloc | apply pw_below_drewN | apply below_drew1 | refine below_set ?_ GE132.out | refine below_set ?_ GE134.out) | exact HB.out)⟩⟩
        · rw [if_neg c4] at H
          exact absurd H (by simp)
      · rw [if_neg c3] at H
        have c3b0 : decide (x3_1 < (l0_3.length : Int)) = false := decide_eq_false c3
        clear c3
        obtain rfl := Option.some.inj H
        have hcz40_0 : wr.cell? ⟨gb132, 0, none⟩ = some (.int .i64 a0_0) := (blk_cell BK132.out 0).trans rfl
        have hcz40_1 : wr.cell? ⟨gb132, 1, none⟩ = some (.int .i64 a0_1) := (blk_cell BK132.out 1).trans rfl
        have hcz40_2 : wr.cell? ⟨gb132, 2, none⟩ = some (.int .i64 a0_2) := (blk_cell BK132.out 2).trans rfl
        have hcz40_3 : wr.cell? ⟨gb132, 3, none⟩ = some (.slice A0_3 l0_3.length c0_3) := (blk_cell BK132.out 3).trans rfl
        have hfz40_0 := blk_frozen BK132.out 0
        have hfz40_1 := blk_frozen BK132.out 1
        have hfz40_2 := blk_frozen BK132.out 2
        have hfz40_3 := blk_frozen BK132.out 3
        go_wp2
        go_ret
        exact ⟨by first | rfl | (simp [errW_none, errW_some] <;> rfl) | (simp [*, errW_none, errW_some] <;> rfl), by repeat (first | (with_reducible first | exact HB.out | apply below_alloc | apply pw_below_drewN | apply below_drew1 | refine below_set ?_ GE132.out) | exact HB.out)⟩

end Go.Proofs.Ytgeplglggcoaiaa.Hold
