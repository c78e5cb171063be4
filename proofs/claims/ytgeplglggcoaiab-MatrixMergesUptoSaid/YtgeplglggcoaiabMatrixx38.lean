/- Lean functions and walks for Go functions of this seat, written by this claim's own program (wip/tools/xprint.py) over the kit's print. -/
import Derived.Test.YtgeplglggcoaiabMatrixx0
import Derived.Test.YtgeplglggcoaiabMatrixx4
import Derived.Test.YtgeplglggcoaiabMatrixx5
import Derived.Test.YtgeplglggcoaiabMatrixx36
import Derived.Test.YtgeplglggcoaiabMatrixx37
namespace Go.Proofs.Ytgeplglggcoaiab.Matrix
open Go.RowKit Go.Sort Go.Proofs.YtgeplglggcoaiabMakec Go.Proofs.YtgeplglggcoaiabW.PrintWords Go.Proofs.YtgeplglggcoaiabW.PrintLast Go.Proofs.YtgeplglggcoaiabW.PrintMore
attribute [local go_sem] max2_int min2_int max_two min_two max_three min_three max_four min_four   -- for this text's walks alone
set_option linter.unusedVariables false
set_option linter.unusedSimpArgs false

/-! ### examboardref24_Merge: function 20 -/
mutual
def examboardref24_Merge.j0 : Nat → Bool → List Int → List Int → List (List Int) → List Int → List Int → List (List Int) → Option (List Int × List Int × (List (List Int)) × Int)
 | 0, _, _, _, _, _, _, _ => none
 | k + 1, x23, x490000, x490001, x490002, x491000, x491001, x491002 => if x23 = true then (some (([] : List Int), ([] : List Int), ([] : List (List Int)), 1)) else ((examboardref24_rising.f k x490000).bind fun t494 => (if t494 = true then ((examboardref24_rising.f k x490001).bind fun t495 => (if t495 = true then ((examboardref24_rising.f k x491000).bind fun t496 => (if t496 = true then ((examboardref24_rising.f k x491001).bind fun t497 => (examboardref24_Merge.j1 k (!t497) x490000 x490001 x490002 x491000 x491001 x491002)) else (examboardref24_Merge.j1 k true x490000 x490001 x490002 x491000 x491001 x491002))) else (examboardref24_Merge.j1 k true x490000 x490001 x490002 x491000 x491001 x491002))) else (examboardref24_Merge.j1 k true x490000 x490001 x490002 x491000 x491001 x491002)))
def examboardref24_Merge.j1 : Nat → Bool → List Int → List Int → List (List Int) → List Int → List Int → List (List Int) → Option (List Int × List Int × (List (List Int)) × Int)
 | 0, _, _, _, _, _, _, _ => none
 | k + 1, x46, x490000, x490001, x490002, x491000, x491001, x491002 => if x46 = true then (some (([] : List Int), ([] : List Int), ([] : List (List Int)), 23)) else ((examboardref24_union.f k x490000 x491000).bind fun t498 => ((examboardref24_union.f k x490001 x491001).bind fun t501 => (examboardref24_Merge.l0 k t498 t501 (t498.length : Int) 0 x490000 x490001 x490002 x491000 x491001 x491002 ([] : List (List Int)))))
def examboardref24_Merge.l0 : Nat → List Int → List Int → Int → Int → List Int → List Int → List (List Int) → List Int → List Int → List (List Int) → List (List Int) → Option (List Int × List Int × (List (List Int)) × Int)
 | 0, _, _, _, _, _, _, _, _, _, _, _ => none
 | k + 1, x52, x57, x61, x62, x490000, x490001, x490002, x491000, x491001, x491002, x505002 => if x62 < x61 then (if 0 ≤ x62 then (if x62 < (x52.length : Int) then (examboardref24_Merge.l1 k (rd x52 x62) ([] : List Int) x52 x57 x61 x62 (x57.length : Int) 0 x490000 x490001 x490002 x491000 x491001 x491002 x505002) else (none)) else (none)) else (if (x52.length : Int) > 200 then (some (([] : List Int), ([] : List Int), ([] : List (List Int)), 5)) else (if (x57.length : Int) > 60 then (some (([] : List Int), ([] : List Int), ([] : List (List Int)), 5)) else (some (x52, x57, x505002, 0))))
def examboardref24_Merge.l1 : Nat → Int → List Int → List Int → List Int → Int → Int → Int → Int → List Int → List Int → List (List Int) → List Int → List Int → List (List Int) → List (List Int) → Option (List Int × List Int × (List (List Int)) × Int)
 | 0, _, _, _, _, _, _, _, _, _, _, _, _, _, _, _ => none
 | k + 1, x8, x9, x52, x57, x61, x62, x68, x69, x490000, x490001, x490002, x491000, x491001, x491002, x505002 => if x69 < x68 then (if 0 ≤ x69 then (if x69 < (x57.length : Int) then ((examboardref24_cell.f k x490000 x490001 x490002 x8 (rd x57 x69)).bind fun bt510 => ((examboardref24_cell.f k x491000 x491001 x491002 x8 (rd x57 x69)).bind fun bt512 => (if bt510.2 = true then (if bt512.2 = true then (examboardref24_Merge.j4 k x8 x9 bt510.1 bt512.1 bt512.2 x52 x57 x61 x62 x68 x69 (bt510.1 != bt512.1) x490000 x490001 x490002 x491000 x491001 x491002 x52 x57 x505002) else (examboardref24_Merge.j4 k x8 x9 bt510.1 bt512.1 bt512.2 x52 x57 x61 x62 x68 x69 false x490000 x490001 x490002 x491000 x491001 x491002 x52 x57 x505002)) else (examboardref24_Merge.j4 k x8 x9 bt510.1 bt512.1 bt512.2 x52 x57 x61 x62 x68 x69 false x490000 x490001 x490002 x491000 x491001 x491002 x52 x57 x505002)))) else (none)) else (none)) else (if x505002.length < 5864062014805 then (examboardref24_Merge.l0 k x52 x57 x61 (wrap64 (x62 + 1)) x490000 x490001 x490002 x491000 x491001 x491002 (x505002 ++ [x9])) else (none))
def examboardref24_Merge.j4 : Nat → Int → List Int → Int → Int → Bool → List Int → List Int → Int → Int → Int → Int → Bool → List Int → List Int → List (List Int) → List Int → List Int → List (List Int) → List Int → List Int → List (List Int) → Option (List Int × List Int × (List (List Int)) × Int)
 | 0, _, _, _, _, _, _, _, _, _, _, _, _, _, _, _, _, _, _, _, _, _ => none
 | k + 1, x8, x9, x12, x14, x15, x52, x57, x61, x62, x68, x69, x95, x490000, x490001, x490002, x491000, x491001, x491002, x505000, x505001, x505002 => if x95 = true then (some (([] : List Int), ([] : List Int), ([] : List (List Int)), 11)) else (if x15 = true then (if x9.length < 17592186044416 then (examboardref24_Merge.l1 k x8 (x9 ++ [x14]) x52 x57 x61 x62 x68 (wrap64 (x69 + 1)) x490000 x490001 x490002 x491000 x491001 x491002 x505002) else (none)) else (if x9.length < 17592186044416 then (examboardref24_Merge.l1 k x8 (x9 ++ [x12]) x52 x57 x61 x62 x68 (wrap64 (x69 + 1)) x490000 x490001 x490002 x491000 x491001 x491002 x505002) else (none)))
end
def examboardref24_Merge.f (k : Nat) (l0_0 : List Int) (l0_1 : List Int) (l0_2 : List (List Int)) (l1_0 : List Int) (l1_1 : List Int) (l1_2 : List (List Int)) : Option (List Int × List Int × (List (List Int)) × Int) := (examboardref24_shaped.f k l0_0 l0_1 l0_2).bind fun t492 => (if t492 = true then ((examboardref24_shaped.f k l1_0 l1_1 l1_2).bind fun t493 => (examboardref24_Merge.j0 k (!t493) l0_0 l0_1 l0_2 l1_0 l1_1 l1_2)) else (examboardref24_Merge.j0 k true l0_0 l0_1 l0_2 l1_0 l1_1 l1_2))
theorem examboardref24_Merge.mono_l : ∀ k, (∀ y0 y1 y2 y3 y4 y5 y6, LeO (examboardref24_Merge.j0 k y0 y1 y2 y3 y4 y5 y6) (examboardref24_Merge.j0 (k + 1) y0 y1 y2 y3 y4 y5 y6)) ∧ (∀ y0 y1 y2 y3 y4 y5 y6, LeO (examboardref24_Merge.j1 k y0 y1 y2 y3 y4 y5 y6) (examboardref24_Merge.j1 (k + 1) y0 y1 y2 y3 y4 y5 y6)) ∧ (∀ y0 y1 y2 y3 y4 y5 y6 y7 y8 y9 y10, LeO (examboardref24_Merge.l0 k y0 y1 y2 y3 y4 y5 y6 y7 y8 y9 y10) (examboardref24_Merge.l0 (k + 1) y0 y1 y2 y3 y4 y5 y6 y7 y8 y9 y10)) ∧ (∀ y0 y1 y2 y3 y4 y5 y6 y7 y8 y9 y10 y11 y12 y13 y14, LeO (examboardref24_Merge.l1 k y0 y1 y2 y3 y4 y5 y6 y7 y8 y9 y10 y11 y12 y13 y14) (examboardref24_Merge.l1 (k + 1) y0 y1 y2 y3 y4 y5 y6 y7 y8 y9 y10 y11 y12 y13 y14)) ∧ (∀ y0 y1 y2 y3 y4 y5 y6 y7 y8 y9 y10 y11 y12 y13 y14 y15 y16 y17 y18 y19 y20, LeO (examboardref24_Merge.j4 k y0 y1 y2 y3 y4 y5 y6 y7 y8 y9 y10 y11 y12 y13 y14 y15 y16 y17 y18 y19 y20) (examboardref24_Merge.j4 (k + 1) y0 y1 y2 y3 y4 y5 y6 y7 y8 y9 y10 y11 y12 y13 y14 y15 y16 y17 y18 y19 y20))
 | 0 => ⟨fun _ _ _ _ _ _ _ r h => by simp [examboardref24_Merge.j0] at h, fun _ _ _ _ _ _ _ r h => by simp [examboardref24_Merge.j1] at h, fun _ _ _ _ _ _ _ _ _ _ _ r h => by simp [examboardref24_Merge.l0] at h, fun _ _ _ _ _ _ _ _ _ _ _ _ _ _ _ r h => by simp [examboardref24_Merge.l1] at h, fun _ _ _ _ _ _ _ _ _ _ _ _ _ _ _ _ _ _ _ _ _ r h => by simp [examboardref24_Merge.j4] at h⟩
 | k + 1 => by
  obtain ⟨ih0, ih1, ih2, ih3, ih4⟩ := examboardref24_Merge.mono_l k
  refine ⟨?_, ?_, ?_, ?_, ?_⟩
  ·intro y0 y1 y2 y3 y4 y5 y6
   unfold examboardref24_Merge.j0
   repeat' first
   | (with_reducible exact ih0 _ _ _ _ _ _ _)
   | (with_reducible exact ih1 _ _ _ _ _ _ _)
   | (with_reducible exact ih2 _ _ _ _ _ _ _ _ _ _ _)
   | (with_reducible exact ih3 _ _ _ _ _ _ _ _ _ _ _ _ _ _ _)
   | (with_reducible exact ih4 _ _ _ _ _ _ _ _ _ _ _ _ _ _ _ _ _ _ _ _ _)
   | (with_reducible exact examboardref24_cell.mono _ _ _ _ _ _)
   | (with_reducible exact examboardref24_rising.mono _ _)
   | (with_reducible exact examboardref24_shaped.mono _ _ _ _)
   | (with_reducible exact examboardref24_union.mono _ _ _)
   | (with_reducible exact LeO.refl _)
   | (with_reducible exact LeO.none _)
   | (with_reducible refine LeO.ite ?_ ?_)
   | (with_reducible refine LeO.bind ?_ (fun _ => ?_))
   | exact ih0 _ _ _ _ _ _ _
   | exact ih1 _ _ _ _ _ _ _
   | exact ih2 _ _ _ _ _ _ _ _ _ _ _
   | exact ih3 _ _ _ _ _ _ _ _ _ _ _ _ _ _ _
   | exact ih4 _ _ _ _ _ _ _ _ _ _ _ _ _ _ _ _ _ _ _ _ _
   | exact examboardref24_cell.mono _ _ _ _ _ _
   | exact examboardref24_rising.mono _ _
   | exact examboardref24_shaped.mono _ _ _ _
   | exact examboardref24_union.mono _ _ _
   | exact LeO.none _
   | refine LeO.ite ?_ ?_
   | refine LeO.bind ?_ (fun _ => ?_)
  ·intro y0 y1 y2 y3 y4 y5 y6
   unfold examboardref24_Merge.j1
   repeat' first
   | (with_reducible exact ih0 _ _ _ _ _ _ _)
   | (with_reducible exact ih1 _ _ _ _ _ _ _)
   | (with_reducible exact ih2 _ _ _ _ _ _ _ _ _ _ _)
   | (with_reducible exact ih3 _ _ _ _ _ _ _ _ _ _ _ _ _ _ _)
   | (with_reducible exact ih4 _ _ _ _ _ _ _ _ _ _ _ _ _ _ _ _ _ _ _ _ _)
   | (with_reducible exact examboardref24_cell.mono _ _ _ _ _ _)
   | (with_reducible exact examboardref24_rising.mono _ _)
   | (with_reducible exact examboardref24_shaped.mono _ _ _ _)
   | (with_reducible exact examboardref24_union.mono _ _ _)
   | (with_reducible exact LeO.refl _)
   | (with_reducible exact LeO.none _)
   | (with_reducible refine LeO.ite ?_ ?_)
   | (with_reducible refine LeO.bind ?_ (fun _ => ?_))
   | exact ih0 _ _ _ _ _ _ _
   | exact ih1 _ _ _ _ _ _ _
   | exact ih2 _ _ _ _ _ _ _ _ _ _ _
   | exact ih3 _ _ _ _ _ _ _ _ _ _ _ _ _ _ _
   | exact ih4 _ _ _ _ _ _ _ _ _ _ _ _ _ _ _ _ _ _ _ _ _
   | exact examboardref24_cell.mono _ _ _ _ _ _
   | exact examboardref24_rising.mono _ _
   | exact examboardref24_shaped.mono _ _ _ _
   | exact examboardref24_union.mono _ _ _
   | exact LeO.none _
   | refine LeO.ite ?_ ?_
   | refine LeO.bind ?_ (fun _ => ?_)
  ·intro y0 y1 y2 y3 y4 y5 y6 y7 y8 y9 y10
   unfold examboardref24_Merge.l0
   repeat' first
   | (with_reducible exact ih0 _ _ _ _ _ _ _)
   | (with_reducible exact ih1 _ _ _ _ _ _ _)
   | (with_reducible exact ih2 _ _ _ _ _ _ _ _ _ _ _)
   | (with_reducible exact ih3 _ _ _ _ _ _ _ _ _ _ _ _ _ _ _)
   | (with_reducible exact ih4 _ _ _ _ _ _ _ _ _ _ _ _ _ _ _ _ _ _ _ _ _)
   | (with_reducible exact examboardref24_cell.mono _ _ _ _ _ _)
   | (with_reducible exact examboardref24_rising.mono _ _)
   | (with_reducible exact examboardref24_shaped.mono _ _ _ _)
   | (with_reducible exact examboardref24_union.mono _ _ _)
   | (with_reducible exact LeO.refl _)
   | (with_reducible exact LeO.none _)
   | (with_reducible refine LeO.ite ?_ ?_)
   | (with_reducible refine LeO.bind ?_ (fun _ => ?_))
   | exact ih0 _ _ _ _ _ _ _
   | exact ih1 _ _ _ _ _ _ _
   | exact ih2 _ _ _ _ _ _ _ _ _ _ _
   | exact ih3 _ _ _ _ _ _ _ _ _ _ _ _ _ _ _
   | exact ih4 _ _ _ _ _ _ _ _ _ _ _ _ _ _ _ _ _ _ _ _ _
   | exact examboardref24_cell.mono _ _ _ _ _ _
   | exact examboardref24_rising.mono _ _
   | exact examboardref24_shaped.mono _ _ _ _
   | exact examboardref24_union.mono _ _ _
   | exact LeO.none _
   | refine LeO.ite ?_ ?_
   | refine LeO.bind ?_ (fun _ => ?_)
  ·intro y0 y1 y2 y3 y4 y5 y6 y7 y8 y9 y10 y11 y12 y13 y14
   unfold examboardref24_Merge.l1
   repeat' first
   | (with_reducible exact ih0 _ _ _ _ _ _ _)
   | (with_reducible exact ih1 _ _ _ _ _ _ _)
   | (with_reducible exact ih2 _ _ _ _ _ _ _ _ _ _ _)
   | (with_reducible exact ih3 _ _ _ _ _ _ _ _ _ _ _ _ _ _ _)
   | (with_reducible exact ih4 _ _ _ _ _ _ _ _ _ _ _ _ _ _ _ _ _ _ _ _ _)
   | (with_reducible exact examboardref24_cell.mono _ _ _ _ _ _)
   | (with_reducible exact examboardref24_rising.mono _ _)
   | (with_reducible exact examboardref24_shaped.mono _ _ _ _)
   | (with_reducible exact examboardref24_union.mono _ _ _)
   | (with_reducible exact LeO.refl _)
   | (with_reducible exact LeO.none _)
   | (with_reducible refine LeO.ite ?_ ?_)
   | (with_reducible refine LeO.bind ?_ (fun _ => ?_))
   | exact ih0 _ _ _ _ _ _ _
   | exact ih1 _ _ _ _ _ _ _
   | exact ih2 _ _ _ _ _ _ _ _ _ _ _
   | exact ih3 _ _ _ _ _ _ _ _ _ _ _ _ _ _ _
   | exact ih4 _ _ _ _ _ _ _ _ _ _ _ _ _ _ _ _ _ _ _ _ _
   | exact examboardref24_cell.mono _ _ _ _ _ _
   | exact examboardref24_rising.mono _ _
   | exact examboardref24_shaped.mono _ _ _ _
   | exact examboardref24_union.mono _ _ _
   | exact LeO.none _
   | refine LeO.ite ?_ ?_
   | refine LeO.bind ?_ (fun _ => ?_)
  ·intro y0 y1 y2 y3 y4 y5 y6 y7 y8 y9 y10 y11 y12 y13 y14 y15 y16 y17 y18 y19 y20
   unfold examboardref24_Merge.j4
   repeat' first
   | (with_reducible exact ih0 _ _ _ _ _ _ _)
   | (with_reducible exact ih1 _ _ _ _ _ _ _)
   | (with_reducible exact ih2 _ _ _ _ _ _ _ _ _ _ _)
   | (with_reducible exact ih3 _ _ _ _ _ _ _ _ _ _ _ _ _ _ _)
   | (with_reducible exact ih4 _ _ _ _ _ _ _ _ _ _ _ _ _ _ _ _ _ _ _ _ _)
   | (with_reducible exact examboardref24_cell.mono _ _ _ _ _ _)
   | (with_reducible exact examboardref24_rising.mono _ _)
   | (with_reducible exact examboardref24_shaped.mono _ _ _ _)
   | (with_reducible exact examboardref24_union.mono _ _ _)
   | (with_reducible exact LeO.refl _)
   | (with_reducible exact LeO.none _)
   | (with_reducible refine LeO.ite ?_ ?_)
   | (with_reducible refine LeO.bind ?_ (fun _ => ?_))
   | exact ih0 _ _ _ _ _ _ _
   | exact ih1 _ _ _ _ _ _ _
   | exact ih2 _ _ _ _ _ _ _ _ _ _ _
   | exact ih3 _ _ _ _ _ _ _ _ _ _ _ _ _ _ _
   | exact ih4 _ _ _ _ _ _ _ _ _ _ _ _ _ _ _ _ _ _ _ _ _
   | exact examboardref24_cell.mono _ _ _ _ _ _
   | exact examboardref24_rising.mono _ _
   | exact examboardref24_shaped.mono _ _ _ _
   | exact examboardref24_union.mono _ _ _
   | exact LeO.none _
   | refine LeO.ite ?_ ?_
   | refine LeO.bind ?_ (fun _ => ?_)
theorem examboardref24_Merge.mono : ∀ a0 a1 a2 a3 a4 a5 k, LeO (examboardref24_Merge.f k a0 a1 a2 a3 a4 a5) (examboardref24_Merge.f (k + 1) a0 a1 a2 a3 a4 a5) := by
 intro a0 a1 a2 a3 a4 a5 k
 obtain ⟨ih0, ih1, ih2, ih3, ih4⟩ := examboardref24_Merge.mono_l k
 unfold examboardref24_Merge.f
 repeat' first
   | (with_reducible exact ih0 _ _ _ _ _ _ _)
   | (with_reducible exact ih1 _ _ _ _ _ _ _)
   | (with_reducible exact ih2 _ _ _ _ _ _ _ _ _ _ _)
   | (with_reducible exact ih3 _ _ _ _ _ _ _ _ _ _ _ _ _ _ _)
   | (with_reducible exact ih4 _ _ _ _ _ _ _ _ _ _ _ _ _ _ _ _ _ _ _ _ _)
   | (with_reducible exact examboardref24_cell.mono _ _ _ _ _ _)
   | (with_reducible exact examboardref24_rising.mono _ _)
   | (with_reducible exact examboardref24_shaped.mono _ _ _ _)
   | (with_reducible exact examboardref24_union.mono _ _ _)
   | (with_reducible exact LeO.refl _)
   | (with_reducible exact LeO.none _)
   | (with_reducible refine LeO.ite ?_ ?_)
   | (with_reducible refine LeO.bind ?_ (fun _ => ?_))
   | exact ih0 _ _ _ _ _ _ _
   | exact ih1 _ _ _ _ _ _ _
   | exact ih2 _ _ _ _ _ _ _ _ _ _ _
   | exact ih3 _ _ _ _ _ _ _ _ _ _ _ _ _ _ _
   | exact ih4 _ _ _ _ _ _ _ _ _ _ _ _ _ _ _ _ _ _ _ _ _
   | exact examboardref24_cell.mono _ _ _ _ _ _
   | exact examboardref24_rising.mono _ _
   | exact examboardref24_shaped.mono _ _ _ _
   | exact examboardref24_union.mono _ _ _
   | exact LeO.none _
   | refine LeO.ite ?_ ?_
   | refine LeO.bind ?_ (fun _ => ?_)
def examboardref24_Merge.T5 : Bool × List (List Nat × List Nat) := (true, [([], []), ([0], [0]), ([], []), ([2], [2]), ([1, 3], [1, 3]), ([], []), ([5], [5]), ([], []), ([7], [7]), ([6, 8, 4], [6, 8]), ([4, 9], [4, 9]), ([], []), ([11, 10, 9, 0, 1, 2, 3, 4, 5, 6, 7, 8, 9, 10, 11], [10, 11])])
def examboardref24_Merge.B5 : List Nat := [0, 1, 0, 4, 15, 0, 32, 0, 128, 511, 1023, 0, 4095]
theorem examboardref24_Merge.tab5 : rtab .any (opsOf Try.f20 5) = examboardref24_Merge.T5 := by kernel_rfl
theorem examboardref24_Merge.bits5 : waitsOk examboardref24_Merge.T5.2 examboardref24_Merge.B5 = true := by kernel_rfl
set_option maxHeartbeats 8000000 in
set_option maxRecDepth 100000 in
theorem examboardref24_Merge.calls (k : Nat) (A0_0 : Option Addr) (c0_0 : Nat) (l0_0 : List Int) (A0_1 : Option Addr) (c0_1 : Nat) (l0_1 : List Int) (A0_2 : Option Addr) (c0_2 : Nat) (l0_2 : List (List Int)) (A1_0 : Option Addr) (c1_0 : Nat) (l1_0 : List Int) (A1_1 : Option Addr) (c1_1 : Nat) (l1_1 : List Int) (A1_2 : Option Addr) (c1_2 : Nat) (l1_2 : List (List Int)) (r1 : List Int) (r2 : List Int) (r3 : List (List Int)) (r4 : Int) (w : World) (hr0_0 : Kd.C (Kd.int .i64) w A0_0 l0_0.length l0_0) (hc0_0 : l0_0.length ≤ c0_0) (hr0_1 : Kd.C (Kd.int .i64) w A0_1 l0_1.length l0_1) (hc0_1 : l0_1.length ≤ c0_1) (hr0_2 : Kd.C (Kd.slice 3 (Kd.int .i64)) w A0_2 l0_2.length l0_2) (hc0_2 : l0_2.length ≤ c0_2) (hr1_0 : Kd.C (Kd.int .i64) w A1_0 l1_0.length l1_0) (hc1_0 : l1_0.length ≤ c1_0) (hr1_1 : Kd.C (Kd.int .i64) w A1_1 l1_1.length l1_1) (hc1_1 : l1_1.length ≤ c1_1) (hr1_2 : Kd.C (Kd.slice 3 (Kd.int .i64)) w A1_2 l1_2.length l1_2) (hc1_2 : l1_2.length ≤ c1_2) (h : examboardref24_Merge.f k l0_0 l0_1 l0_2 l1_0 l1_1 l1_2 = some (r1, r2, r3, r4)) :
  Calls Try.prog 20 #[.agg #[.slice A0_0 l0_0.length c0_0, .slice A0_1 l0_1.length c0_1, .slice A0_2 l0_2.length c0_2], .agg #[.slice A1_0 l1_0.length c1_0, .slice A1_1 l1_1.length c1_1, .slice A1_2 l1_2.length c1_2]] w fun e w' => ∃ v0_ v1_ v2_ : Value, e = .returned (.tuple #[.agg #[v0_, v1_, v2_], .int .i64 r4]) ∧ Kd.R (Kd.int .i64) 3 w' w.heap.size (fun k_ => some k_ ≠ (v1_ : Value).ownBlock) v0_ r1 ∧ Kd.R (Kd.int .i64) 3 w' w.heap.size (fun k_ => some k_ ≠ (v0_ : Value).ownBlock) v1_ r2 ∧ Kd.S (Kd.slice 3 (Kd.int .i64)) 36 w' w.heap.size (fun k_ => some k_ ≠ (v0_ : Value).ownBlock ∧ some k_ ≠ (v1_ : Value).ownBlock) v2_ r3 ∧ Below w.heap.size w w' := by
 have hu39 := Try.underlying39
 have HR0_0 := Am hr0_0
 have HC0_0 := Am hc0_0
 clear hr0_0 hc0_0
 have HR0_1 := Am hr0_1
 have HC0_1 := Am hc0_1
 clear hr0_1 hc0_1
 have HR0_2 := Am hr0_2
 have HC0_2 := Am hc0_2
 clear hr0_2 hc0_2
 have HR1_0 := Am hr1_0
 have HC1_0 := Am hc1_0
 clear hr1_0 hc1_0
 have HR1_1 := Am hr1_1
 have HC1_1 := Am hc1_1
 clear hr1_1 hc1_1
 have HR1_2 := Am hr1_2
 have HC1_2 := Am hc1_2
 clear hr1_2 hc1_2
 have HB := Am (Below.refl w.heap.size w)
 have H : ((examboardref24_shaped.f k l0_0 l0_1 l0_2).bind fun t492 => (if t492 = true then ((examboardref24_shaped.f k l1_0 l1_1 l1_2).bind fun t493 => (examboardref24_Merge.j0 k (!t493) l0_0 l0_1 l0_2 l1_0 l1_1 l1_2)) else (examboardref24_Merge.j0 k true l0_0 l0_1 l0_2 l1_0 l1_1 l1_2))) = some (r1, r2, r3, r4) := h
 clear h
 have HC3 := Am H
 clear H
 go_enter Try.func20, Try.ntmps20
 go_upto_region 1 with (first | ((with_reducible refine gate_dst (N := 2) rfl ?_); (try (refine gate_guard (by rfl) ?_; dsimp only)); refine box_event ?hg (N := 2) ?hd (cs := #[.slice A0_0 l0_0.length c0_0, .slice A0_1 l0_1.length c0_1, .slice A0_2 l0_2.length c0_2]) (t := 39) ?hr ?_; (case hd => rfl); (case hg => rfl); (case hr => first | (go_simp; done) | (go_simp; rfl)); intro gb489 hg w4 hbox hb; have n0_ := Am (below_step (Bl HB) hb); have n1_ := Am (hbox); have n2_ := Am ((by rw [hg]; exact (below_size (Bl HB)) : w.heap.size ≤ gb489)); have n3_ := Am ((by rw [hg]; exact (below_size (Bl HB)) : w.heap.size ≤ gb489)); clear HB; have HB := n0_; have BK489 := n1_; have GW489 := n2_; have GE489 := n3_; clear n0_ n1_ n2_ n3_; clear hb hbox hg) | ((with_reducible refine gate_dst (N := 3) rfl ?_); (try (refine gate_guard (by rfl) ?_; dsimp only)); refine box_event ?hg (N := 3) ?hd (cs := #[.slice A1_0 l1_0.length c1_0, .slice A1_1 l1_1.length c1_1, .slice A1_2 l1_2.length c1_2]) (t := 39) ?hr ?_; (case hd => rfl); (case hg => rfl); (case hr => first | (go_simp; done) | (go_simp; rfl)); intro gb490 hg w5 hbox hb; have n0_ := Am (blk_below (Kl BK489) hb); have n1_ := Am (below_step (by repeat first | exact Bl HB | refine Bp (below_set ?_ GE489.out)) hb); have n2_ := Am (hbox); have n3_ := Am ((by rw [hg]; exact (below_size (by repeat first | exact Bl HB | refine Bp (below_set ?_ GE489.out))) : w.heap.size ≤ gb490)); have n4_ := Am ((by rw [hg]; exact (below_size (by repeat first | exact Bl HB | refine Bp (below_set ?_ GE489.out))) : w.heap.size ≤ gb490)); have n5_ := Am ((by rw [hg]; exact Nat.ne_of_lt (blk_lt (Kl BK489)) : gb489 ≠ gb490)); have n6_ := Am ((by rw [hg]; exact Nat.ne_of_gt (blk_lt (Kl BK489)) : gb490 ≠ gb489)); clear BK489 HB; have BK489 := n0_; have HB := n1_; have BK490 := n2_; have GW490 := n3_; have GE490 := n4_; have NB489_490 := n5_; have NB490_489 := n6_; clear n0_ n1_ n2_ n3_ n4_ n5_ n6_; clear hb hbox hg) | ((with_reducible refine gate_dst (N := 4) rfl ?_); (try (refine gate_guard (by rfl) ?_; dsimp only)); refine box_event ?hg (N := 4) ?hd (cs := #[.slice none 0 0, .slice none 0 0, .slice none 0 0]) (t := 39) ?hr ?_; (case hd => rfl); (case hg => rfl); (case hr => first | (go_simp; done) | (go_simp; rfl)); intro gb491 hg w6 hbox hb; have n0_ := Am (blk_below (Kl BK489) hb); have n1_ := Am (blk_below (Kl BK490) hb); have n2_ := Am (below_step (by repeat first | exact Bl HB | refine Bp (below_set ?_ GE489.out) | refine Bp (below_set ?_ GE490.out)) hb); have n3_ := Am (hbox); have n4_ := Am ((by rw [hg]; exact (below_size (by repeat first | exact Bl HB | refine Bp (below_set ?_ GE489.out) | refine Bp (below_set ?_ GE490.out))) : w.heap.size ≤ gb491)); have n5_ := Am ((by rw [hg]; exact (below_size (by repeat first | exact Bl HB | refine Bp (below_set ?_ GE489.out) | refine Bp (below_set ?_ GE490.out))) : w.heap.size ≤ gb491)); have n6_ := Am ((by rw [hg]; exact Nat.ne_of_lt (blk_lt (Kl BK489)) : gb489 ≠ gb491)); have n7_ := Am ((by rw [hg]; exact Nat.ne_of_gt (blk_lt (Kl BK489)) : gb491 ≠ gb489)); have n8_ := Am ((by rw [hg]; exact Nat.ne_of_lt (blk_lt (Kl BK490)) : gb490 ≠ gb491)); have n9_ := Am ((by rw [hg]; exact Nat.ne_of_gt (blk_lt (Kl BK490)) : gb491 ≠ gb490)); clear BK489 BK490 HB; have BK489 := n0_; have BK490 := n1_; have HB := n2_; have BK491 := n3_; have GW491 := n4_; have GE491 := n5_; have NB489_491 := n6_; have NB491_489 := n7_; have NB490_491 := n8_; have NB491_490 := n9_; clear n0_ n1_ n2_ n3_ n4_ n5_ n6_ n7_ n8_ n9_; clear hb hbox hg))
 (try simp only [Act.put, List.setIfInBounds_toArray, List.set_cons_zero, List.set_cons_succ])
 go_cut [23] (fun v23 wc => ∃ (kq : Nat) (x23_2 : Bool), v23 = .bool x23_2 ∧ Aside0 (examboardref24_Merge.j0 kq x23_2 l0_0 l0_1 l0_2 l1_0 l1_1 l1_2 = some (r1, r2, r3, r4)) ∧ Aside0 (kq ≤ k) ∧ Aside0 (wc.heap[gb489]? = some (.cells #[(.slice A0_0 l0_0.length c0_0), (.slice A0_1 l0_1.length c0_1), (.slice A0_2 l0_2.length c0_2)] 39 (0, 0))) ∧ Aside0 (wc.heap[gb490]? = some (.cells #[(.slice A1_0 l1_0.length c1_0), (.slice A1_1 l1_1.length c1_1), (.slice A1_2 l1_2.length c1_2)] 39 (0, 0))) ∧ Aside0 (wc.heap[gb491]? = some (.cells #[(.slice none 0 0), (.slice none 0 0), (.slice none 0 0)] 39 (0, 0))) ∧ Aside0 (Below w.heap.size w wc))
 case first =>
  have H := HC3.out
  clear HC3
  replace H := Option.bind_eq_some_iff.mp H
  obtain ⟨t492, A70, H⟩ := H
  replace H : (if t492 = true then ((examboardref24_shaped.f k l1_0 l1_1 l1_2).bind fun t493 => (examboardref24_Merge.j0 k (!t493) l0_0 l0_1 l0_2 l1_0 l1_1 l1_2)) else (examboardref24_Merge.j0 k true l0_0 l0_1 l0_2 l1_0 l1_1 l1_2)) = some (r1, r2, r3, r4) := H
  have A7 := Am A70
  clear A70
  by_cases c8 : t492 = true
  ·subst c8
   have H1 : ((examboardref24_shaped.f k l1_0 l1_1 l1_2).bind fun t493 => (examboardref24_Merge.j0 k (!t493) l0_0 l0_1 l0_2 l1_0 l1_1 l1_2)) = some (r1, r2, r3, r4) := by rw [if_pos rfl] at H; exact H
   clear H
   have H := H1
   clear H1
   replace H := Option.bind_eq_some_iff.mp H
   obtain ⟨t493, A90, H⟩ := H
   replace H : (examboardref24_Merge.j0 k (!t493) l0_0 l0_1 l0_2 l1_0 l1_1 l1_2) = some (r1, r2, r3, r4) := H
   have A9 := Am A90
   clear A90
   have H' := Am H
   clear H
   have hnb10 := NB489_490.out
   have hnc10 := NB490_489.out
   have hnb11 := NB489_491.out
   have hnc11 := NB491_489.out
   have hcz12_0 : w6.cell? ⟨gb489, 0, none⟩ = some (.slice A0_0 l0_0.length c0_0) := (blk_cell BK489.out 0).trans rfl
   have hcz12_1 : w6.cell? ⟨gb489, 1, none⟩ = some (.slice A0_1 l0_1.length c0_1) := (blk_cell BK489.out 1).trans rfl
   have hcz12_2 : w6.cell? ⟨gb489, 2, none⟩ = some (.slice A0_2 l0_2.length c0_2) := (blk_cell BK489.out 2).trans rfl
   have hfz12_0 := blk_frozen BK489.out 0
   have hfz12_1 := blk_frozen BK489.out 1
   have hfz12_2 := blk_frozen BK489.out 2
   go_wp2_with (first | ((with_reducible refine gate_callee (f := 35) rfl ?_); refine goesL_ (some 17) rfl rfl Try.func35 (by kernel_rfl) rfl #[.agg #[.slice A0_0 l0_0.length c0_0, .slice A0_1 l0_1.length c0_1, .slice A0_2 l0_2.length c0_2]] rfl (by (try simp only [List.map_toArray, List.map_cons, List.map_nil]); first | done | rfl | (simp only [List.length_drop, List.length_take]; rfl)) ?_; (with_reducible refine (examboardref24_shaped.calls k _ _ l0_0 _ _ l0_1 _ _ l0_2 true _ ?side1 ?side2 ?side3 ?side4 ?side5 ?side6 A7.out).mono ?_); (case side1 => repeat (first | exact (Kd.C_below HR0_0.out HB.out) | (with_reducible refine Kd.C_alloc ?_ _) | (with_reducible refine Kd.C_drewN ?_ _) | (with_reducible refine Kd.C_drew ?_))); (case side2 => exact HC0_0.out); (case side3 => repeat (first | exact (Kd.C_below HR0_1.out HB.out) | (with_reducible refine Kd.C_alloc ?_ _) | (with_reducible refine Kd.C_drewN ?_ _) | (with_reducible refine Kd.C_drew ?_))); (case side4 => exact HC0_1.out); (case side5 => repeat (first | exact (Kd.C_below HR0_2.out HB.out) | (with_reducible refine Kd.C_alloc ?_ _) | (with_reducible refine Kd.C_drewN ?_ _) | (with_reducible refine Kd.C_drew ?_))); (case side6 => exact HC0_2.out); rintro e w13 ⟨rfl, hb⟩; refine ⟨_, rfl, ?_⟩; have n0_ := Am (blk_below (Kl BK489) hb); have n1_ := Am (blk_below (Kl BK490) hb); have n2_ := Am (blk_below (Kl BK491) hb); have n3_ := Am (below_step (by repeat first | exact Bl HB | refine Bp (below_set ?_ GE489.out) | refine Bp (below_set ?_ GE490.out) | refine Bp (below_set ?_ GE491.out)) hb); clear BK489 BK490 BK491 HB; have BK489 := n0_; have BK490 := n1_; have BK491 := n2_; have HB := n3_; clear n0_ n1_ n2_ n3_; (try clear hb); (try clear hb2); (try clear hk); (try clear hi); have hnb14 := NB490_491.out; have hnc14 := NB491_490.out; have hcz15_0 : w13.cell? ⟨gb490, 0, none⟩ = some (.slice A1_0 l1_0.length c1_0) := (blk_cell BK490.out 0).trans rfl; have hcz15_1 : w13.cell? ⟨gb490, 1, none⟩ = some (.slice A1_1 l1_1.length c1_1) := (blk_cell BK490.out 1).trans rfl; have hcz15_2 : w13.cell? ⟨gb490, 2, none⟩ = some (.slice A1_2 l1_2.length c1_2) := (blk_cell BK490.out 2).trans rfl; have hfz15_0 := blk_frozen BK490.out 0; have hfz15_1 := blk_frozen BK490.out 1; have hfz15_2 := blk_frozen BK490.out 2) | (go_at_call 35; (with_reducible refine (examboardref24_shaped.calls k _ _ l1_0 _ _ l1_1 _ _ l1_2 t493 _ ?side1 ?side2 ?side3 ?side4 ?side5 ?side6 A9.out).mono ?_); (case side1 => repeat (first | exact (Kd.C_below HR1_0.out HB.out) | (with_reducible refine Kd.C_alloc ?_ _) | (with_reducible refine Kd.C_drewN ?_ _) | (with_reducible refine Kd.C_drew ?_))); (case side2 => exact HC1_0.out); (case side3 => repeat (first | exact (Kd.C_below HR1_1.out HB.out) | (with_reducible refine Kd.C_alloc ?_ _) | (with_reducible refine Kd.C_drewN ?_ _) | (with_reducible refine Kd.C_drew ?_))); (case side4 => exact HC1_1.out); (case side5 => repeat (first | exact (Kd.C_below HR1_2.out HB.out) | (with_reducible refine Kd.C_alloc ?_ _) | (with_reducible refine Kd.C_drewN ?_ _) | (with_reducible refine Kd.C_drew ?_))); (case side6 => exact HC1_2.out); rintro e w16 ⟨rfl, hb⟩; have n0_ := Am (blk_below (Kl BK489) hb); have n1_ := Am (blk_below (Kl BK490) hb); have n2_ := Am (blk_below (Kl BK491) hb); have n3_ := Am (below_step (by repeat first | exact Bl HB | refine Bp (below_set ?_ GE489.out) | refine Bp (below_set ?_ GE490.out) | refine Bp (below_set ?_ GE491.out)) hb); clear BK489 BK490 BK491 HB; have BK489 := n0_; have BK490 := n1_; have BK491 := n2_; have HB := n3_; clear n0_ n1_ n2_ n3_; (try clear hb); (try clear hb2); (try clear hk); (try clear hi)))
   go_meet
   case rel => exact ⟨_, (!t493), (by first | rfl | (simp; done) | (simp [*]; done)), H', ⟨by first | omega | exact Nat.le_refl _⟩, ⟨Kl BK489⟩, ⟨Kl BK490⟩, ⟨Kl BK491⟩, ⟨by repeat first | exact Bl HB | refine Bp (below_set ?_ GE489.out) | refine Bp (below_set ?_ GE490.out) | refine Bp (below_set ?_ GE491.out)⟩⟩
  ·replace c8 := Bool.eq_false_iff.mpr c8
   subst c8
   have H1 : (examboardref24_Merge.j0 k true l0_0 l0_1 l0_2 l1_0 l1_1 l1_2) = some (r1, r2, r3, r4) := by rw [if_neg (show ¬ (false = true) by decide)] at H; exact H
   clear H
   have H := H1
   clear H1
   have H' := Am H
   clear H
   have hnb17 := NB489_490.out
   have hnc17 := NB490_489.out
   have hnb18 := NB489_491.out
   have hnc18 := NB491_489.out
   have hcz19_0 : w6.cell? ⟨gb489, 0, none⟩ = some (.slice A0_0 l0_0.length c0_0) := (blk_cell BK489.out 0).trans rfl
   have hcz19_1 : w6.cell? ⟨gb489, 1, none⟩ = some (.slice A0_1 l0_1.length c0_1) := (blk_cell BK489.out 1).trans rfl
   have hcz19_2 : w6.cell? ⟨gb489, 2, none⟩ = some (.slice A0_2 l0_2.length c0_2) := (blk_cell BK489.out 2).trans rfl
   have hfz19_0 := blk_frozen BK489.out 0
   have hfz19_1 := blk_frozen BK489.out 1
   have hfz19_2 := blk_frozen BK489.out 2
   go_wp2_with (first | ((with_reducible refine gate_callee (f := 35) rfl ?_); refine goesL_ (some 17) rfl rfl Try.func35 (by kernel_rfl) rfl #[.agg #[.slice A0_0 l0_0.length c0_0, .slice A0_1 l0_1.length c0_1, .slice A0_2 l0_2.length c0_2]] rfl (by (try simp only [List.map_toArray, List.map_cons, List.map_nil]); first | done | rfl | (simp only [List.length_drop, List.length_take]; rfl)) ?_; (with_reducible refine (examboardref24_shaped.calls k _ _ l0_0 _ _ l0_1 _ _ l0_2 false _ ?side1 ?side2 ?side3 ?side4 ?side5 ?side6 A7.out).mono ?_); (case side1 => repeat (first | exact (Kd.C_below HR0_0.out HB.out) | (with_reducible refine Kd.C_alloc ?_ _) | (with_reducible refine Kd.C_drewN ?_ _) | (with_reducible refine Kd.C_drew ?_))); (case side2 => exact HC0_0.out); (case side3 => repeat (first | exact (Kd.C_below HR0_1.out HB.out) | (with_reducible refine Kd.C_alloc ?_ _) | (with_reducible refine Kd.C_drewN ?_ _) | (with_reducible refine Kd.C_drew ?_))); (case side4 => exact HC0_1.out); (case side5 => repeat (first | exact (Kd.C_below HR0_2.out HB.out) | (with_reducible refine Kd.C_alloc ?_ _) | (with_reducible refine Kd.C_drewN ?_ _) | (with_reducible refine Kd.C_drew ?_))); (case side6 => exact HC0_2.out); rintro e w20 ⟨rfl, hb⟩; refine ⟨_, rfl, ?_⟩; have n0_ := Am (blk_below (Kl BK489) hb); have n1_ := Am (blk_below (Kl BK490) hb); have n2_ := Am (blk_below (Kl BK491) hb); have n3_ := Am (below_step (by repeat first | exact Bl HB | refine Bp (below_set ?_ GE489.out) | refine Bp (below_set ?_ GE490.out) | refine Bp (below_set ?_ GE491.out)) hb); clear BK489 BK490 BK491 HB; have BK489 := n0_; have BK490 := n1_; have BK491 := n2_; have HB := n3_; clear n0_ n1_ n2_ n3_; (try clear hb); (try clear hb2); (try clear hk); (try clear hi)))
   go_meet
   case rel => exact ⟨_, (true), (by first | rfl | (simp; done) | (simp [*]; done)), H', ⟨by first | omega | exact Nat.le_refl _⟩, ⟨Kl BK489⟩, ⟨Kl BK490⟩, ⟨Kl BK491⟩, ⟨by repeat first | exact Bl HB | refine Bp (below_set ?_ GE489.out) | refine Bp (below_set ?_ GE490.out) | refine Bp (below_set ?_ GE491.out)⟩⟩
 case rest =>
  clear HC3
  try clear c1
  try clear c2
  try clear p2
  try clear c3
  try clear c8
  try clear c10
  try clear c11
  try clear c14
  try clear c17
  try clear c18
  try clear c20
  try clear hcz12_0
  try clear hcz12_1
  try clear hcz12_2
  try clear hcz15_0
  try clear hcz15_1
  try clear hcz15_2
  try clear hcz19_0
  try clear hcz19_1
  try clear hcz19_2
  try clear hfz12_0
  try clear hfz12_1
  try clear hfz12_2
  try clear hfz15_0
  try clear hfz15_1
  try clear hfz15_2
  try clear hfz19_0
  try clear hfz19_1
  try clear hfz19_2
  obtain ⟨kq, x23_2, rfl, HA, HJ2, BK489, BK490, BK491, HB⟩ := hcut
  cases kq with
  | zero => exact absurd HA.out (by simp [examboardref24_Merge.j0])
  | succ kj2 =>
   have H := HA.out
   clear HA
   simp only [examboardref24_Merge.j0] at H
   by_cases c21 : x23_2 = true
   ·subst c21
    have H1 : (some (([] : List Int), ([] : List Int), ([] : List (List Int)), 1)) = some (r1, r2, r3, r4) := by rw [if_pos rfl] at H; exact H
    clear H
    have H := H1
    clear H1
    simp only [Option.some.injEq, Prod.mk.injEq] at H
    obtain ⟨rfl, rfl, rfl, rfl⟩ := H
    have hnb22 := NB491_489.out
    have hnc22 := NB489_491.out
    have hnb23 := NB491_490.out
    have hnc23 := NB490_491.out
    have hcz24_0 : wc.cell? ⟨gb491, 0, none⟩ = some (.slice none 0 0) := (blk_cell BK491.out 0).trans rfl
    have hcz24_1 : wc.cell? ⟨gb491, 1, none⟩ = some (.slice none 0 0) := (blk_cell BK491.out 1).trans rfl
    have hcz24_2 : wc.cell? ⟨gb491, 2, none⟩ = some (.slice none 0 0) := (blk_cell BK491.out 2).trans rfl
    have hfz24_0 := blk_frozen BK491.out 0
    have hfz24_1 := blk_frozen BK491.out 1
    have hfz24_2 := blk_frozen BK491.out 2
    go_wp2
    refine bodyPost_ret (results_ct rfl _ _ gb491 39 #[.slice none 0 0, .slice none 0 0, .slice none 0 0] (0, 0) _ rfl (by refine Kp ?_; refine blk_put (cs := #[.slice none 0 0, .slice none 0 0, .slice none 0 0]) ?_ 2 _ rfl; refine Kp ?_; refine blk_put (cs := #[.slice none 0 0, .slice none 0 0, .slice none 0 0]) ?_ 1 _ rfl; refine Kp ?_; refine blk_put (cs := #[.slice none 0 0, .slice none 0 0, .slice none 0 0]) ?_ 0 _ rfl; refine Kp ?_; exact BK491.out) Try.underlying39 rfl (by kernel_rfl)) rfl ?_
    exact ⟨_, _, _, by first | rfl | (simp [errW_none, errW_some] <;> rfl) | (simp [*, errW_none, errW_some] <;> rfl), by first | exact Kd.R_nil _ _ _ _ _ | exact Kd.N_nil _ _ _ _ _ | exact Kd.V_nil _ _ _ _ _ | exact Kd.Q_nil _ _ _ _ _ | exact Kd.S_nil _ _ _ _ _, by first | exact Kd.R_nil _ _ _ _ _ | exact Kd.N_nil _ _ _ _ _ | exact Kd.V_nil _ _ _ _ _ | exact Kd.Q_nil _ _ _ _ _ | exact Kd.S_nil _ _ _ _ _, by first | exact Kd.S_nil _ _ _ _ _ | exact Kd.N_nil _ _ _ _ _ | exact Kd.V_nil _ _ _ _ _ | exact Kd.Q_nil _ _ _ _ _ | exact Kd.R_nil _ _ _ _ _, by repeat first | exact Bl HB | refine Bp (below_set ?_ GE489.out) | refine Bp (below_set ?_ GE490.out) | refine Bp (below_set ?_ GE491.out)⟩
   ·replace c21 := Bool.eq_false_iff.mpr c21
    subst c21
    have H1 : ((examboardref24_rising.f kj2 l0_0).bind fun t494 => (if t494 = true then ((examboardref24_rising.f kj2 l0_1).bind fun t495 => (if t495 = true then ((examboardref24_rising.f kj2 l1_0).bind fun t496 => (if t496 = true then ((examboardref24_rising.f kj2 l1_1).bind fun t497 => (examboardref24_Merge.j1 kj2 (!t497) l0_0 l0_1 l0_2 l1_0 l1_1 l1_2)) else (examboardref24_Merge.j1 kj2 true l0_0 l0_1 l0_2 l1_0 l1_1 l1_2))) else (examboardref24_Merge.j1 kj2 true l0_0 l0_1 l0_2 l1_0 l1_1 l1_2))) else (examboardref24_Merge.j1 kj2 true l0_0 l0_1 l0_2 l1_0 l1_1 l1_2))) = some (r1, r2, r3, r4) := by rw [if_neg (show ¬ (false = true) by decide)] at H; exact H
    clear H
    have H := H1
    clear H1
    have HC25 := Am H
    clear H
    go_upto_region 3 with (fail)
    go_cut [46] (fun v46 wc => ∃ (kq : Nat) (x46_24 : Bool), v46 = .bool x46_24 ∧ Aside0 (examboardref24_Merge.j1 kq x46_24 l0_0 l0_1 l0_2 l1_0 l1_1 l1_2 = some (r1, r2, r3, r4)) ∧ Aside0 (kq ≤ kj2) ∧ Aside0 (wc.heap[gb489]? = some (.cells #[(.slice A0_0 l0_0.length c0_0), (.slice A0_1 l0_1.length c0_1), (.slice A0_2 l0_2.length c0_2)] 39 (0, 0))) ∧ Aside0 (wc.heap[gb490]? = some (.cells #[(.slice A1_0 l1_0.length c1_0), (.slice A1_1 l1_1.length c1_1), (.slice A1_2 l1_2.length c1_2)] 39 (0, 0))) ∧ Aside0 (wc.heap[gb491]? = some (.cells #[(.slice none 0 0), (.slice none 0 0), (.slice none 0 0)] 39 (0, 0))) ∧ Aside0 (Below w.heap.size w wc))
    case first =>
     have H := HC25.out
     clear HC25
     replace H := Option.bind_eq_some_iff.mp H
     obtain ⟨t494, A260, H⟩ := H
     replace H : (if t494 = true then ((examboardref24_rising.f kj2 l0_1).bind fun t495 => (if t495 = true then ((examboardref24_rising.f kj2 l1_0).bind fun t496 => (if t496 = true then ((examboardref24_rising.f kj2 l1_1).bind fun t497 => (examboardref24_Merge.j1 kj2 (!t497) l0_0 l0_1 l0_2 l1_0 l1_1 l1_2)) else (examboardref24_Merge.j1 kj2 true l0_0 l0_1 l0_2 l1_0 l1_1 l1_2))) else (examboardref24_Merge.j1 kj2 true l0_0 l0_1 l0_2 l1_0 l1_1 l1_2))) else (examboardref24_Merge.j1 kj2 true l0_0 l0_1 l0_2 l1_0 l1_1 l1_2)) = some (r1, r2, r3, r4) := H
     have A26 := Am A260
     clear A260
     by_cases c27 : t494 = true
     ·subst c27
      have H1 : ((examboardref24_rising.f kj2 l0_1).bind fun t495 => (if t495 = true then ((examboardref24_rising.f kj2 l1_0).bind fun t496 => (if t496 = true then ((examboardref24_rising.f kj2 l1_1).bind fun t497 => (examboardref24_Merge.j1 kj2 (!t497) l0_0 l0_1 l0_2 l1_0 l1_1 l1_2)) else (examboardref24_Merge.j1 kj2 true l0_0 l0_1 l0_2 l1_0 l1_1 l1_2))) else (examboardref24_Merge.j1 kj2 true l0_0 l0_1 l0_2 l1_0 l1_1 l1_2))) = some (r1, r2, r3, r4) := by rw [if_pos rfl] at H; exact H
      clear H
      have H := H1
      clear H1
      replace H := Option.bind_eq_some_iff.mp H
      obtain ⟨t495, A280, H⟩ := H
      replace H : (if t495 = true then ((examboardref24_rising.f kj2 l1_0).bind fun t496 => (if t496 = true then ((examboardref24_rising.f kj2 l1_1).bind fun t497 => (examboardref24_Merge.j1 kj2 (!t497) l0_0 l0_1 l0_2 l1_0 l1_1 l1_2)) else (examboardref24_Merge.j1 kj2 true l0_0 l0_1 l0_2 l1_0 l1_1 l1_2))) else (examboardref24_Merge.j1 kj2 true l0_0 l0_1 l0_2 l1_0 l1_1 l1_2)) = some (r1, r2, r3, r4) := H
      have A28 := Am A280
      clear A280
      by_cases c29 : t495 = true
      ·subst c29
       have H1 : ((examboardref24_rising.f kj2 l1_0).bind fun t496 => (if t496 = true then ((examboardref24_rising.f kj2 l1_1).bind fun t497 => (examboardref24_Merge.j1 kj2 (!t497) l0_0 l0_1 l0_2 l1_0 l1_1 l1_2)) else (examboardref24_Merge.j1 kj2 true l0_0 l0_1 l0_2 l1_0 l1_1 l1_2))) = some (r1, r2, r3, r4) := by rw [if_pos rfl] at H; exact H
       clear H
       have H := H1
       clear H1
       replace H := Option.bind_eq_some_iff.mp H
       obtain ⟨t496, A300, H⟩ := H
       replace H : (if t496 = true then ((examboardref24_rising.f kj2 l1_1).bind fun t497 => (examboardref24_Merge.j1 kj2 (!t497) l0_0 l0_1 l0_2 l1_0 l1_1 l1_2)) else (examboardref24_Merge.j1 kj2 true l0_0 l0_1 l0_2 l1_0 l1_1 l1_2)) = some (r1, r2, r3, r4) := H
       have A30 := Am A300
       clear A300
       by_cases c31 : t496 = true
       ·subst c31
        have H1 : ((examboardref24_rising.f kj2 l1_1).bind fun t497 => (examboardref24_Merge.j1 kj2 (!t497) l0_0 l0_1 l0_2 l1_0 l1_1 l1_2)) = some (r1, r2, r3, r4) := by rw [if_pos rfl] at H; exact H
        clear H
        have H := H1
        clear H1
        replace H := Option.bind_eq_some_iff.mp H
        obtain ⟨t497, A320, H⟩ := H
        replace H : (examboardref24_Merge.j1 kj2 (!t497) l0_0 l0_1 l0_2 l1_0 l1_1 l1_2) = some (r1, r2, r3, r4) := H
        have A32 := Am A320
        clear A320
        have H' := Am H
        clear H
        have hnb33 := NB489_490.out
        have hnc33 := NB490_489.out
        have hnb34 := NB489_491.out
        have hnc34 := NB491_489.out
        have hcz35_0 : wc.cell? ⟨gb489, 0, none⟩ = some (.slice A0_0 l0_0.length c0_0) := (blk_cell BK489.out 0).trans rfl
        have hcz35_1 : wc.cell? ⟨gb489, 1, none⟩ = some (.slice A0_1 l0_1.length c0_1) := (blk_cell BK489.out 1).trans rfl
        have hcz35_2 : wc.cell? ⟨gb489, 2, none⟩ = some (.slice A0_2 l0_2.length c0_2) := (blk_cell BK489.out 2).trans rfl
        have hfz35_0 := blk_frozen BK489.out 0
        have hfz35_1 := blk_frozen BK489.out 1
        have hfz35_2 := blk_frozen BK489.out 2
        go_wp2_with (first | ((with_reducible refine gate_callee (f := 34) rfl ?_); refine goesL_ (some 27) rfl rfl Try.func34 (by kernel_rfl) rfl #[.slice A0_0 l0_0.length c0_0] rfl (by (try simp only [List.map_toArray, List.map_cons, List.map_nil]); first | done | rfl | (simp only [List.length_drop, List.length_take]; rfl)) ?_; (with_reducible refine (examboardref24_rising.calls kj2 _ _ l0_0 true _ ?side1 ?side2 A26.out).mono ?_); (case side1 => repeat (first | exact (Kd.C_below HR0_0.out HB.out) | (with_reducible refine Kd.C_alloc ?_ _) | (with_reducible refine Kd.C_drewN ?_ _) | (with_reducible refine Kd.C_drew ?_))); (case side2 => exact HC0_0.out); rintro e w' ⟨rfl, ⟨nd, rfl⟩⟩; refine ⟨_, rfl, ?_⟩) | (go_at_call 34; (with_reducible refine (examboardref24_rising.calls kj2 _ _ l0_1 true _ ?side1 ?side2 A28.out).mono ?_); (case side1 => repeat (first | exact (Kd.C_below HR0_1.out (by repeat first | exact Bl HB | refine Bp (below_set ?_ GE489.out) | refine Bp (below_set ?_ GE490.out) | refine Bp (below_set ?_ GE491.out))) | (with_reducible refine Kd.C_alloc ?_ _) | (with_reducible refine Kd.C_drewN ?_ _) | (with_reducible refine Kd.C_drew ?_))); (case side2 => exact HC0_1.out); rintro e w' ⟨rfl, ⟨nd, rfl⟩⟩; have hnb36 := NB490_491.out; have hnc36 := NB491_490.out; have hcz37_0 : wc.cell? ⟨gb490, 0, none⟩ = some (.slice A1_0 l1_0.length c1_0) := (blk_cell BK490.out 0).trans rfl; have hcz37_1 : wc.cell? ⟨gb490, 1, none⟩ = some (.slice A1_1 l1_1.length c1_1) := (blk_cell BK490.out 1).trans rfl; have hcz37_2 : wc.cell? ⟨gb490, 2, none⟩ = some (.slice A1_2 l1_2.length c1_2) := (blk_cell BK490.out 2).trans rfl; have hfz37_0 := blk_frozen BK490.out 0; have hfz37_1 := blk_frozen BK490.out 1; have hfz37_2 := blk_frozen BK490.out 2) | (go_at_call 34; (with_reducible refine (examboardref24_rising.calls kj2 _ _ l1_0 true _ ?side1 ?side2 A30.out).mono ?_); (case side1 => repeat (first | exact (Kd.C_below HR1_0.out (by repeat first | exact Bl HB | refine Bp (below_set ?_ GE489.out) | refine Bp (below_set ?_ GE490.out) | refine Bp (below_set ?_ GE491.out))) | (with_reducible refine Kd.C_alloc ?_ _) | (with_reducible refine Kd.C_drewN ?_ _) | (with_reducible refine Kd.C_drew ?_))); (case side2 => exact HC1_0.out); rintro e w' ⟨rfl, ⟨nd, rfl⟩⟩) | (go_at_call 34; (with_reducible refine (examboardref24_rising.calls kj2 _ _ l1_1 t497 _ ?side1 ?side2 A32.out).mono ?_); (case side1 => repeat (first | exact (Kd.C_below HR1_1.out (by repeat first | exact Bl HB | refine Bp (below_set ?_ GE489.out) | refine Bp (below_set ?_ GE490.out) | refine Bp (below_set ?_ GE491.out))) | (with_reducible refine Kd.C_alloc ?_ _) | (with_reducible refine Kd.C_drewN ?_ _) | (with_reducible refine Kd.C_drew ?_))); (case side2 => exact HC1_1.out); rintro e w' ⟨rfl, ⟨nd, rfl⟩⟩))
        go_meet
        case rel => exact ⟨_, (!t497), (by first | rfl | (simp; done) | (simp [*]; done)), H', ⟨by have := HJ2.out; first | omega | exact Nat.le_refl _⟩, ⟨Kl BK489⟩, ⟨Kl BK490⟩, ⟨Kl BK491⟩, ⟨by repeat first | exact Bl HB | refine Bp (below_set ?_ GE489.out) | refine Bp (below_set ?_ GE490.out) | refine Bp (below_set ?_ GE491.out)⟩⟩
       ·replace c31 := Bool.eq_false_iff.mpr c31
        subst c31
        have H1 : (examboardref24_Merge.j1 kj2 true l0_0 l0_1 l0_2 l1_0 l1_1 l1_2) = some (r1, r2, r3, r4) := by rw [if_neg (show ¬ (false = true) by decide)] at H; exact H
        clear H
        have H := H1
        clear H1
        have H' := Am H
        clear H
        have hnb38 := NB489_490.out
        have hnc38 := NB490_489.out
        have hnb39 := NB489_491.out
        have hnc39 := NB491_489.out
        have hcz40_0 : wc.cell? ⟨gb489, 0, none⟩ = some (.slice A0_0 l0_0.length c0_0) := (blk_cell BK489.out 0).trans rfl
        have hcz40_1 : wc.cell? ⟨gb489, 1, none⟩ = some (.slice A0_1 l0_1.length c0_1) := (blk_cell BK489.out 1).trans rfl
        have hcz40_2 : wc.cell? ⟨gb489, 2, none⟩ = some (.slice A0_2 l0_2.length c0_2) := (blk_cell BK489.out 2).trans rfl
        have hfz40_0 := blk_frozen BK489.out 0
        have hfz40_1 := blk_frozen BK489.out 1
        have hfz40_2 := blk_frozen BK489.out 2
        go_wp2_with (first | ((with_reducible refine gate_callee (f := 34) rfl ?_); refine goesL_ (some 27) rfl rfl Try.func34 (by kernel_rfl) rfl #[.slice A0_0 l0_0.length c0_0] rfl (by (try simp only [List.map_toArray, List.map_cons, List.map_nil]); first | done | rfl | (simp only [List.length_drop, List.length_take]; rfl)) ?_; (with_reducible refine (examboardref24_rising.calls kj2 _ _ l0_0 true _ ?side1 ?side2 A26.out).mono ?_); (case side1 => repeat (first | exact (Kd.C_below HR0_0.out HB.out) | (with_reducible refine Kd.C_alloc ?_ _) | (with_reducible refine Kd.C_drewN ?_ _) | (with_reducible refine Kd.C_drew ?_))); (case side2 => exact HC0_0.out); rintro e w' ⟨rfl, ⟨nd, rfl⟩⟩; refine ⟨_, rfl, ?_⟩) | (go_at_call 34; (with_reducible refine (examboardref24_rising.calls kj2 _ _ l0_1 true _ ?side1 ?side2 A28.out).mono ?_); (case side1 => repeat (first | exact (Kd.C_below HR0_1.out (by repeat first | exact Bl HB | refine Bp (below_set ?_ GE489.out) | refine Bp (below_set ?_ GE490.out) | refine Bp (below_set ?_ GE491.out))) | (with_reducible refine Kd.C_alloc ?_ _) | (with_reducible refine Kd.C_drewN ?_ _) | (with_reducible refine Kd.C_drew ?_))); (case side2 => exact HC0_1.out); rintro e w' ⟨rfl, ⟨nd, rfl⟩⟩; have hnb41 := NB490_491.out; have hnc41 := NB491_490.out; have hcz42_0 : wc.cell? ⟨gb490, 0, none⟩ = some (.slice A1_0 l1_0.length c1_0) := (blk_cell BK490.out 0).trans rfl; have hcz42_1 : wc.cell? ⟨gb490, 1, none⟩ = some (.slice A1_1 l1_1.length c1_1) := (blk_cell BK490.out 1).trans rfl; have hcz42_2 : wc.cell? ⟨gb490, 2, none⟩ = some (.slice A1_2 l1_2.length c1_2) := (blk_cell BK490.out 2).trans rfl; have hfz42_0 := blk_frozen BK490.out 0; have hfz42_1 := blk_frozen BK490.out 1; have hfz42_2 := blk_frozen BK490.out 2) | (go_at_call 34; (with_reducible refine (examboardref24_rising.calls kj2 _ _ l1_0 false _ ?side1 ?side2 A30.out).mono ?_); (case side1 => repeat (first | exact (Kd.C_below HR1_0.out (by repeat first | exact Bl HB | refine Bp (below_set ?_ GE489.out) | refine Bp (below_set ?_ GE490.out) | refine Bp (below_set ?_ GE491.out))) | (with_reducible refine Kd.C_alloc ?_ _) | (with_reducible refine Kd.C_drewN ?_ _) | (with_reducible refine Kd.C_drew ?_))); (case side2 => exact HC1_0.out); rintro e w' ⟨rfl, ⟨nd, rfl⟩⟩))
        go_meet
        case rel => exact ⟨_, (true), (by first | rfl | (simp; done) | (simp [*]; done)), H', ⟨by have := HJ2.out; first | omega | exact Nat.le_refl _⟩, ⟨Kl BK489⟩, ⟨Kl BK490⟩, ⟨Kl BK491⟩, ⟨by repeat first | exact Bl HB | refine Bp (below_set ?_ GE489.out) | refine Bp (below_set ?_ GE490.out) | refine Bp (below_set ?_ GE491.out)⟩⟩
      ·replace c29 := Bool.eq_false_iff.mpr c29
       subst c29
       have H1 : (examboardref24_Merge.j1 kj2 true l0_0 l0_1 l0_2 l1_0 l1_1 l1_2) = some (r1, r2, r3, r4) := by rw [if_neg (show ¬ (false = true) by decide)] at H; exact H
       clear H
       have H := H1
       clear H1
       have H' := Am H
       clear H
       have hnb43 := NB489_490.out
       have hnc43 := NB490_489.out
       have hnb44 := NB489_491.out
       have hnc44 := NB491_489.out
       have hcz45_0 : wc.cell? ⟨gb489, 0, none⟩ = some (.slice A0_0 l0_0.length c0_0) := (blk_cell BK489.out 0).trans rfl
       have hcz45_1 : wc.cell? ⟨gb489, 1, none⟩ = some (.slice A0_1 l0_1.length c0_1) := (blk_cell BK489.out 1).trans rfl
       have hcz45_2 : wc.cell? ⟨gb489, 2, none⟩ = some (.slice A0_2 l0_2.length c0_2) := (blk_cell BK489.out 2).trans rfl
       have hfz45_0 := blk_frozen BK489.out 0
       have hfz45_1 := blk_frozen BK489.out 1
       have hfz45_2 := blk_frozen BK489.out 2
       go_wp2_with (first | ((with_reducible refine gate_callee (f := 34) rfl ?_); refine goesL_ (some 27) rfl rfl Try.func34 (by kernel_rfl) rfl #[.slice A0_0 l0_0.length c0_0] rfl (by (try simp only [List.map_toArray, List.map_cons, List.map_nil]); first | done | rfl | (simp only [List.length_drop, List.length_take]; rfl)) ?_; (with_reducible refine (examboardref24_rising.calls kj2 _ _ l0_0 true _ ?side1 ?side2 A26.out).mono ?_); (case side1 => repeat (first | exact (Kd.C_below HR0_0.out HB.out) | (with_reducible refine Kd.C_alloc ?_ _) | (with_reducible refine Kd.C_drewN ?_ _) | (with_reducible refine Kd.C_drew ?_))); (case side2 => exact HC0_0.out); rintro e w' ⟨rfl, ⟨nd, rfl⟩⟩; refine ⟨_, rfl, ?_⟩) | (go_at_call 34; (with_reducible refine (examboardref24_rising.calls kj2 _ _ l0_1 false _ ?side1 ?side2 A28.out).mono ?_); (case side1 => repeat (first | exact (Kd.C_below HR0_1.out (by repeat first | exact Bl HB | refine Bp (below_set ?_ GE489.out) | refine Bp (below_set ?_ GE490.out) | refine Bp (below_set ?_ GE491.out))) | (with_reducible refine Kd.C_alloc ?_ _) | (with_reducible refine Kd.C_drewN ?_ _) | (with_reducible refine Kd.C_drew ?_))); (case side2 => exact HC0_1.out); rintro e w' ⟨rfl, ⟨nd, rfl⟩⟩))
       go_meet
       case rel => exact ⟨_, (true), (by first | rfl | (simp; done) | (simp [*]; done)), H', ⟨by have := HJ2.out; first | omega | exact Nat.le_refl _⟩, ⟨Kl BK489⟩, ⟨Kl BK490⟩, ⟨Kl BK491⟩, ⟨by repeat first | exact Bl HB | refine Bp (below_set ?_ GE489.out) | refine Bp (below_set ?_ GE490.out) | refine Bp (below_set ?_ GE491.out)⟩⟩
     ·replace c27 := Bool.eq_false_iff.mpr c27
      subst c27
      have H1 : (examboardref24_Merge.j1 kj2 true l0_0 l0_1 l0_2 l1_0 l1_1 l1_2) = some (r1, r2, r3, r4) := by rw [if_neg (show ¬ (false = true) by decide)] at H; exact H
      clear H
      have H := H1
      clear H1
      have H' := Am H
      clear H
      have hnb46 := NB489_490.out
      have hnc46 := NB490_489.out
      have hnb47 := NB489_491.out
      have hnc47 := NB491_489.out
      have hcz48_0 : wc.cell? ⟨gb489, 0, none⟩ = some (.slice A0_0 l0_0.length c0_0) := (blk_cell BK489.out 0).trans rfl
      have hcz48_1 : wc.cell? ⟨gb489, 1, none⟩ = some (.slice A0_1 l0_1.length c0_1) := (blk_cell BK489.out 1).trans rfl
      have hcz48_2 : wc.cell? ⟨gb489, 2, none⟩ = some (.slice A0_2 l0_2.length c0_2) := (blk_cell BK489.out 2).trans rfl
      have hfz48_0 := blk_frozen BK489.out 0
      have hfz48_1 := blk_frozen BK489.out 1
      have hfz48_2 := blk_frozen BK489.out 2
      go_wp2_with (first | ((with_reducible refine gate_callee (f := 34) rfl ?_); refine goesL_ (some 27) rfl rfl Try.func34 (by kernel_rfl) rfl #[.slice A0_0 l0_0.length c0_0] rfl (by (try simp only [List.map_toArray, List.map_cons, List.map_nil]); first | done | rfl | (simp only [List.length_drop, List.length_take]; rfl)) ?_; (with_reducible refine (examboardref24_rising.calls kj2 _ _ l0_0 false _ ?side1 ?side2 A26.out).mono ?_); (case side1 => repeat (first | exact (Kd.C_below HR0_0.out HB.out) | (with_reducible refine Kd.C_alloc ?_ _) | (with_reducible refine Kd.C_drewN ?_ _) | (with_reducible refine Kd.C_drew ?_))); (case side2 => exact HC0_0.out); rintro e w' ⟨rfl, ⟨nd, rfl⟩⟩; refine ⟨_, rfl, ?_⟩))
      go_meet
      case rel => exact ⟨_, (true), (by first | rfl | (simp; done) | (simp [*]; done)), H', ⟨by have := HJ2.out; first | omega | exact Nat.le_refl _⟩, ⟨Kl BK489⟩, ⟨Kl BK490⟩, ⟨Kl BK491⟩, ⟨by repeat first | exact Bl HB | refine Bp (below_set ?_ GE489.out) | refine Bp (below_set ?_ GE490.out) | refine Bp (below_set ?_ GE491.out)⟩⟩
    case rest =>
     clear HC25
     try clear c1
     try clear c2
     try clear p2
     try clear c3
     try clear c4
     try clear c8
     try clear c10
     try clear c11
     try clear c14
     try clear c17
     try clear c18
     try clear c20
     try clear c21
     try clear c22
     try clear c23
     try clear c27
     try clear c29
     try clear c31
     try clear c33
     try clear c34
     try clear c35
     try clear c36
     try clear c38
     try clear c39
     try clear c41
     try clear c43
     try clear c44
     try clear c46
     try clear c47
     try clear hcz12_0
     try clear hcz12_1
     try clear hcz12_2
     try clear hcz15_0
     try clear hcz15_1
     try clear hcz15_2
     try clear hcz19_0
     try clear hcz19_1
     try clear hcz19_2
     try clear hcz24_0
     try clear hcz24_1
     try clear hcz24_2
     try clear hcz35_0
     try clear hcz35_1
     try clear hcz35_2
     try clear hcz37_0
     try clear hcz37_1
     try clear hcz37_2
     try clear hcz40_0
     try clear hcz40_1
     try clear hcz40_2
     try clear hcz42_0
     try clear hcz42_1
     try clear hcz42_2
     try clear hcz45_0
     try clear hcz45_1
     try clear hcz45_2
     try clear hcz48_0
     try clear hcz48_1
     try clear hcz48_2
     try clear hfz12_0
     try clear hfz12_1
     try clear hfz12_2
     try clear hfz15_0
     try clear hfz15_1
     try clear hfz15_2
     try clear hfz19_0
     try clear hfz19_1
     try clear hfz19_2
     try clear hfz24_0
     try clear hfz24_1
     try clear hfz24_2
     try clear hfz35_0
     try clear hfz35_1
     try clear hfz35_2
     try clear hfz37_0
     try clear hfz37_1
     try clear hfz37_2
     try clear hfz40_0
     try clear hfz40_1
     try clear hfz40_2
     try clear hfz42_0
     try clear hfz42_1
     try clear hfz42_2
     try clear hfz45_0
     try clear hfz45_1
     try clear hfz45_2
     try clear hfz48_0
     try clear hfz48_1
     try clear hfz48_2
     try clear p2
     obtain ⟨kq, x46_24, rfl, HA, HJ24, BK489, BK490, BK491, HB⟩ := hcut
     cases kq with
     | zero => exact absurd HA.out (by simp [examboardref24_Merge.j1])
     | succ kj24 =>
      have H := HA.out
      clear HA
      simp only [examboardref24_Merge.j1] at H
      by_cases c49 : x46_24 = true
      ·subst c49
       have H1 : (some (([] : List Int), ([] : List Int), ([] : List (List Int)), 23)) = some (r1, r2, r3, r4) := by rw [if_pos rfl] at H; exact H
       clear H
       have H := H1
       clear H1
       simp only [Option.some.injEq, Prod.mk.injEq] at H
       obtain ⟨rfl, rfl, rfl, rfl⟩ := H
       have hnb50 := NB491_489.out
       have hnc50 := NB489_491.out
       have hnb51 := NB491_490.out
       have hnc51 := NB490_491.out
       have hcz52_0 : wc.cell? ⟨gb491, 0, none⟩ = some (.slice none 0 0) := (blk_cell BK491.out 0).trans rfl
       have hcz52_1 : wc.cell? ⟨gb491, 1, none⟩ = some (.slice none 0 0) := (blk_cell BK491.out 1).trans rfl
       have hcz52_2 : wc.cell? ⟨gb491, 2, none⟩ = some (.slice none 0 0) := (blk_cell BK491.out 2).trans rfl
       have hfz52_0 := blk_frozen BK491.out 0
       have hfz52_1 := blk_frozen BK491.out 1
       have hfz52_2 := blk_frozen BK491.out 2
       go_wp2
       refine bodyPost_ret (results_ct rfl _ _ gb491 39 #[.slice none 0 0, .slice none 0 0, .slice none 0 0] (0, 0) _ rfl (by refine Kp ?_; refine blk_put (cs := #[.slice none 0 0, .slice none 0 0, .slice none 0 0]) ?_ 2 _ rfl; refine Kp ?_; refine blk_put (cs := #[.slice none 0 0, .slice none 0 0, .slice none 0 0]) ?_ 1 _ rfl; refine Kp ?_; refine blk_put (cs := #[.slice none 0 0, .slice none 0 0, .slice none 0 0]) ?_ 0 _ rfl; refine Kp ?_; exact BK491.out) Try.underlying39 rfl (by kernel_rfl)) rfl ?_
       exact ⟨_, _, _, by first | rfl | (simp [errW_none, errW_some] <;> rfl) | (simp [*, errW_none, errW_some] <;> rfl), by first | exact Kd.R_nil _ _ _ _ _ | exact Kd.N_nil _ _ _ _ _ | exact Kd.V_nil _ _ _ _ _ | exact Kd.Q_nil _ _ _ _ _ | exact Kd.S_nil _ _ _ _ _, by first | exact Kd.R_nil _ _ _ _ _ | exact Kd.N_nil _ _ _ _ _ | exact Kd.V_nil _ _ _ _ _ | exact Kd.Q_nil _ _ _ _ _ | exact Kd.S_nil _ _ _ _ _, by first | exact Kd.S_nil _ _ _ _ _ | exact Kd.N_nil _ _ _ _ _ | exact Kd.V_nil _ _ _ _ _ | exact Kd.Q_nil _ _ _ _ _ | exact Kd.R_nil _ _ _ _ _, by repeat first | exact Bl HB | refine Bp (below_set ?_ GE489.out) | refine Bp (below_set ?_ GE490.out) | refine Bp (below_set ?_ GE491.out)⟩
      ·replace c49 := Bool.eq_false_iff.mpr c49
       subst c49
       have H1 : ((examboardref24_union.f kj24 l0_0 l1_0).bind fun t498 => ((examboardref24_union.f kj24 l0_1 l1_1).bind fun t501 => (examboardref24_Merge.l0 kj24 t498 t501 (t498.length : Int) 0 l0_0 l0_1 l0_2 l1_0 l1_1 l1_2 ([] : List (List Int))))) = some (r1, r2, r3, r4) := by rw [if_neg (show ¬ (false = true) by decide)] at H; exact H
       clear H
       have H := H1
       clear H1
       replace H := Option.bind_eq_some_iff.mp H
       obtain ⟨t498, A530, H⟩ := H
       replace H : ((examboardref24_union.f kj24 l0_1 l1_1).bind fun t501 => (examboardref24_Merge.l0 kj24 t498 t501 (t498.length : Int) 0 l0_0 l0_1 l0_2 l1_0 l1_1 l1_2 ([] : List (List Int)))) = some (r1, r2, r3, r4) := H
       have A53 := Am A530
       clear A530
       replace H := Option.bind_eq_some_iff.mp H
       obtain ⟨t501, A540, H⟩ := H
       replace H : (examboardref24_Merge.l0 kj24 t498 t501 (t498.length : Int) 0 l0_0 l0_1 l0_2 l1_0 l1_1 l1_2 ([] : List (List Int))) = some (r1, r2, r3, r4) := H
       have A54 := Am A540
       clear A540
       have H' := Am H
       clear H
       try go_wp2
       have n0_ := Am (blk_drew BK489.out)
       have n1_ := Am (blk_drew BK490.out)
       have n2_ := Am (blk_drew BK491.out)
       have n3_ := Am (below_drew1 HB.out)
       clear BK489 BK490 BK491 HB
       have BK489 := n0_
       have BK490 := n1_
       have BK491 := n2_
       have HB := n3_
       clear n0_ n1_ n2_ n3_
       refine start_ (n := 13) (S := fun w' => w'.cell? ⟨gb489, 0, none⟩ = some (.slice A0_0 l0_0.length c0_0) ∧ w'.cell? ⟨gb489, 1, none⟩ = some (.slice A0_1 l0_1.length c0_1) ∧ w'.cell? ⟨gb489, 2, none⟩ = some (.slice A0_2 l0_2.length c0_2) ∧ w'.cell? ⟨gb490, 0, none⟩ = some (.slice A1_0 l1_0.length c1_0) ∧ w'.cell? ⟨gb490, 1, none⟩ = some (.slice A1_1 l1_1.length c1_1) ∧ w'.cell? ⟨gb490, 2, none⟩ = some (.slice A1_2 l1_2.length c1_2)) (ds := []) #[false, false, false, false, false, false, false, false, false, false, false, false, false] (by kernel_rfl) rfl rfl ⟨(blk_cell BK489.out 0).trans rfl, (blk_cell BK489.out 1).trans rfl, (blk_cell BK489.out 2).trans rfl, (blk_cell BK490.out 0).trans rfl, (blk_cell BK490.out 1).trans rfl, (blk_cell BK490.out 2).trans rfl⟩ (fun hHeld => ?_); refine with_tabW examboardref24_Merge.tab5 examboardref24_Merge.bits5 (fun HT_ HW_ => ?_)
       generalize wc.drew = w55 at BK489 BK490 BK491 HB hHeld ⊢
       refine pure_ (i := 0) (N := some 48) (v := ?_) (a' := ?_) #[true, false, false, false, false, false, false, false, false, false, false, false, false] rfl rfl (any_of HT_.out (by kernel_rfl)) (fun _ _ _ h => h) (Or.inl ⟨by rfl, ?_⟩) ?_ ?_
       rotate_left
       ·intro w'
        go_simp
        with_reducible rfl
       rotate_left
       ·simp only [Act.put, List.setIfInBounds_toArray, List.set_cons_zero, List.set_cons_succ, i64_w, i32_w]
        rfl
       refine pure_ (i := 2) (N := some 50) (v := ?_) (a' := ?_) #[true, false, true, false, false, false, false, false, false, false, false, false, false] rfl rfl (any_of HT_.out (by kernel_rfl)) (fun _ _ _ h => h) (Or.inl ⟨by rfl, ?_⟩) ?_ ?_
       rotate_left
       ·intro w'
        go_simp
        with_reducible rfl
       rotate_left
       ·simp only [Act.put, List.setIfInBounds_toArray, List.set_cons_zero, List.set_cons_succ, i64_w, i32_w]
        rfl
       refine pure_ (i := 5) (N := some 53) (v := ?_) (a' := ?_) #[true, false, true, false, false, true, false, false, false, false, false, false, false] rfl rfl (any_of HT_.out (by kernel_rfl)) (fun _ _ _ h => h) (Or.inl ⟨by rfl, ?_⟩) ?_ ?_
       rotate_left
       ·intro w'
        go_simp
        with_reducible rfl
       rotate_left
       ·simp only [Act.put, List.setIfInBounds_toArray, List.set_cons_zero, List.set_cons_succ, i64_w, i32_w]
        rfl
       refine pure_ (i := 7) (N := some 55) (v := ?_) (a' := ?_) #[true, false, true, false, false, true, false, true, false, false, false, false, false] rfl rfl (any_of HT_.out (by kernel_rfl)) (fun _ _ _ h => h) (Or.inl ⟨by rfl, ?_⟩) ?_ ?_
       rotate_left
       ·intro w'
        go_simp
        with_reducible rfl
       rotate_left
       ·simp only [Act.put, List.setIfInBounds_toArray, List.set_cons_zero, List.set_cons_succ, i64_w, i32_w]
        rfl
       refine take_ (i := 1) (N := some 49) (v := ?_) (a' := ?_) #[true, true, true, false, false, true, false, true, false, false, false, false, false] rfl rfl (take_ofW HT_.out HW_.out (by kernel_rfl)) (fun _ _ _ h => h) (Or.inl ⟨by rfl, ?_⟩) hHeld ?_ ?_
       rotate_left
       ·rintro w' ⟨s0, s1, s2, s3, s4, s5⟩
        go_simp
        with_reducible rfl
       rotate_left
       ·simp only [Act.put, List.setIfInBounds_toArray, List.set_cons_zero, List.set_cons_succ, i64_w, i32_w]
        rfl
       refine take_ (i := 3) (N := some 51) (v := ?_) (a' := ?_) #[true, true, true, true, false, true, false, true, false, false, false, false, false] rfl rfl (take_ofW HT_.out HW_.out (by kernel_rfl)) (fun _ _ _ h => h) (Or.inl ⟨by rfl, ?_⟩) hHeld ?_ ?_
       rotate_left
       ·rintro w' ⟨s0, s1, s2, s3, s4, s5⟩
        go_simp
        with_reducible rfl
       rotate_left
       ·simp only [Act.put, List.setIfInBounds_toArray, List.set_cons_zero, List.set_cons_succ, i64_w, i32_w]
        rfl
       refine take_ (i := 6) (N := some 54) (v := ?_) (a' := ?_) #[true, true, true, true, false, true, true, true, false, false, false, false, false] rfl rfl (take_ofW HT_.out HW_.out (by kernel_rfl)) (fun _ _ _ h => h) (Or.inl ⟨by rfl, ?_⟩) hHeld ?_ ?_
       rotate_left
       ·rintro w' ⟨s0, s1, s2, s3, s4, s5⟩
        go_simp
        with_reducible rfl
       rotate_left
       ·simp only [Act.put, List.setIfInBounds_toArray, List.set_cons_zero, List.set_cons_succ, i64_w, i32_w]
        rfl
       refine take_ (i := 8) (N := some 56) (v := ?_) (a' := ?_) #[true, true, true, true, false, true, true, true, true, false, false, false, false] rfl rfl (take_ofW HT_.out HW_.out (by kernel_rfl)) (fun _ _ _ h => h) (Or.inl ⟨by rfl, ?_⟩) hHeld ?_ ?_
       rotate_left
       ·rintro w' ⟨s0, s1, s2, s3, s4, s5⟩
        go_simp
        with_reducible rfl
       rotate_left
       ·simp only [Act.put, List.setIfInBounds_toArray, List.set_cons_zero, List.set_cons_succ, i64_w, i32_w]
        rfl
       refine join_ (σ := Value × Value × Nat) 1 #[true, true, true, true, true, true, true, true, true, true, true, true, false] (fun s_ => [(52, s_.1), (57, s_.2.1), (6, .pointer (some ⟨s_.2.2, 0, none⟩)), (58, .agg #[s_.1, s_.2.1, .slice none 0 0])]) (fun s_ w' => (w'.cell? ⟨gb489, 0, none⟩ = some (.slice A0_0 l0_0.length c0_0) ∧ w'.cell? ⟨gb489, 1, none⟩ = some (.slice A0_1 l0_1.length c0_1) ∧ w'.cell? ⟨gb489, 2, none⟩ = some (.slice A0_2 l0_2.length c0_2) ∧ w'.cell? ⟨gb490, 0, none⟩ = some (.slice A1_0 l1_0.length c1_0) ∧ w'.cell? ⟨gb490, 1, none⟩ = some (.slice A1_1 l1_1.length c1_1) ∧ w'.cell? ⟨gb490, 2, none⟩ = some (.slice A1_2 l1_2.length c1_2)) ∧ (Kd.R (Kd.int .i64) 3 w' w.heap.size (fun k_ => some k_ ≠ (s_.2.1 : Value).ownBlock) s_.1 t498) ∧ (Kd.R (Kd.int .i64) 3 w' w.heap.size (fun k_ => some k_ ≠ (s_.1 : Value).ownBlock) s_.2.1 t501) ∧ (w'.heap[gb489]? = some (.cells #[.slice A0_0 l0_0.length c0_0, .slice A0_1 l0_1.length c0_1, .slice A0_2 l0_2.length c0_2] 39 (0, 0))) ∧ (w'.heap[gb490]? = some (.cells #[.slice A1_0 l1_0.length c1_0, .slice A1_1 l1_1.length c1_1, .slice A1_2 l1_2.length c1_2] 39 (0, 0))) ∧ (w'.heap[gb491]? = some (.cells #[.slice none 0 0, .slice none 0 0, .slice none 0 0] 39 (0, 0))) ∧ (w'.heap[s_.2.2]? = some (.cells #[.slice none 0 0, .slice none 0 0, .slice none 0 0] 39 (0, 0))) ∧ (w.heap.size ≤ s_.2.2) ∧ (w.heap.size ≤ s_.2.2) ∧ (gb489 ≠ s_.2.2) ∧ (s_.2.2 ≠ gb489) ∧ (gb490 ≠ s_.2.2) ∧ (s_.2.2 ≠ gb490) ∧ (gb491 ≠ s_.2.2) ∧ (s_.2.2 ≠ gb491) ∧ (Below w.heap.size w w')) ?_ ?_
       rotate_left
       ·intro hCont
        refine two_ (i := 4) (j := 11) (Ni := some 52) (Nj := some 6) #[true, true, true, true, true, true, true, true, true, false, false, false, false] #[true, true, true, true, false, true, true, true, true, false, false, true, false] rfl rfl rfl rfl (two_of HT_.out (by kernel_rfl)) (by decide) (by decide) (fun K hK => ?_) (fun K hK => ?_)
        ·skip
         refine goes_ Try.func44 (by kernel_rfl) rfl #[.slice A0_0 l0_0.length c0_0, .slice A1_0 l1_0.length c1_0] (by rfl) rfl rfl (by (try simp only [List.map_toArray, List.map_cons, List.map_nil]); first | done | rfl | (simp only [List.length_drop, List.length_take]; rfl)) ?_
         with_reducible refine (examboardref24_union.calls kj24 _ _ l0_0 _ _ l1_0 t498 _ ?side1 ?side2 ?side3 ?side4 A53.out).mono ?_
         (case side1 => repeat (first | exact (Kd.C_below HR0_0.out HB.out) | (with_reducible refine Kd.C_alloc ?_ _) | (with_reducible refine Kd.C_drewN ?_ _) | (with_reducible refine Kd.C_drew ?_)))
         (case side2 => exact HC0_0.out)
         (case side3 => repeat (first | exact (Kd.C_below HR1_0.out HB.out) | (with_reducible refine Kd.C_alloc ?_ _) | (with_reducible refine Kd.C_drewN ?_ _) | (with_reducible refine Kd.C_drew ?_)))
         (case side4 => exact HC1_0.out)
         rintro e w56 ⟨v499, rfl, ho0, hb⟩
         refine ⟨_, rfl, ?_⟩
         have n0_ := Am (Kd.R_lower ho0 (below_size (by repeat first | exact Bl HB | refine Bp (below_set ?_ GE489.out) | refine Bp (below_set ?_ GE490.out) | refine Bp (below_set ?_ GE491.out))))
         have n1_ := Am (blk_below (Kl BK489) hb)
         have n2_ := Am (blk_below (Kl BK490) hb)
         have n3_ := Am (blk_below (Kl BK491) hb)
         have n4_ := Am (below_step (by repeat first | exact Bl HB | refine Bp (below_set ?_ GE489.out) | refine Bp (below_set ?_ GE490.out) | refine Bp (below_set ?_ GE491.out)) hb)
         clear BK489 BK490 BK491 HB
         have HO500 := n0_
         have BK489 := n1_
         have BK490 := n2_
         have BK491 := n3_
         have HB := n4_
         clear n0_ n1_ n2_ n3_ n4_
         (try clear hb)
         (try clear hb2)
         (try clear hk)
         (try clear hi)
         (try clear ho0)
         refine hK.out _ _ ⟨(blk_cell BK489.out 0).trans rfl, (blk_cell BK489.out 1).trans rfl, (blk_cell BK489.out 2).trans rfl, (blk_cell BK490.out 0).trans rfl, (blk_cell BK490.out 1).trans rfl, (blk_cell BK490.out 2).trans rfl⟩ (fun hHeld => ?_)
         clear hK K
         refine norm_ (a' := ?_) ?_ ?_
         rotate_left
         ·show Act.put _ (some 52) _ = _
          simp only [Act.put, List.setIfInBounds_toArray, List.set_cons_zero, List.set_cons_succ, i64_w, i32_w]
          rfl
         refine two_ (i := 9) (j := 11) (Ni := some 57) (Nj := some 6) #[true, true, true, true, true, true, true, true, true, true, false, false, false] #[true, true, true, true, true, true, true, true, true, false, false, true, false] rfl rfl rfl rfl (two_of HT_.out (by kernel_rfl)) (by decide) (by decide) (fun K hK => ?_) (fun K hK => ?_)
         ·skip
          refine goes_ Try.func44 (by kernel_rfl) rfl #[.slice A0_1 l0_1.length c0_1, .slice A1_1 l1_1.length c1_1] (by rfl) rfl rfl (by (try simp only [List.map_toArray, List.map_cons, List.map_nil]); first | done | rfl | (simp only [List.length_drop, List.length_take]; rfl)) ?_
          with_reducible refine (examboardref24_union.calls kj24 _ _ l0_1 _ _ l1_1 t501 _ ?side1 ?side2 ?side3 ?side4 A54.out).mono ?_
          (case side1 => repeat (first | exact (Kd.C_below HR0_1.out HB.out) | (with_reducible refine Kd.C_alloc ?_ _) | (with_reducible refine Kd.C_drewN ?_ _) | (with_reducible refine Kd.C_drew ?_)))
          (case side2 => exact HC0_1.out)
          (case side3 => repeat (first | exact (Kd.C_below HR1_1.out HB.out) | (with_reducible refine Kd.C_alloc ?_ _) | (with_reducible refine Kd.C_drewN ?_ _) | (with_reducible refine Kd.C_drew ?_)))
          (case side4 => exact HC1_1.out)
          rintro e w57 ⟨v502, rfl, ho0, hb⟩
          refine ⟨_, rfl, ?_⟩
          have n0_ := Am (Kd.R_elder' (Rl HO500) (Kd.R_base ho0) hb)
          have n1_ := Am (Kd.R_lower (Kd.R_new' ho0 (Rb HO500)) (below_size (by repeat first | exact Bl HB | refine Bp (below_set ?_ GE489.out) | refine Bp (below_set ?_ GE490.out) | refine Bp (below_set ?_ GE491.out))))
          have n2_ := Am (blk_below (Kl BK489) hb)
          have n3_ := Am (blk_below (Kl BK490) hb)
          have n4_ := Am (blk_below (Kl BK491) hb)
          have n5_ := Am (below_step (by repeat first | exact Bl HB | refine Bp (below_set ?_ GE489.out) | refine Bp (below_set ?_ GE490.out) | refine Bp (below_set ?_ GE491.out)) hb)
          clear HO500 BK489 BK490 BK491 HB
          have HO500 := n0_
          have HO503 := n1_
          have BK489 := n2_
          have BK490 := n3_
          have BK491 := n4_
          have HB := n5_
          clear n0_ n1_ n2_ n3_ n4_ n5_
          (try clear hb)
          (try clear hb2)
          (try clear hk)
          (try clear hi)
          (try clear ho0)
          obtain ⟨Ao58, co58, eo58⟩ := Kd.R_slice HO503.out
          (first | subst eo58 | (injection eo58 with f1_ f2_ f3_; have f4_ := f1_.symm; have f5_ := f3_.symm; clear f1_ f2_ f3_; subst f4_; subst f5_))
          obtain ⟨Ao59, co59, eo59⟩ := Kd.R_slice HO500.out
          (first | subst eo59 | (injection eo59 with f1_ f2_ f3_; have f4_ := f1_.symm; have f5_ := f3_.symm; clear f1_ f2_ f3_; subst f4_; subst f5_))
          refine hK.out _ _ ⟨(blk_cell BK489.out 0).trans rfl, (blk_cell BK489.out 1).trans rfl, (blk_cell BK489.out 2).trans rfl, (blk_cell BK490.out 0).trans rfl, (blk_cell BK490.out 1).trans rfl, (blk_cell BK490.out 2).trans rfl⟩ (fun hHeld => ?_)
          clear hK K
          refine norm_ (a' := ?_) ?_ ?_
          rotate_left
          ·show Act.put _ (some 57) _ = _
           simp only [Act.put, List.setIfInBounds_toArray, List.set_cons_zero, List.set_cons_succ, i64_w, i32_w]
           rfl
          refine pure_ (i := 10) (N := some 58) (v := ?_) (a' := ?_) #[true, true, true, true, true, true, true, true, true, true, true, false, false] rfl rfl (any_of HT_.out (by kernel_rfl)) (fun _ _ _ h => h) (Or.inl ⟨by rfl, ?_⟩) ?_ ?_
          rotate_left
          ·intro w'
           go_simp
           with_reducible rfl
          rotate_left
          ·simp only [Act.put, List.setIfInBounds_toArray, List.set_cons_zero, List.set_cons_succ, i64_w, i32_w]
           rfl
          refine one_ (i := 11) (N := some 6) #[true, true, true, true, true, true, true, true, true, true, true, true, false] rfl rfl (one_of HT_.out (by kernel_rfl)) (by decide) (fun K hK => ?_)
          refine box_step ?hg (N := 6) ?hd (cs := #[.slice none 0 0, .slice none 0 0, .slice none 0 0]) (t := 39) ?hr ?_; (case hd => rfl); (case hg => rfl); (case hr => first | (go_simp; done) | (go_simp; rfl))
          intro gb504 hg w60 hbox hb
          have n0_ := Am (Kd.R_below (Rl HO500) hb)
          have n1_ := Am (Kd.R_below (Rl HO503) hb)
          have n2_ := Am (blk_below (Kl BK489) hb)
          have n3_ := Am (blk_below (Kl BK490) hb)
          have n4_ := Am (blk_below (Kl BK491) hb)
          have n5_ := Am (below_step (by repeat first | exact Bl HB | refine Bp (below_set ?_ GE489.out) | refine Bp (below_set ?_ GE490.out) | refine Bp (below_set ?_ GE491.out)) hb)
          have n6_ := Am (hbox)
          have n7_ := Am ((by rw [hg]; exact (below_size (by repeat first | exact Bl HB | refine Bp (below_set ?_ GE489.out) | refine Bp (below_set ?_ GE490.out) | refine Bp (below_set ?_ GE491.out))) : w.heap.size ≤ gb504))
          have n8_ := Am ((by rw [hg]; exact (below_size (by repeat first | exact Bl HB | refine Bp (below_set ?_ GE489.out) | refine Bp (below_set ?_ GE490.out) | refine Bp (below_set ?_ GE491.out))) : w.heap.size ≤ gb504))
          have n9_ := Am ((by rw [hg]; exact Nat.ne_of_lt (blk_lt (Kl BK489)) : gb489 ≠ gb504))
          have n10_ := Am ((by rw [hg]; exact Nat.ne_of_gt (blk_lt (Kl BK489)) : gb504 ≠ gb489))
          have n11_ := Am ((by rw [hg]; exact Nat.ne_of_lt (blk_lt (Kl BK490)) : gb490 ≠ gb504))
          have n12_ := Am ((by rw [hg]; exact Nat.ne_of_gt (blk_lt (Kl BK490)) : gb504 ≠ gb490))
          have n13_ := Am ((by rw [hg]; exact Nat.ne_of_lt (blk_lt (Kl BK491)) : gb491 ≠ gb504))
          have n14_ := Am ((by rw [hg]; exact Nat.ne_of_gt (blk_lt (Kl BK491)) : gb504 ≠ gb491))
          clear HO500 HO503 BK489 BK490 BK491 HB
          have HO500 := n0_
          have HO503 := n1_
          have BK489 := n2_
          have BK490 := n3_
          have BK491 := n4_
          have HB := n5_
          have BK504 := n6_
          have GW504 := n7_
          have GE504 := n8_
          have NB489_504 := n9_
          have NB504_489 := n10_
          have NB490_504 := n11_
          have NB504_490 := n12_
          have NB491_504 := n13_
          have NB504_491 := n14_
          clear n0_ n1_ n2_ n3_ n4_ n5_ n6_ n7_ n8_ n9_ n10_ n11_ n12_ n13_ n14_
          clear hb hbox hg
          refine hK.out _ _ ⟨(blk_cell BK489.out 0).trans rfl, (blk_cell BK489.out 1).trans rfl, (blk_cell BK489.out 2).trans rfl, (blk_cell BK490.out 0).trans rfl, (blk_cell BK490.out 1).trans rfl, (blk_cell BK490.out 2).trans rfl⟩ (fun hHeld => ?_)
          clear hK K
          refine norm_ (a' := ?_) ?_ ?_
          rotate_left
          ·show Act.put _ (some 6) _ = _
           simp only [Act.put, List.setIfInBounds_toArray, List.set_cons_zero, List.set_cons_succ, i64_w, i32_w]
           rfl
          exact norm_ (by simp only [putAll, Act.put, List.setIfInBounds_toArray, List.set_cons_zero, List.set_cons_succ]) (hCont (.slice Ao59 t498.length co59, .slice Ao58 t501.length co58, gb504) _ ⟨hHeld, (Rm (Kd.R_mono HO500.out (fun _ hk => hk.2))), (Rm (Kd.R_mono HO503.out (fun _ hk => hk.2))), (Kl BK489), (Kl BK490), (Kl BK491), (Kl BK504), GW504.out, GE504.out, NB489_504.out, NB504_489.out, NB490_504.out, NB504_490.out, NB491_504.out, NB504_491.out, (by repeat first | exact Bl HB | refine Bp (below_set ?_ GE489.out) | refine Bp (below_set ?_ GE490.out) | refine Bp (below_set ?_ GE491.out) | refine Bp (below_set ?_ GE504.out))⟩)
         ·skip
          refine box_step ?hg (N := 6) ?hd (cs := #[.slice none 0 0, .slice none 0 0, .slice none 0 0]) (t := 39) ?hr ?_; (case hd => rfl); (case hg => rfl); (case hr => first | (go_simp; done) | (go_simp; rfl))
          intro gb504 hg w57 hbox hb
          have n0_ := Am (Kd.R_below (Rl HO500) hb)
          have n1_ := Am (blk_below (Kl BK489) hb)
          have n2_ := Am (blk_below (Kl BK490) hb)
          have n3_ := Am (blk_below (Kl BK491) hb)
          have n4_ := Am (below_step (by repeat first | exact Bl HB | refine Bp (below_set ?_ GE489.out) | refine Bp (below_set ?_ GE490.out) | refine Bp (below_set ?_ GE491.out)) hb)
          have n5_ := Am (hbox)
          have n6_ := Am ((by rw [hg]; exact (below_size (by repeat first | exact Bl HB | refine Bp (below_set ?_ GE489.out) | refine Bp (below_set ?_ GE490.out) | refine Bp (below_set ?_ GE491.out))) : w.heap.size ≤ gb504))
          have n7_ := Am ((by rw [hg]; exact (below_size (by repeat first | exact Bl HB | refine Bp (below_set ?_ GE489.out) | refine Bp (below_set ?_ GE490.out) | refine Bp (below_set ?_ GE491.out))) : w.heap.size ≤ gb504))
          have n8_ := Am ((by rw [hg]; exact Nat.ne_of_lt (blk_lt (Kl BK489)) : gb489 ≠ gb504))
          have n9_ := Am ((by rw [hg]; exact Nat.ne_of_gt (blk_lt (Kl BK489)) : gb504 ≠ gb489))
          have n10_ := Am ((by rw [hg]; exact Nat.ne_of_lt (blk_lt (Kl BK490)) : gb490 ≠ gb504))
          have n11_ := Am ((by rw [hg]; exact Nat.ne_of_gt (blk_lt (Kl BK490)) : gb504 ≠ gb490))
          have n12_ := Am ((by rw [hg]; exact Nat.ne_of_lt (blk_lt (Kl BK491)) : gb491 ≠ gb504))
          have n13_ := Am ((by rw [hg]; exact Nat.ne_of_gt (blk_lt (Kl BK491)) : gb504 ≠ gb491))
          clear HO500 BK489 BK490 BK491 HB
          have HO500 := n0_
          have BK489 := n1_
          have BK490 := n2_
          have BK491 := n3_
          have HB := n4_
          have BK504 := n5_
          have GW504 := n6_
          have GE504 := n7_
          have NB489_504 := n8_
          have NB504_489 := n9_
          have NB490_504 := n10_
          have NB504_490 := n11_
          have NB491_504 := n12_
          have NB504_491 := n13_
          clear n0_ n1_ n2_ n3_ n4_ n5_ n6_ n7_ n8_ n9_ n10_ n11_ n12_ n13_
          clear hb hbox hg
          refine hK.out _ _ ⟨(blk_cell BK489.out 0).trans rfl, (blk_cell BK489.out 1).trans rfl, (blk_cell BK489.out 2).trans rfl, (blk_cell BK490.out 0).trans rfl, (blk_cell BK490.out 1).trans rfl, (blk_cell BK490.out 2).trans rfl⟩ (fun hHeld => ?_)
          clear hK K
          refine norm_ (a' := ?_) ?_ ?_
          rotate_left
          ·show Act.put _ (some 6) _ = _
           simp only [Act.put, List.setIfInBounds_toArray, List.set_cons_zero, List.set_cons_succ, i64_w, i32_w]
           rfl
          refine one_ (i := 9) (N := some 57) #[true, true, true, true, true, true, true, true, true, true, false, true, false] rfl rfl (one_of HT_.out (by kernel_rfl)) (by decide) (fun K hK => ?_)
          refine goes_ Try.func44 (by kernel_rfl) rfl #[.slice A0_1 l0_1.length c0_1, .slice A1_1 l1_1.length c1_1] (by rfl) rfl rfl (by (try simp only [List.map_toArray, List.map_cons, List.map_nil]); first | done | rfl | (simp only [List.length_drop, List.length_take]; rfl)) ?_
          with_reducible refine (examboardref24_union.calls kj24 _ _ l0_1 _ _ l1_1 t501 _ ?side1 ?side2 ?side3 ?side4 A54.out).mono ?_
          (case side1 => repeat (first | exact (Kd.C_below HR0_1.out HB.out) | (with_reducible refine Kd.C_alloc ?_ _) | (with_reducible refine Kd.C_drewN ?_ _) | (with_reducible refine Kd.C_drew ?_)))
          (case side2 => exact HC0_1.out)
          (case side3 => repeat (first | exact (Kd.C_below HR1_1.out HB.out) | (with_reducible refine Kd.C_alloc ?_ _) | (with_reducible refine Kd.C_drewN ?_ _) | (with_reducible refine Kd.C_drew ?_)))
          (case side4 => exact HC1_1.out)
          rintro e w58 ⟨v502, rfl, ho0, hb⟩
          refine ⟨_, rfl, ?_⟩
          have n0_ := Am (Kd.R_elder' (Rl HO500) (Kd.R_base ho0) hb)
          have n1_ := Am (Kd.R_lower (Kd.R_new' ho0 (Rb HO500)) (below_size (by repeat first | exact Bl HB | refine Bp (below_set ?_ GE489.out) | refine Bp (below_set ?_ GE490.out) | refine Bp (below_set ?_ GE491.out) | refine Bp (below_set ?_ GE504.out))))
          have n2_ := Am (blk_below (Kl BK489) hb)
          have n3_ := Am (blk_below (Kl BK490) hb)
          have n4_ := Am (blk_below (Kl BK491) hb)
          have n5_ := Am (blk_below (Kl BK504) hb)
          have n6_ := Am (below_step (by repeat first | exact Bl HB | refine Bp (below_set ?_ GE489.out) | refine Bp (below_set ?_ GE490.out) | refine Bp (below_set ?_ GE491.out) | refine Bp (below_set ?_ GE504.out)) hb)
          clear HO500 BK489 BK490 BK491 BK504 HB
          have HO500 := n0_
          have HO503 := n1_
          have BK489 := n2_
          have BK490 := n3_
          have BK491 := n4_
          have BK504 := n5_
          have HB := n6_
          clear n0_ n1_ n2_ n3_ n4_ n5_ n6_
          (try clear hb)
          (try clear hb2)
          (try clear hk)
          (try clear hi)
          (try clear ho0)
          obtain ⟨Ao59, co59, eo59⟩ := Kd.R_slice HO503.out
          (first | subst eo59 | (injection eo59 with f1_ f2_ f3_; have f4_ := f1_.symm; have f5_ := f3_.symm; clear f1_ f2_ f3_; subst f4_; subst f5_))
          obtain ⟨Ao60, co60, eo60⟩ := Kd.R_slice HO500.out
          (first | subst eo60 | (injection eo60 with f1_ f2_ f3_; have f4_ := f1_.symm; have f5_ := f3_.symm; clear f1_ f2_ f3_; subst f4_; subst f5_))
          refine hK.out _ _ ⟨(blk_cell BK489.out 0).trans rfl, (blk_cell BK489.out 1).trans rfl, (blk_cell BK489.out 2).trans rfl, (blk_cell BK490.out 0).trans rfl, (blk_cell BK490.out 1).trans rfl, (blk_cell BK490.out 2).trans rfl⟩ (fun hHeld => ?_)
          clear hK K
          refine norm_ (a' := ?_) ?_ ?_
          rotate_left
          ·show Act.put _ (some 57) _ = _
           simp only [Act.put, List.setIfInBounds_toArray, List.set_cons_zero, List.set_cons_succ, i64_w, i32_w]
           rfl
          refine pure_ (i := 10) (N := some 58) (v := ?_) (a' := ?_) #[true, true, true, true, true, true, true, true, true, true, true, true, false] rfl rfl (any_of HT_.out (by kernel_rfl)) (fun _ _ _ h => h) (Or.inl ⟨by rfl, ?_⟩) ?_ ?_
          rotate_left
          ·intro w'
           go_simp
           with_reducible rfl
          rotate_left
          ·simp only [Act.put, List.setIfInBounds_toArray, List.set_cons_zero, List.set_cons_succ, i64_w, i32_w]
           rfl
          exact norm_ (by simp only [putAll, Act.put, List.setIfInBounds_toArray, List.set_cons_zero, List.set_cons_succ]) (hCont (.slice Ao60 t498.length co60, .slice Ao59 t501.length co59, gb504) _ ⟨hHeld, (Rm (Kd.R_mono HO500.out (fun _ hk => hk.2))), (Rm (Kd.R_mono HO503.out (fun _ hk => hk.2))), (Kl BK489), (Kl BK490), (Kl BK491), (Kl BK504), GW504.out, GE504.out, NB489_504.out, NB504_489.out, NB490_504.out, NB504_490.out, NB491_504.out, NB504_491.out, (by repeat first | exact Bl HB | refine Bp (below_set ?_ GE489.out) | refine Bp (below_set ?_ GE490.out) | refine Bp (below_set ?_ GE491.out) | refine Bp (below_set ?_ GE504.out))⟩)
        ·skip
         refine box_step ?hg (N := 6) ?hd (cs := #[.slice none 0 0, .slice none 0 0, .slice none 0 0]) (t := 39) ?hr ?_; (case hd => rfl); (case hg => rfl); (case hr => first | (go_simp; done) | (go_simp; rfl))
         intro gb504 hg w56 hbox hb
         have n0_ := Am (blk_below (Kl BK489) hb)
         have n1_ := Am (blk_below (Kl BK490) hb)
         have n2_ := Am (blk_below (Kl BK491) hb)
         have n3_ := Am (below_step (by repeat first | exact Bl HB | refine Bp (below_set ?_ GE489.out) | refine Bp (below_set ?_ GE490.out) | refine Bp (below_set ?_ GE491.out)) hb)
         have n4_ := Am (hbox)
         have n5_ := Am ((by rw [hg]; exact (below_size (by repeat first | exact Bl HB | refine Bp (below_set ?_ GE489.out) | refine Bp (below_set ?_ GE490.out) | refine Bp (below_set ?_ GE491.out))) : w.heap.size ≤ gb504))
         have n6_ := Am ((by rw [hg]; exact (below_size (by repeat first | exact Bl HB | refine Bp (below_set ?_ GE489.out) | refine Bp (below_set ?_ GE490.out) | refine Bp (below_set ?_ GE491.out))) : w.heap.size ≤ gb504))
         have n7_ := Am ((by rw [hg]; exact Nat.ne_of_lt (blk_lt (Kl BK489)) : gb489 ≠ gb504))
         have n8_ := Am ((by rw [hg]; exact Nat.ne_of_gt (blk_lt (Kl BK489)) : gb504 ≠ gb489))
         have n9_ := Am ((by rw [hg]; exact Nat.ne_of_lt (blk_lt (Kl BK490)) : gb490 ≠ gb504))
         have n10_ := Am ((by rw [hg]; exact Nat.ne_of_gt (blk_lt (Kl BK490)) : gb504 ≠ gb490))
         have n11_ := Am ((by rw [hg]; exact Nat.ne_of_lt (blk_lt (Kl BK491)) : gb491 ≠ gb504))
         have n12_ := Am ((by rw [hg]; exact Nat.ne_of_gt (blk_lt (Kl BK491)) : gb504 ≠ gb491))
         clear BK489 BK490 BK491 HB
         have BK489 := n0_
         have BK490 := n1_
         have BK491 := n2_
         have HB := n3_
         have BK504 := n4_
         have GW504 := n5_
         have GE504 := n6_
         have NB489_504 := n7_
         have NB504_489 := n8_
         have NB490_504 := n9_
         have NB504_490 := n10_
         have NB491_504 := n11_
         have NB504_491 := n12_
         clear n0_ n1_ n2_ n3_ n4_ n5_ n6_ n7_ n8_ n9_ n10_ n11_ n12_
         clear hb hbox hg
         refine hK.out _ _ ⟨(blk_cell BK489.out 0).trans rfl, (blk_cell BK489.out 1).trans rfl, (blk_cell BK489.out 2).trans rfl, (blk_cell BK490.out 0).trans rfl, (blk_cell BK490.out 1).trans rfl, (blk_cell BK490.out 2).trans rfl⟩ (fun hHeld => ?_)
         clear hK K
         refine norm_ (a' := ?_) ?_ ?_
         rotate_left
         ·show Act.put _ (some 6) _ = _
          simp only [Act.put, List.setIfInBounds_toArray, List.set_cons_zero, List.set_cons_succ, i64_w, i32_w]
          rfl
         refine one_ (i := 4) (N := some 52) #[true, true, true, true, true, true, true, true, true, false, false, true, false] rfl rfl (one_of HT_.out (by kernel_rfl)) (by decide) (fun K hK => ?_)
         refine goes_ Try.func44 (by kernel_rfl) rfl #[.slice A0_0 l0_0.length c0_0, .slice A1_0 l1_0.length c1_0] (by rfl) rfl rfl (by (try simp only [List.map_toArray, List.map_cons, List.map_nil]); first | done | rfl | (simp only [List.length_drop, List.length_take]; rfl)) ?_
         with_reducible refine (examboardref24_union.calls kj24 _ _ l0_0 _ _ l1_0 t498 _ ?side1 ?side2 ?side3 ?side4 A53.out).mono ?_
         (case side1 => repeat (first | exact (Kd.C_below HR0_0.out HB.out) | (with_reducible refine Kd.C_alloc ?_ _) | (with_reducible refine Kd.C_drewN ?_ _) | (with_reducible refine Kd.C_drew ?_)))
         (case side2 => exact HC0_0.out)
         (case side3 => repeat (first | exact (Kd.C_below HR1_0.out HB.out) | (with_reducible refine Kd.C_alloc ?_ _) | (with_reducible refine Kd.C_drewN ?_ _) | (with_reducible refine Kd.C_drew ?_)))
         (case side4 => exact HC1_0.out)
         rintro e w57 ⟨v499, rfl, ho0, hb⟩
         refine ⟨_, rfl, ?_⟩
         have n0_ := Am (Kd.R_lower ho0 (below_size (by repeat first | exact Bl HB | refine Bp (below_set ?_ GE489.out) | refine Bp (below_set ?_ GE490.out) | refine Bp (below_set ?_ GE491.out) | refine Bp (below_set ?_ GE504.out))))
         have n1_ := Am (blk_below (Kl BK489) hb)
         have n2_ := Am (blk_below (Kl BK490) hb)
         have n3_ := Am (blk_below (Kl BK491) hb)
         have n4_ := Am (blk_below (Kl BK504) hb)
         have n5_ := Am (below_step (by repeat first | exact Bl HB | refine Bp (below_set ?_ GE489.out) | refine Bp (below_set ?_ GE490.out) | refine Bp (below_set ?_ GE491.out) | refine Bp (below_set ?_ GE504.out)) hb)
         clear BK489 BK490 BK491 BK504 HB
         have HO500 := n0_
         have BK489 := n1_
         have BK490 := n2_
         have BK491 := n3_
         have BK504 := n4_
         have HB := n5_
         clear n0_ n1_ n2_ n3_ n4_ n5_
         (try clear hb)
         (try clear hb2)
         (try clear hk)
         (try clear hi)
         (try clear ho0)
         refine hK.out _ _ ⟨(blk_cell BK489.out 0).trans rfl, (blk_cell BK489.out 1).trans rfl, (blk_cell BK489.out 2).trans rfl, (blk_cell BK490.out 0).trans rfl, (blk_cell BK490.out 1).trans rfl, (blk_cell BK490.out 2).trans rfl⟩ (fun hHeld => ?_)
         clear hK K
         refine norm_ (a' := ?_) ?_ ?_
         rotate_left
         ·show Act.put _ (some 52) _ = _
          simp only [Act.put, List.setIfInBounds_toArray, List.set_cons_zero, List.set_cons_succ, i64_w, i32_w]
          rfl
         refine one_ (i := 9) (N := some 57) #[true, true, true, true, true, true, true, true, true, true, false, true, false] rfl rfl (one_of HT_.out (by kernel_rfl)) (by decide) (fun K hK => ?_)
         refine goes_ Try.func44 (by kernel_rfl) rfl #[.slice A0_1 l0_1.length c0_1, .slice A1_1 l1_1.length c1_1] (by rfl) rfl rfl (by (try simp only [List.map_toArray, List.map_cons, List.map_nil]); first | done | rfl | (simp only [List.length_drop, List.length_take]; rfl)) ?_
         with_reducible refine (examboardref24_union.calls kj24 _ _ l0_1 _ _ l1_1 t501 _ ?side1 ?side2 ?side3 ?side4 A54.out).mono ?_
         (case side1 => repeat (first | exact (Kd.C_below HR0_1.out HB.out) | (with_reducible refine Kd.C_alloc ?_ _) | (with_reducible refine Kd.C_drewN ?_ _) | (with_reducible refine Kd.C_drew ?_)))
         (case side2 => exact HC0_1.out)
         (case side3 => repeat (first | exact (Kd.C_below HR1_1.out HB.out) | (with_reducible refine Kd.C_alloc ?_ _) | (with_reducible refine Kd.C_drewN ?_ _) | (with_reducible refine Kd.C_drew ?_)))
         (case side4 => exact HC1_1.out)
         rintro e w58 ⟨v502, rfl, ho0, hb⟩
         refine ⟨_, rfl, ?_⟩
         have n0_ := Am (Kd.R_elder' (Rl HO500) (Kd.R_base ho0) hb)
         have n1_ := Am (Kd.R_lower (Kd.R_new' ho0 (Rb HO500)) (below_size (by repeat first | exact Bl HB | refine Bp (below_set ?_ GE489.out) | refine Bp (below_set ?_ GE490.out) | refine Bp (below_set ?_ GE491.out) | refine Bp (below_set ?_ GE504.out))))
         have n2_ := Am (blk_below (Kl BK489) hb)
         have n3_ := Am (blk_below (Kl BK490) hb)
         have n4_ := Am (blk_below (Kl BK491) hb)
         have n5_ := Am (blk_below (Kl BK504) hb)
         have n6_ := Am (below_step (by repeat first | exact Bl HB | refine Bp (below_set ?_ GE489.out) | refine Bp (below_set ?_ GE490.out) | refine Bp (below_set ?_ GE491.out) | refine Bp (below_set ?_ GE504.out)) hb)
         clear HO500 BK489 BK490 BK491 BK504 HB
         have HO500 := n0_
         have HO503 := n1_
         have BK489 := n2_
         have BK490 := n3_
         have BK491 := n4_
         have BK504 := n5_
         have HB := n6_
         clear n0_ n1_ n2_ n3_ n4_ n5_ n6_
         (try clear hb)
         (try clear hb2)
         (try clear hk)
         (try clear hi)
         (try clear ho0)
         obtain ⟨Ao59, co59, eo59⟩ := Kd.R_slice HO503.out
         (first | subst eo59 | (injection eo59 with f1_ f2_ f3_; have f4_ := f1_.symm; have f5_ := f3_.symm; clear f1_ f2_ f3_; subst f4_; subst f5_))
         obtain ⟨Ao60, co60, eo60⟩ := Kd.R_slice HO500.out
         (first | subst eo60 | (injection eo60 with f1_ f2_ f3_; have f4_ := f1_.symm; have f5_ := f3_.symm; clear f1_ f2_ f3_; subst f4_; subst f5_))
         refine hK.out _ _ ⟨(blk_cell BK489.out 0).trans rfl, (blk_cell BK489.out 1).trans rfl, (blk_cell BK489.out 2).trans rfl, (blk_cell BK490.out 0).trans rfl, (blk_cell BK490.out 1).trans rfl, (blk_cell BK490.out 2).trans rfl⟩ (fun hHeld => ?_)
         clear hK K
         refine norm_ (a' := ?_) ?_ ?_
         rotate_left
         ·show Act.put _ (some 57) _ = _
          simp only [Act.put, List.setIfInBounds_toArray, List.set_cons_zero, List.set_cons_succ, i64_w, i32_w]
          rfl
         refine pure_ (i := 10) (N := some 58) (v := ?_) (a' := ?_) #[true, true, true, true, true, true, true, true, true, true, true, true, false] rfl rfl (any_of HT_.out (by kernel_rfl)) (fun _ _ _ h => h) (Or.inl ⟨by rfl, ?_⟩) ?_ ?_
         rotate_left
         ·intro w'
          go_simp
          with_reducible rfl
         rotate_left
         ·simp only [Act.put, List.setIfInBounds_toArray, List.set_cons_zero, List.set_cons_succ, i64_w, i32_w]
          rfl
         exact norm_ (by simp only [putAll, Act.put, List.setIfInBounds_toArray, List.set_cons_zero, List.set_cons_succ]) (hCont (.slice Ao60 t498.length co60, .slice Ao59 t501.length co59, gb504) _ ⟨hHeld, (Rm (Kd.R_mono HO500.out (fun _ hk => hk.2))), (Rm (Kd.R_mono HO503.out (fun _ hk => hk.2))), (Kl BK489), (Kl BK490), (Kl BK491), (Kl BK504), GW504.out, GE504.out, NB489_504.out, NB504_489.out, NB490_504.out, NB504_490.out, NB491_504.out, NB504_491.out, (by repeat first | exact Bl HB | refine Bp (below_set ?_ GE489.out) | refine Bp (below_set ?_ GE490.out) | refine Bp (below_set ?_ GE491.out) | refine Bp (below_set ?_ GE504.out))⟩)
       rintro ⟨v499, v502, gb504⟩ w61 ⟨hS_, h0_, h1_, h2_, h3_, h4_, h5_, h6_, h7_, h8_, h9_, h10_, h11_, h12_, h13_, h14_⟩
       have n0_ : Aside0 (Kd.R (Kd.int .i64) 3 w61 w.heap.size (fun k_ => some k_ ≠ (v502 : Value).ownBlock) v499 t498) := ⟨h0_⟩
       have n1_ : Aside0 (Kd.R (Kd.int .i64) 3 w61 w.heap.size (fun k_ => some k_ ≠ (v499 : Value).ownBlock) v502 t501) := ⟨h1_⟩
       have n2_ : Aside0 (w61.heap[gb489]? = some (.cells #[.slice A0_0 l0_0.length c0_0, .slice A0_1 l0_1.length c0_1, .slice A0_2 l0_2.length c0_2] 39 (0, 0))) := ⟨h2_⟩
       have n3_ : Aside0 (w61.heap[gb490]? = some (.cells #[.slice A1_0 l1_0.length c1_0, .slice A1_1 l1_1.length c1_1, .slice A1_2 l1_2.length c1_2] 39 (0, 0))) := ⟨h3_⟩
       have n4_ : Aside0 (w61.heap[gb491]? = some (.cells #[.slice none 0 0, .slice none 0 0, .slice none 0 0] 39 (0, 0))) := ⟨h4_⟩
       have n5_ : Aside0 (w61.heap[gb504]? = some (.cells #[.slice none 0 0, .slice none 0 0, .slice none 0 0] 39 (0, 0))) := ⟨h5_⟩
       have n6_ : Aside0 (w.heap.size ≤ gb504) := ⟨h6_⟩
       have n7_ : Aside0 (w.heap.size ≤ gb504) := ⟨h7_⟩
       have n8_ : Aside0 (gb489 ≠ gb504) := ⟨h8_⟩
       have n9_ : Aside0 (gb504 ≠ gb489) := ⟨h9_⟩
       have n10_ : Aside0 (gb490 ≠ gb504) := ⟨h10_⟩
       have n11_ : Aside0 (gb504 ≠ gb490) := ⟨h11_⟩
       have n12_ : Aside0 (gb491 ≠ gb504) := ⟨h12_⟩
       have n13_ : Aside0 (gb504 ≠ gb491) := ⟨h13_⟩
       have n14_ : Aside0 (Below w.heap.size w w61) := ⟨h14_⟩
       clear BK489 BK490 BK491 HB
       clear h0_ h1_ h2_ h3_ h4_ h5_ h6_ h7_ h8_ h9_ h10_ h11_ h12_ h13_ h14_
       have HO500 := n0_
       have HO503 := n1_
       have BK489 := n2_
       have BK490 := n3_
       have BK491 := n4_
       have BK504 := n5_
       have GW504 := n6_
       have GE504 := n7_
       have NB489_504 := n8_
       have NB504_489 := n9_
       have NB490_504 := n10_
       have NB504_490 := n11_
       have NB491_504 := n12_
       have NB504_491 := n13_
       have HB := n14_
       clear n0_ n1_ n2_ n3_ n4_ n5_ n6_ n7_ n8_ n9_ n10_ n11_ n12_ n13_ n14_
       have hHeld : w61.cell? ⟨gb489, 0, none⟩ = some (.slice A0_0 l0_0.length c0_0) ∧ w61.cell? ⟨gb489, 1, none⟩ = some (.slice A0_1 l0_1.length c0_1) ∧ w61.cell? ⟨gb489, 2, none⟩ = some (.slice A0_2 l0_2.length c0_2) ∧ w61.cell? ⟨gb490, 0, none⟩ = some (.slice A1_0 l1_0.length c1_0) ∧ w61.cell? ⟨gb490, 1, none⟩ = some (.slice A1_1 l1_1.length c1_1) ∧ w61.cell? ⟨gb490, 2, none⟩ = some (.slice A1_2 l1_2.length c1_2) := hS_
       obtain ⟨Ao62, co62, eo62⟩ := Kd.R_slice HO503.out
       (first | subst eo62 | (injection eo62 with f1_ f2_ f3_; have f4_ := f1_.symm; have f5_ := f3_.symm; clear f1_ f2_ f3_; subst f4_; subst f5_))
       obtain ⟨Ao63, co63, eo63⟩ := Kd.R_slice HO500.out
       (first | subst eo63 | (injection eo63 with f1_ f2_ f3_; have f4_ := f1_.symm; have f5_ := f3_.symm; clear f1_ f2_ f3_; subst f4_; subst f5_))
       refine norm_ (a' := ?_) ?_ ?_
       rotate_left
       ·simp only [putAll, Act.put, List.setIfInBounds_toArray, List.set_cons_zero, List.set_cons_succ]
        rfl
       refine one_ (i := 12) (N := none) #[true, true, true, true, true, true, true, true, true, true, true, true, true] rfl rfl (one_of HT_.out (by kernel_rfl)) (by decide) (fun K hK => ?_)
       have hs64 : w61.cell? ⟨gb504, 0, none⟩ = some (.slice none 0 0) := (blk_cell BK504.out 0).trans rfl
       have hfs64 := blk_frozen BK504.out 0
       have hns64_0 := NB489_504.out
       have hns64_1 := NB490_504.out
       have hns64_2 := NB491_504.out
       have hms64_0 := NB504_489.out
       have hms64_1 := NB504_490.out
       have hms64_2 := NB504_491.out
       have hs65 : w61.cell? ⟨gb504, 1, none⟩ = some (.slice none 0 0) := (blk_cell BK504.out 1).trans rfl
       have hfs65 := blk_frozen BK504.out 1
       have hns65_0 := NB489_504.out
       have hns65_1 := NB490_504.out
       have hns65_2 := NB491_504.out
       have hms65_0 := NB504_489.out
       have hms65_1 := NB504_490.out
       have hms65_2 := NB504_491.out
       have hs66 : w61.cell? ⟨gb504, 2, none⟩ = some (.slice none 0 0) := (blk_cell BK504.out 2).trans rfl
       have hfs66 := blk_frozen BK504.out 2
       have hns66_0 := NB489_504.out
       have hns66_1 := NB490_504.out
       have hns66_2 := NB491_504.out
       have hms66_0 := NB504_489.out
       have hms66_1 := NB504_490.out
       have hms66_2 := NB504_491.out
       refine skip_ (w1 := ?_) (by rfl) rfl ?_ ?_
       rotate_left
       ·go_simp
        rfl
       refine hK.out _ _ ⟨((cell_far (p := ⟨gb504, _, none⟩) NB489_504.out _).trans (((cell_far (p := ⟨gb504, _, none⟩) NB489_504.out _).trans (((cell_far (p := ⟨gb504, _, none⟩) NB489_504.out _).trans (hHeld.1)))))), ((cell_far (p := ⟨gb504, _, none⟩) NB489_504.out _).trans (((cell_far (p := ⟨gb504, _, none⟩) NB489_504.out _).trans (((cell_far (p := ⟨gb504, _, none⟩) NB489_504.out _).trans (hHeld.2.1)))))), ((cell_far (p := ⟨gb504, _, none⟩) NB489_504.out _).trans (((cell_far (p := ⟨gb504, _, none⟩) NB489_504.out _).trans (((cell_far (p := ⟨gb504, _, none⟩) NB489_504.out _).trans (hHeld.2.2.1)))))), ((cell_far (p := ⟨gb504, _, none⟩) NB490_504.out _).trans (((cell_far (p := ⟨gb504, _, none⟩) NB490_504.out _).trans (((cell_far (p := ⟨gb504, _, none⟩) NB490_504.out _).trans (hHeld.2.2.2.1)))))), ((cell_far (p := ⟨gb504, _, none⟩) NB490_504.out _).trans (((cell_far (p := ⟨gb504, _, none⟩) NB490_504.out _).trans (((cell_far (p := ⟨gb504, _, none⟩) NB490_504.out _).trans (hHeld.2.2.2.2.1)))))), ((cell_far (p := ⟨gb504, _, none⟩) NB490_504.out _).trans (((cell_far (p := ⟨gb504, _, none⟩) NB490_504.out _).trans (((cell_far (p := ⟨gb504, _, none⟩) NB490_504.out _).trans (hHeld.2.2.2.2.2))))))⟩ (fun hHeld => ?_)
       clear hK K
       refine done_ (done_of HT_.out (by kernel_rfl)) ?_
       have hnb67 := NB504_489.out
       have hnc67 := NB489_504.out
       have hnb68 := NB504_490.out
       have hnc68 := NB490_504.out
       have hnb69 := NB504_491.out
       have hnc69 := NB491_504.out
       have hcz70_0 : w61.cell? ⟨gb504, 0, none⟩ = some (.slice none 0 0) := (blk_cell BK504.out 0).trans rfl
       have hcz70_1 : w61.cell? ⟨gb504, 1, none⟩ = some (.slice none 0 0) := (blk_cell BK504.out 1).trans rfl
       have hcz70_2 : w61.cell? ⟨gb504, 2, none⟩ = some (.slice none 0 0) := (blk_cell BK504.out 2).trans rfl
       have hfz70_0 := blk_frozen BK504.out 0
       have hfz70_1 := blk_frozen BK504.out 1
       have hfz70_2 := blk_frozen BK504.out 2
       try go_wp2
       go_loopg [62] kj24 (fun kq v62 w' => ∃ (x62_3 : Int) (x505002_3 : List (List Int)) (u505002 : Value), v62 = .int .i64 x62_3 ∧ Aside0 (examboardref24_Merge.l0 kq t498 t501 (t498.length : Int) x62_3 l0_0 l0_1 l0_2 l1_0 l1_1 l1_2 x505002_3 = some (r1, r2, r3, r4)) ∧ Aside0 (kq ≤ kj24) ∧ Aside0 (Kd.R (Kd.int .i64) 3 w' w.heap.size (fun k_ => some k_ ≠ ((.slice Ao62 t501.length co62) : Value).ownBlock) (.slice Ao63 t498.length co63) t498) ∧ Aside0 (Kd.R (Kd.int .i64) 3 w' w.heap.size (fun k_ => some k_ ≠ ((.slice Ao63 t498.length co63) : Value).ownBlock) (.slice Ao62 t501.length co62) t501) ∧ Aside0 (Kd.S (Kd.slice 3 (Kd.int .i64)) 36 w' w.heap.size (fun k_ => some k_ ≠ ((.slice Ao63 t498.length co63) : Value).ownBlock ∧ some k_ ≠ ((.slice Ao62 t501.length co62) : Value).ownBlock) u505002 x505002_3) ∧ Aside0 (w'.heap[gb489]? = some (.cells #[(.slice A0_0 l0_0.length c0_0), (.slice A0_1 l0_1.length c0_1), (.slice A0_2 l0_2.length c0_2)] 39 (0, 0))) ∧ Aside0 (w'.heap[gb490]? = some (.cells #[(.slice A1_0 l1_0.length c1_0), (.slice A1_1 l1_1.length c1_1), (.slice A1_2 l1_2.length c1_2)] 39 (0, 0))) ∧ Aside0 (w'.heap[gb491]? = some (.cells #[(.slice none 0 0), (.slice none 0 0), (.slice none 0 0)] 39 (0, 0))) ∧ Aside0 (w'.heap[gb504]? = some (.cells #[(.slice Ao63 t498.length co63), (.slice Ao62 t501.length co62), u505002] 39 (0, 0))) ∧ Aside0 (Below w.heap.size w w'))
       case atStart => exact ⟨(0), (([] : List (List Int))), (.slice none 0 0), (by first | rfl | (simp; done) | (simp [*]; done)), H', ⟨Nat.le_refl _⟩, ⟨Rm (Kd.R_mono (Kd.R_far (p := ⟨gb504, 2, none⟩) (Kd.R_far (p := ⟨gb504, 1, none⟩) (Kd.R_far (p := ⟨gb504, 0, none⟩) (Kd.R_types HO500.out BK504.out (by decide)) (fun _ hk => hk.2) (.slice Ao63 t498.length co63)) (fun _ hk => hk.2) (.slice Ao62 t501.length co62)) (fun _ hk => hk.2) (.slice none 0 0)) (fun _ hk => hk.1))⟩, ⟨Rm (Kd.R_mono (Kd.R_far (p := ⟨gb504, 2, none⟩) (Kd.R_far (p := ⟨gb504, 1, none⟩) (Kd.R_far (p := ⟨gb504, 0, none⟩) (Kd.R_types HO503.out BK504.out (by decide)) (fun _ hk => hk.2) (.slice Ao63 t498.length co63)) (fun _ hk => hk.2) (.slice Ao62 t501.length co62)) (fun _ hk => hk.2) (.slice none 0 0)) (fun _ hk => hk.1))⟩, ⟨by first | exact Kd.S_nil _ _ _ _ _ | exact Kd.N_nil _ _ _ _ _ | exact Kd.V_nil _ _ _ _ _ | exact Kd.Q_nil _ _ _ _ _ | exact Kd.R_nil _ _ _ _ _⟩, ⟨by refine Kp ?_; refine blk_far ?_ NB489_504.out _; refine Kp ?_; refine blk_far ?_ NB489_504.out _; refine Kp ?_; refine blk_far ?_ NB489_504.out _; refine Kp ?_; exact BK489.out⟩, ⟨by refine Kp ?_; refine blk_far ?_ NB490_504.out _; refine Kp ?_; refine blk_far ?_ NB490_504.out _; refine Kp ?_; refine blk_far ?_ NB490_504.out _; refine Kp ?_; exact BK490.out⟩, ⟨by refine Kp ?_; refine blk_far ?_ NB491_504.out _; refine Kp ?_; refine blk_far ?_ NB491_504.out _; refine Kp ?_; refine blk_far ?_ NB491_504.out _; refine Kp ?_; exact BK491.out⟩, ⟨by refine Kp ?_; refine blk_put (cs := #[.slice Ao63 t498.length co63, .slice Ao62 t501.length co62, .slice none 0 0]) ?_ 2 _ rfl; refine Kp ?_; refine blk_put (cs := #[.slice Ao63 t498.length co63, .slice none 0 0, .slice none 0 0]) ?_ 1 _ rfl; refine Kp ?_; refine blk_put (cs := #[.slice none 0 0, .slice none 0 0, .slice none 0 0]) ?_ 0 _ rfl; refine Kp ?_; exact BK504.out⟩, ⟨by repeat first | exact Bl HB | refine Bp (below_set ?_ GE489.out) | refine Bp (below_set ?_ GE490.out) | refine Bp (below_set ?_ GE491.out) | refine Bp (below_set ?_ GE504.out)⟩⟩
       case round =>
        clear H'
        try clear c1
        try clear p2
        try clear c4
        try clear c5
        try clear c6
        try clear c44
        try clear c49
        try clear c50
        try clear c51
        try clear c67
        try clear c68
        try clear c69
        try clear hcz52_0
        try clear hcz52_1
        try clear hcz52_2
        try clear hcz70_0
        try clear hcz70_1
        try clear hcz70_2
        try clear hfz48_2
        try clear hfz52_0
        try clear hfz52_1
        try clear hfz52_2
        try clear hfz70_0
        try clear hfz70_1
        try clear hfz70_2
        try clear p2
        obtain ⟨x62_3, x505002_3, u505002, rfl, HA, HK3, HO_52, HO_57, HO_505002, BK489, BK490, BK491, BK504, HB⟩ := hrel
        cases gk with
        | zero => exact absurd HA.out (by simp [examboardref24_Merge.l0])
        | succ k3 =>
         have H := HA.out
         clear HA
         simp only [examboardref24_Merge.l0] at H
         by_cases c71 : x62_3 < (t498.length : Int)
         ·rw [if_pos c71] at H
          have c71b0 : decide (x62_3 < (t498.length : Int)) = true := decide_eq_true c71
          clear c71
          by_cases c72 : 0 ≤ x62_3
          ·rw [if_pos c72] at H
           have c72b0 : decide (0 ≤ x62_3) = true := decide_eq_true c72
           clear c72
           by_cases c73 : x62_3 < (t498.length : Int)
           ·rw [if_pos c73] at H
            have c73b0 : decide (x62_3 < (t498.length : Int)) = true := decide_eq_true c73
            clear c73
            have H' := Am H
            clear H
            have p505 : 0 ≤ (x62_3 : Int) := of_decide_eq_true (by first | (with_reducible assumption) | assumption)
            have q505 : x62_3 < (t498.length : Int) := of_decide_eq_true (by first | (with_reducible assumption) | assumption)
            obtain ⟨ad505, e505, hx505_0⟩ := Kd.at_int (Kd.R_reads' HO_52.out).2.2 x62_3 p505 q505
            cases e505
            replace p505 := eq_true p505
            replace q505 := eq_true q505
            have hnb74 := NB504_489.out
            have hnc74 := NB489_504.out
            have hnb75 := NB504_490.out
            have hnc75 := NB490_504.out
            have hnb76 := NB504_491.out
            have hnc76 := NB491_504.out
            have hcz77_0 : wr.cell? ⟨gb504, 0, none⟩ = some (.slice (some ad505) t498.length co63) := (blk_cell BK504.out 0).trans rfl
            have hcz77_1 : wr.cell? ⟨gb504, 1, none⟩ = some (.slice Ao62 t501.length co62) := (blk_cell BK504.out 1).trans rfl
            have hcz77_2 : wr.cell? ⟨gb504, 2, none⟩ = some (u505002) := (blk_cell BK504.out 2).trans rfl
            have hfz77_0 := blk_frozen BK504.out 0
            have hfz77_1 := blk_frozen BK504.out 1
            have hfz77_2 := blk_frozen BK504.out 2
            go_wp2
            go_loopg [9, 69] k3 (fun kq v9 v69 w' => ∃ (x9_4 : List Int) (x69_4 : Int), v69 = .int .i64 x69_4 ∧ Aside0 (examboardref24_Merge.l1 kq (rd t498 x62_3) x9_4 t498 t501 (t498.length : Int) x62_3 (t501.length : Int) x69_4 l0_0 l0_1 l0_2 l1_0 l1_1 l1_2 x505002_3 = some (r1, r2, r3, r4)) ∧ Aside0 (kq ≤ k3) ∧ Aside0 (Kd.R (Kd.int .i64) 3 w' w.heap.size (fun k_ => some k_ ≠ ((.slice (some ad505) t498.length co63) : Value).ownBlock ∧ some k_ ≠ ((.slice Ao62 t501.length co62) : Value).ownBlock) v9 x9_4) ∧ Aside0 (Kd.R (Kd.int .i64) 3 w' w.heap.size (fun k_ => some k_ ≠ (v9 : Value).ownBlock ∧ some k_ ≠ ((.slice Ao62 t501.length co62) : Value).ownBlock) (.slice (some ad505) t498.length co63) t498) ∧ Aside0 (Kd.R (Kd.int .i64) 3 w' w.heap.size (fun k_ => some k_ ≠ (v9 : Value).ownBlock ∧ some k_ ≠ ((.slice (some ad505) t498.length co63) : Value).ownBlock) (.slice Ao62 t501.length co62) t501) ∧ Aside0 (Kd.S (Kd.slice 3 (Kd.int .i64)) 36 w' w.heap.size (fun k_ => some k_ ≠ (v9 : Value).ownBlock ∧ some k_ ≠ ((.slice (some ad505) t498.length co63) : Value).ownBlock ∧ some k_ ≠ ((.slice Ao62 t501.length co62) : Value).ownBlock) u505002 x505002_3) ∧ Aside0 (w'.heap[gb489]? = some (.cells #[(.slice A0_0 l0_0.length c0_0), (.slice A0_1 l0_1.length c0_1), (.slice A0_2 l0_2.length c0_2)] 39 (0, 0))) ∧ Aside0 (w'.heap[gb490]? = some (.cells #[(.slice A1_0 l1_0.length c1_0), (.slice A1_1 l1_1.length c1_1), (.slice A1_2 l1_2.length c1_2)] 39 (0, 0))) ∧ Aside0 (w'.heap[gb491]? = some (.cells #[(.slice none 0 0), (.slice none 0 0), (.slice none 0 0)] 39 (0, 0))) ∧ Aside0 (w'.heap[gb504]? = some (.cells #[(.slice (some ad505) t498.length co63), (.slice Ao62 t501.length co62), u505002] 39 (0, 0))) ∧ Aside0 (Below w.heap.size w w'))
            case atStart => exact ⟨(([] : List Int)), (0), (by first | rfl | (simp; done) | (simp [*]; done)), H', ⟨Nat.le_refl _⟩, ⟨by first | exact Kd.R_nil _ _ _ _ _ | exact Kd.N_nil _ _ _ _ _ | exact Kd.V_nil _ _ _ _ _ | exact Kd.Q_nil _ _ _ _ _ | exact Kd.S_nil _ _ _ _ _⟩, ⟨Rm (Kd.R_mono HO_52.out (fun _ hk => ⟨(by simp [Value.ownBlock]), hk⟩))⟩, ⟨Rm (Kd.R_mono HO_57.out (fun _ hk => ⟨(by simp [Value.ownBlock]), hk⟩))⟩, ⟨Sm (Kd.S_mono HO_505002.out (fun _ hk => ⟨(by simp [Value.ownBlock]), ⟨hk.1, hk.2⟩⟩))⟩, ⟨Kl BK489⟩, ⟨Kl BK490⟩, ⟨Kl BK491⟩, ⟨Kl BK504⟩, ⟨by repeat first | exact Bl HB | refine Bp (below_set ?_ GE489.out) | refine Bp (below_set ?_ GE490.out) | refine Bp (below_set ?_ GE491.out) | refine Bp (below_set ?_ GE504.out)⟩⟩
            case round =>
             clear H'
             try clear c1
             try clear p2
             try clear c4
             try clear c5
             try clear p5
             try clear q5
             try clear hx5
             try clear c6
             try clear c7
             try clear c44
             try clear c49
             try clear c50
             try clear p50
             try clear q50
             try clear hx50
             try clear c51
             try clear c67
             try clear c68
             try clear c69
             try clear c71
             try clear c71b0
             try clear c72
             try clear c72b0
             try clear c73
             try clear c73b0
             try clear c74
             try clear c75
             try clear c76
             try clear hcz52_0
             try clear hcz52_1
             try clear hcz52_2
             try clear hcz70_0
             try clear hcz70_1
             try clear hcz70_2
             try clear hcz77_0
             try clear hcz77_1
             try clear hcz77_2
             try clear hfz48_2
             try clear hfz52_0
             try clear hfz52_1
             try clear hfz52_2
             try clear hfz70_0
             try clear hfz70_1
             try clear hfz70_2
             try clear hfz77_0
             try clear hfz77_1
             try clear hfz77_2
             try clear hx505_0
             try clear p2
             try clear p505
             try clear q505
             obtain ⟨x9_4, x69_4, rfl, HA, HK4, HO_9, HO_52, HO_57, HO_505002, BK489, BK490, BK491, BK504, HB⟩ := hrel
             cases gk with
             | zero => exact absurd HA.out (by simp [examboardref24_Merge.l1])
             | succ k4 =>
              have H := HA.out
              clear HA
              simp only [examboardref24_Merge.l1] at H
              by_cases c78 : x69_4 < (t501.length : Int)
              ·rw [if_pos c78] at H
               have c78b0 : decide (x69_4 < (t501.length : Int)) = true := decide_eq_true c78
               clear c78
               by_cases c79 : 0 ≤ x69_4
               ·rw [if_pos c79] at H
                have c79b0 : decide (0 ≤ x69_4) = true := decide_eq_true c79
                clear c79
                by_cases c80 : x69_4 < (t501.length : Int)
                ·rw [if_pos c80] at H
                 have c80b0 : decide (x69_4 < (t501.length : Int)) = true := decide_eq_true c80
                 clear c80
                 replace H := Option.bind_eq_some_iff.mp H
                 obtain ⟨⟨t510, t511⟩, A810, H⟩ := H
                 replace H : ((examboardref24_cell.f k4 l1_0 l1_1 l1_2 (rd t498 x62_3) (rd t501 x69_4)).bind fun bt512 => (if t511 = true then (if bt512.2 = true then (examboardref24_Merge.j4 k4 (rd t498 x62_3) x9_4 t510 bt512.1 bt512.2 t498 t501 (t498.length : Int) x62_3 (t501.length : Int) x69_4 (t510 != bt512.1) l0_0 l0_1 l0_2 l1_0 l1_1 l1_2 t498 t501 x505002_3) else (examboardref24_Merge.j4 k4 (rd t498 x62_3) x9_4 t510 bt512.1 bt512.2 t498 t501 (t498.length : Int) x62_3 (t501.length : Int) x69_4 false l0_0 l0_1 l0_2 l1_0 l1_1 l1_2 t498 t501 x505002_3)) else (examboardref24_Merge.j4 k4 (rd t498 x62_3) x9_4 t510 bt512.1 bt512.2 t498 t501 (t498.length : Int) x62_3 (t501.length : Int) x69_4 false l0_0 l0_1 l0_2 l1_0 l1_1 l1_2 t498 t501 x505002_3))) = some (r1, r2, r3, r4) := H
                 have A81 := Am A810
                 clear A810
                 replace H := Option.bind_eq_some_iff.mp H
                 obtain ⟨⟨t512, t513⟩, A820, H⟩ := H
                 replace H : (if t511 = true then (if t513 = true then (examboardref24_Merge.j4 k4 (rd t498 x62_3) x9_4 t510 t512 t513 t498 t501 (t498.length : Int) x62_3 (t501.length : Int) x69_4 (t510 != t512) l0_0 l0_1 l0_2 l1_0 l1_1 l1_2 t498 t501 x505002_3) else (examboardref24_Merge.j4 k4 (rd t498 x62_3) x9_4 t510 t512 t513 t498 t501 (t498.length : Int) x62_3 (t501.length : Int) x69_4 false l0_0 l0_1 l0_2 l1_0 l1_1 l1_2 t498 t501 x505002_3)) else (examboardref24_Merge.j4 k4 (rd t498 x62_3) x9_4 t510 t512 t513 t498 t501 (t498.length : Int) x62_3 (t501.length : Int) x69_4 false l0_0 l0_1 l0_2 l1_0 l1_1 l1_2 t498 t501 x505002_3)) = some (r1, r2, r3, r4) := H
                 have A82 := Am A820
                 clear A820
                 have HC83 := Am H
                 clear H
                 have p509 : 0 ≤ (x69_4 : Int) := of_decide_eq_true (by first | (with_reducible assumption) | assumption)
                 have q509 : x69_4 < (t501.length : Int) := of_decide_eq_true (by first | (with_reducible assumption) | assumption)
                 obtain ⟨ad509, e509, hx509_0⟩ := Kd.at_int (Kd.R_reads' HO_57.out).2.2 x69_4 p509 q509
                 cases e509
                 replace p509 := eq_true p509
                 replace q509 := eq_true q509
                 have hnb84 := NB489_490.out
                 have hnc84 := NB490_489.out
                 have hnb85 := NB489_491.out
                 have hnc85 := NB491_489.out
                 have hnb86 := NB489_504.out
                 have hnc86 := NB504_489.out
                 have hcz87_0 : wr.cell? ⟨gb489, 0, none⟩ = some (.slice A0_0 l0_0.length c0_0) := (blk_cell BK489.out 0).trans rfl
                 have hcz87_1 : wr.cell? ⟨gb489, 1, none⟩ = some (.slice A0_1 l0_1.length c0_1) := (blk_cell BK489.out 1).trans rfl
                 have hcz87_2 : wr.cell? ⟨gb489, 2, none⟩ = some (.slice A0_2 l0_2.length c0_2) := (blk_cell BK489.out 2).trans rfl
                 have hfz87_0 := blk_frozen BK489.out 0
                 have hfz87_1 := blk_frozen BK489.out 1
                 have hfz87_2 := blk_frozen BK489.out 2
                 go_upto_region 15 with (first | ((with_reducible refine gate_callee (f := 45) rfl ?_); refine goesL_ (some 77) rfl rfl Try.func45 (by kernel_rfl) rfl #[.agg #[.slice A0_0 l0_0.length c0_0, .slice A0_1 l0_1.length c0_1, .slice A0_2 l0_2.length c0_2], .int .i64 (rd t498 x62_3), .int .i64 (rd t501 x69_4)] rfl (by (try simp only [List.map_toArray, List.map_cons, List.map_nil]); first | done | rfl | (simp only [List.length_drop, List.length_take]; rfl)) ?_; (with_reducible refine (examboardref24_cell.calls k4 _ _ l0_0 _ _ l0_1 _ _ l0_2 (rd t498 x62_3) (rd t501 x69_4) t510 t511 _ ?side1 ?side2 ?side3 ?side4 ?side5 ?side6 A81.out).mono ?_); (case side1 => repeat (first | exact (Kd.C_below HR0_0.out HB.out) | (with_reducible refine Kd.C_alloc ?_ _) | (with_reducible refine Kd.C_drewN ?_ _) | (with_reducible refine Kd.C_drew ?_))); (case side2 => exact HC0_0.out); (case side3 => repeat (first | exact (Kd.C_below HR0_1.out HB.out) | (with_reducible refine Kd.C_alloc ?_ _) | (with_reducible refine Kd.C_drewN ?_ _) | (with_reducible refine Kd.C_drew ?_))); (case side4 => exact HC0_1.out); (case side5 => repeat (first | exact (Kd.C_below HR0_2.out HB.out) | (with_reducible refine Kd.C_alloc ?_ _) | (with_reducible refine Kd.C_drewN ?_ _) | (with_reducible refine Kd.C_drew ?_))); (case side6 => exact HC0_2.out); rintro e w88 ⟨rfl, hb⟩; refine ⟨_, rfl, ?_⟩; have n0_ := Am (Kd.R_below (Rl HO_9) hb); have n1_ := Am (Kd.R_below (Rl HO_52) hb); have n2_ := Am (Kd.R_below (Rl HO_57) hb); have n3_ := Am (Kd.S_below (Sl HO_505002) hb); have n4_ := Am (blk_below (Kl BK489) hb); have n5_ := Am (blk_below (Kl BK490) hb); have n6_ := Am (blk_below (Kl BK491) hb); have n7_ := Am (blk_below (Kl BK504) hb); have n8_ := Am (below_step (by repeat first | exact Bl HB | refine Bp (below_set ?_ GE489.out) | refine Bp (below_set ?_ GE490.out) | refine Bp (below_set ?_ GE491.out) | refine Bp (below_set ?_ GE504.out)) hb); clear HO_9 HO_52 HO_57 HO_505002 BK489 BK490 BK491 BK504 HB; have HO_9 := n0_; have HO_52 := n1_; have HO_57 := n2_; have HO_505002 := n3_; have BK489 := n4_; have BK490 := n5_; have BK491 := n6_; have BK504 := n7_; have HB := n8_; clear n0_ n1_ n2_ n3_ n4_ n5_ n6_ n7_ n8_; (try clear hb); (try clear hb2); (try clear hk); (try clear hi); have hnb89 := NB490_491.out; have hnc89 := NB491_490.out; have hnb90 := NB490_504.out; have hnc90 := NB504_490.out; have hcz91_0 : w88.cell? ⟨gb490, 0, none⟩ = some (.slice A1_0 l1_0.length c1_0) := (blk_cell BK490.out 0).trans rfl; have hcz91_1 : w88.cell? ⟨gb490, 1, none⟩ = some (.slice A1_1 l1_1.length c1_1) := (blk_cell BK490.out 1).trans rfl; have hcz91_2 : w88.cell? ⟨gb490, 2, none⟩ = some (.slice A1_2 l1_2.length c1_2) := (blk_cell BK490.out 2).trans rfl; have hfz91_0 := blk_frozen BK490.out 0; have hfz91_1 := blk_frozen BK490.out 1; have hfz91_2 := blk_frozen BK490.out 2) | ((with_reducible refine gate_callee (f := 45) rfl ?_); refine goesL_ (some 84) rfl rfl Try.func45 (by kernel_rfl) rfl #[.agg #[.slice A1_0 l1_0.length c1_0, .slice A1_1 l1_1.length c1_1, .slice A1_2 l1_2.length c1_2], .int .i64 (rd t498 x62_3), .int .i64 (rd t501 x69_4)] rfl (by (try simp only [List.map_toArray, List.map_cons, List.map_nil]); first | done | rfl | (simp only [List.length_drop, List.length_take]; rfl)) ?_; (with_reducible refine (examboardref24_cell.calls k4 _ _ l1_0 _ _ l1_1 _ _ l1_2 (rd t498 x62_3) (rd t501 x69_4) t512 t513 _ ?side1 ?side2 ?side3 ?side4 ?side5 ?side6 A82.out).mono ?_); (case side1 => repeat (first | exact (Kd.C_below HR1_0.out HB.out) | (with_reducible refine Kd.C_alloc ?_ _) | (with_reducible refine Kd.C_drewN ?_ _) | (with_reducible refine Kd.C_drew ?_))); (case side2 => exact HC1_0.out); (case side3 => repeat (first | exact (Kd.C_below HR1_1.out HB.out) | (with_reducible refine Kd.C_alloc ?_ _) | (with_reducible refine Kd.C_drewN ?_ _) | (with_reducible refine Kd.C_drew ?_))); (case side4 => exact HC1_1.out); (case side5 => repeat (first | exact (Kd.C_below HR1_2.out HB.out) | (with_reducible refine Kd.C_alloc ?_ _) | (with_reducible refine Kd.C_drewN ?_ _) | (with_reducible refine Kd.C_drew ?_))); (case side6 => exact HC1_2.out); rintro e w92 ⟨rfl, hb⟩; refine ⟨_, rfl, ?_⟩; have n0_ := Am (Kd.R_below (Rl HO_9) hb); have n1_ := Am (Kd.R_below (Rl HO_52) hb); have n2_ := Am (Kd.R_below (Rl HO_57) hb); have n3_ := Am (Kd.S_below (Sl HO_505002) hb); have n4_ := Am (blk_below (Kl BK489) hb); have n5_ := Am (blk_below (Kl BK490) hb); have n6_ := Am (blk_below (Kl BK491) hb); have n7_ := Am (blk_below (Kl BK504) hb); have n8_ := Am (below_step (by repeat first | exact Bl HB | refine Bp (below_set ?_ GE489.out) | refine Bp (below_set ?_ GE490.out) | refine Bp (below_set ?_ GE491.out) | refine Bp (below_set ?_ GE504.out)) hb); clear HO_9 HO_52 HO_57 HO_505002 BK489 BK490 BK491 BK504 HB; have HO_9 := n0_; have HO_52 := n1_; have HO_57 := n2_; have HO_505002 := n3_; have BK489 := n4_; have BK490 := n5_; have BK491 := n6_; have BK504 := n7_; have HB := n8_; clear n0_ n1_ n2_ n3_ n4_ n5_ n6_ n7_ n8_; (try clear hb); (try clear hb2); (try clear hk); (try clear hi)))
                 (try simp only [Act.put, List.setIfInBounds_toArray, List.set_cons_zero, List.set_cons_succ])
                 go_cut [95] (fun v95 wc => ∃ (kq : Nat) (x95_82 : Bool), v95 = .bool x95_82 ∧ Aside0 (examboardref24_Merge.j4 kq (rd t498 x62_3) x9_4 t510 t512 t513 t498 t501 (t498.length : Int) x62_3 (t501.length : Int) x69_4 x95_82 l0_0 l0_1 l0_2 l1_0 l1_1 l1_2 t498 t501 x505002_3 = some (r1, r2, r3, r4)) ∧ Aside0 (kq ≤ k4) ∧ Aside0 (Kd.R (Kd.int .i64) 3 wc w.heap.size (fun k_ => some k_ ≠ ((.slice (some ad505) t498.length co63) : Value).ownBlock ∧ some k_ ≠ ((.slice (some ad509) t501.length co62) : Value).ownBlock ∧ some k_ ≠ ((.slice (some ad505) t498.length co63) : Value).ownBlock ∧ some k_ ≠ ((.slice (some ad509) t501.length co62) : Value).ownBlock) u9 x9_4) ∧ Aside0 (Kd.R (Kd.int .i64) 3 wc w.heap.size (fun k_ => some k_ ≠ (u9 : Value).ownBlock ∧ some k_ ≠ ((.slice (some ad509) t501.length co62) : Value).ownBlock ∧ some k_ ≠ ((.slice (some ad509) t501.length co62) : Value).ownBlock) (.slice (some ad505) t498.length co63) t498) ∧ Aside0 (Kd.R (Kd.int .i64) 3 wc w.heap.size (fun k_ => some k_ ≠ (u9 : Value).ownBlock ∧ some k_ ≠ ((.slice (some ad505) t498.length co63) : Value).ownBlock ∧ some k_ ≠ ((.slice (some ad505) t498.length co63) : Value).ownBlock) (.slice (some ad509) t501.length co62) t501) ∧ Aside0 (Kd.R (Kd.int .i64) 3 wc w.heap.size (fun k_ => some k_ ≠ (u9 : Value).ownBlock ∧ some k_ ≠ ((.slice (some ad509) t501.length co62) : Value).ownBlock ∧ some k_ ≠ ((.slice (some ad509) t501.length co62) : Value).ownBlock) (.slice (some ad505) t498.length co63) t498) ∧ Aside0 (Kd.R (Kd.int .i64) 3 wc w.heap.size (fun k_ => some k_ ≠ (u9 : Value).ownBlock ∧ some k_ ≠ ((.slice (some ad505) t498.length co63) : Value).ownBlock ∧ some k_ ≠ ((.slice (some ad505) t498.length co63) : Value).ownBlock) (.slice (some ad509) t501.length co62) t501) ∧ Aside0 (Kd.S (Kd.slice 3 (Kd.int .i64)) 36 wc w.heap.size (fun k_ => some k_ ≠ (u9 : Value).ownBlock ∧ some k_ ≠ ((.slice (some ad505) t498.length co63) : Value).ownBlock ∧ some k_ ≠ ((.slice (some ad509) t501.length co62) : Value).ownBlock ∧ some k_ ≠ ((.slice (some ad505) t498.length co63) : Value).ownBlock ∧ some k_ ≠ ((.slice (some ad509) t501.length co62) : Value).ownBlock) u505002 x505002_3) ∧ Aside0 (wc.heap[gb489]? = some (.cells #[(.slice A0_0 l0_0.length c0_0), (.slice A0_1 l0_1.length c0_1), (.slice A0_2 l0_2.length c0_2)] 39 (0, 0))) ∧ Aside0 (wc.heap[gb490]? = some (.cells #[(.slice A1_0 l1_0.length c1_0), (.slice A1_1 l1_1.length c1_1), (.slice A1_2 l1_2.length c1_2)] 39 (0, 0))) ∧ Aside0 (wc.heap[gb491]? = some (.cells #[(.slice none 0 0), (.slice none 0 0), (.slice none 0 0)] 39 (0, 0))) ∧ Aside0 (wc.heap[gb504]? = some (.cells #[(.slice (some ad505) t498.length co63), (.slice (some ad509) t501.length co62), u505002] 39 (0, 0))) ∧ Aside0 (Below w.heap.size w wc))
                 case first =>
                  have H := HC83.out
                  clear HC83
                  by_cases c93 : t511 = true
                  ·subst c93
                   have H1 : (if t513 = true then (examboardref24_Merge.j4 k4 (rd t498 x62_3) x9_4 t510 t512 t513 t498 t501 (t498.length : Int) x62_3 (t501.length : Int) x69_4 (t510 != t512) l0_0 l0_1 l0_2 l1_0 l1_1 l1_2 t498 t501 x505002_3) else (examboardref24_Merge.j4 k4 (rd t498 x62_3) x9_4 t510 t512 t513 t498 t501 (t498.length : Int) x62_3 (t501.length : Int) x69_4 false l0_0 l0_1 l0_2 l1_0 l1_1 l1_2 t498 t501 x505002_3)) = some (r1, r2, r3, r4) := by rw [if_pos rfl] at H; exact H
                   clear H
                   have H := H1
                   clear H1
                   by_cases c94 : t513 = true
                   ·subst c94
                    have H1 : (examboardref24_Merge.j4 k4 (rd t498 x62_3) x9_4 t510 t512 true t498 t501 (t498.length : Int) x62_3 (t501.length : Int) x69_4 (t510 != t512) l0_0 l0_1 l0_2 l1_0 l1_1 l1_2 t498 t501 x505002_3) = some (r1, r2, r3, r4) := by rw [if_pos rfl] at H; exact H
                    clear H
                    have H := H1
                    clear H1
                    have H' := Am H
                    clear H
                    go_wp2
                    go_meet
                    case rel => exact ⟨_, ((t510 != t512)), (by first | rfl | (simp; done) | (simp [*]; done)), H', ⟨by have := HJ2.out; have := HJ24.out; have := HK3.out; have := HK4.out; first | omega | exact Nat.le_refl _⟩, ⟨Rm (Kd.R_mono HO_9.out (fun _ hk => ⟨hk.1, ⟨hk.2, ⟨hk.1, hk.2⟩⟩⟩))⟩, ⟨Rm (Kd.R_mono HO_52.out (fun _ hk => ⟨hk.1, ⟨hk.2, hk.2⟩⟩))⟩, ⟨Rm (Kd.R_mono HO_57.out (fun _ hk => ⟨hk.1, ⟨hk.2, hk.2⟩⟩))⟩, ⟨Rm (Kd.R_mono HO_52.out (fun _ hk => ⟨hk.1, ⟨hk.2, hk.2⟩⟩))⟩, ⟨Rm (Kd.R_mono HO_57.out (fun _ hk => ⟨hk.1, ⟨hk.2, hk.2⟩⟩))⟩, ⟨Sm (Kd.S_mono HO_505002.out (fun _ hk => ⟨hk.1, ⟨hk.2.1, ⟨hk.2.2, ⟨hk.2.1, hk.2.2⟩⟩⟩⟩))⟩, ⟨Kl BK489⟩, ⟨Kl BK490⟩, ⟨Kl BK491⟩, ⟨Kl BK504⟩, ⟨by repeat first | exact Bl HB | refine Bp (below_set ?_ GE489.out) | refine Bp (below_set ?_ GE490.out) | refine Bp (below_set ?_ GE491.out) | refine Bp (below_set ?_ GE504.out)⟩⟩
                   ·replace c94 := Bool.eq_false_iff.mpr c94
                    subst c94
                    have H1 : (examboardref24_Merge.j4 k4 (rd t498 x62_3) x9_4 t510 t512 false t498 t501 (t498.length : Int) x62_3 (t501.length : Int) x69_4 false l0_0 l0_1 l0_2 l1_0 l1_1 l1_2 t498 t501 x505002_3) = some (r1, r2, r3, r4) := by rw [if_neg (show ¬ (false = true) by decide)] at H; exact H
                    clear H
                    have H := H1
                    clear H1
                    have H' := Am H
                    clear H
                    go_wp2
                    go_meet
                    case rel => exact ⟨_, (false), (by first | rfl | (simp; done) | (simp [*]; done)), H', ⟨by have := HJ2.out; have := HJ24.out; have := HK3.out; have := HK4.out; first | omega | exact Nat.le_refl _⟩, ⟨Rm (Kd.R_mono HO_9.out (fun _ hk => ⟨hk.1, ⟨hk.2, ⟨hk.1, hk.2⟩⟩⟩))⟩, ⟨Rm (Kd.R_mono HO_52.out (fun _ hk => ⟨hk.1, ⟨hk.2, hk.2⟩⟩))⟩, ⟨Rm (Kd.R_mono HO_57.out (fun _ hk => ⟨hk.1, ⟨hk.2, hk.2⟩⟩))⟩, ⟨Rm (Kd.R_mono HO_52.out (fun _ hk => ⟨hk.1, ⟨hk.2, hk.2⟩⟩))⟩, ⟨Rm (Kd.R_mono HO_57.out (fun _ hk => ⟨hk.1, ⟨hk.2, hk.2⟩⟩))⟩, ⟨Sm (Kd.S_mono HO_505002.out (fun _ hk => ⟨hk.1, ⟨hk.2.1, ⟨hk.2.2, ⟨hk.2.1, hk.2.2⟩⟩⟩⟩))⟩, ⟨Kl BK489⟩, ⟨Kl BK490⟩, ⟨Kl BK491⟩, ⟨Kl BK504⟩, ⟨by repeat first | exact Bl HB | refine Bp (below_set ?_ GE489.out) | refine Bp (below_set ?_ GE490.out) | refine Bp (below_set ?_ GE491.out) | refine Bp (below_set ?_ GE504.out)⟩⟩
                  ·replace c93 := Bool.eq_false_iff.mpr c93
                   subst c93
                   have H1 : (examboardref24_Merge.j4 k4 (rd t498 x62_3) x9_4 t510 t512 t513 t498 t501 (t498.length : Int) x62_3 (t501.length : Int) x69_4 false l0_0 l0_1 l0_2 l1_0 l1_1 l1_2 t498 t501 x505002_3) = some (r1, r2, r3, r4) := by rw [if_neg (show ¬ (false = true) by decide)] at H; exact H
                   clear H
                   have H := H1
                   clear H1
                   have H' := Am H
                   clear H
                   go_wp2
                   go_meet
                   case rel => exact ⟨_, (false), (by first | rfl | (simp; done) | (simp [*]; done)), H', ⟨by have := HJ2.out; have := HJ24.out; have := HK3.out; have := HK4.out; first | omega | exact Nat.le_refl _⟩, ⟨Rm (Kd.R_mono HO_9.out (fun _ hk => ⟨hk.1, ⟨hk.2, ⟨hk.1, hk.2⟩⟩⟩))⟩, ⟨Rm (Kd.R_mono HO_52.out (fun _ hk => ⟨hk.1, ⟨hk.2, hk.2⟩⟩))⟩, ⟨Rm (Kd.R_mono HO_57.out (fun _ hk => ⟨hk.1, ⟨hk.2, hk.2⟩⟩))⟩, ⟨Rm (Kd.R_mono HO_52.out (fun _ hk => ⟨hk.1, ⟨hk.2, hk.2⟩⟩))⟩, ⟨Rm (Kd.R_mono HO_57.out (fun _ hk => ⟨hk.1, ⟨hk.2, hk.2⟩⟩))⟩, ⟨Sm (Kd.S_mono HO_505002.out (fun _ hk => ⟨hk.1, ⟨hk.2.1, ⟨hk.2.2, ⟨hk.2.1, hk.2.2⟩⟩⟩⟩))⟩, ⟨Kl BK489⟩, ⟨Kl BK490⟩, ⟨Kl BK491⟩, ⟨Kl BK504⟩, ⟨by repeat first | exact Bl HB | refine Bp (below_set ?_ GE489.out) | refine Bp (below_set ?_ GE490.out) | refine Bp (below_set ?_ GE491.out) | refine Bp (below_set ?_ GE504.out)⟩⟩
                 case rest =>
                  clear HC83
                  try clear c1
                  try clear p2
                  try clear c4
                  try clear c5
                  try clear p5
                  try clear q5
                  try clear hx5
                  try clear c6
                  try clear c7
                  try clear c8
                  try clear c9
                  try clear c44
                  try clear c45
                  try clear c49
                  try clear c50
                  try clear p50
                  try clear q50
                  try clear hx50
                  try clear c51
                  try clear c67
                  try clear c68
                  try clear c69
                  try clear c71
                  try clear c71b0
                  try clear c72
                  try clear c72b0
                  try clear c73
                  try clear c73b0
                  try clear c74
                  try clear c75
                  try clear c76
                  try clear c78
                  try clear c78b0
                  try clear c79
                  try clear c79b0
                  try clear c80
                  try clear c80b0
                  try clear c84
                  try clear c85
                  try clear c86
                  try clear c89
                  try clear c90
                  try clear c93
                  try clear c94
                  try clear hcz52_0
                  try clear hcz52_1
                  try clear hcz52_2
                  try clear hcz70_0
                  try clear hcz70_1
                  try clear hcz70_2
                  try clear hcz77_0
                  try clear hcz77_1
                  try clear hcz77_2
                  try clear hcz87_0
                  try clear hcz87_1
                  try clear hcz87_2
                  try clear hcz91_0
                  try clear hcz91_1
                  try clear hcz91_2
                  try clear hfz48_2
                  try clear hfz52_0
                  try clear hfz52_1
                  try clear hfz52_2
                  try clear hfz70_0
                  try clear hfz70_1
                  try clear hfz70_2
                  try clear hfz77_0
                  try clear hfz77_1
                  try clear hfz77_2
                  try clear hfz87_0
                  try clear hfz87_1
                  try clear hfz87_2
                  try clear hfz91_0
                  try clear hfz91_1
                  try clear hfz91_2
                  try clear hx505_0
                  try clear hx509_0
                  try clear p2
                  try clear p5
                  try clear p50
                  try clear p505
                  try clear p509
                  try clear q5
                  try clear q50
                  try clear q505
                  try clear q509
                  obtain ⟨kq, x95_82, rfl, HA, HJ82, HO_9, HO_52, HO_57, HO_505000, HO_505001, HO_505002, BK489, BK490, BK491, BK504, HB⟩ := hcut
                  cases kq with
                  | zero => exact absurd HA.out (by simp [examboardref24_Merge.j4])
                  | succ kj82 =>
                   have H := HA.out
                   clear HA
                   simp only [examboardref24_Merge.j4] at H
                   by_cases c95 : x95_82 = true
                   ·subst c95
                    have H1 : (some (([] : List Int), ([] : List Int), ([] : List (List Int)), 11)) = some (r1, r2, r3, r4) := by rw [if_pos rfl] at H; exact H
                    clear H
                    have H := H1
                    clear H1
                    simp only [Option.some.injEq, Prod.mk.injEq] at H
                    obtain ⟨rfl, rfl, rfl, rfl⟩ := H
                    have hnb96 := NB491_489.out
                    have hnc96 := NB489_491.out
                    have hnb97 := NB491_490.out
                    have hnc97 := NB490_491.out
                    have hnb98 := NB491_504.out
                    have hnc98 := NB504_491.out
                    have hcz99_0 : wc.cell? ⟨gb491, 0, none⟩ = some (.slice none 0 0) := (blk_cell BK491.out 0).trans rfl
                    have hcz99_1 : wc.cell? ⟨gb491, 1, none⟩ = some (.slice none 0 0) := (blk_cell BK491.out 1).trans rfl
                    have hcz99_2 : wc.cell? ⟨gb491, 2, none⟩ = some (.slice none 0 0) := (blk_cell BK491.out 2).trans rfl
                    have hfz99_0 := blk_frozen BK491.out 0
                    have hfz99_1 := blk_frozen BK491.out 1
                    have hfz99_2 := blk_frozen BK491.out 2
                    go_wp2
                    refine bodyPost_ret (results_ct rfl _ _ gb491 39 #[.slice none 0 0, .slice none 0 0, .slice none 0 0] (0, 0) _ rfl (by refine Kp ?_; refine blk_put (cs := #[.slice none 0 0, .slice none 0 0, .slice none 0 0]) ?_ 2 _ rfl; refine Kp ?_; refine blk_put (cs := #[.slice none 0 0, .slice none 0 0, .slice none 0 0]) ?_ 1 _ rfl; refine Kp ?_; refine blk_put (cs := #[.slice none 0 0, .slice none 0 0, .slice none 0 0]) ?_ 0 _ rfl; refine Kp ?_; exact BK491.out) Try.underlying39 rfl (by kernel_rfl)) rfl ?_
                    exact ⟨_, _, _, by first | rfl | (simp [errW_none, errW_some] <;> rfl) | (simp [*, errW_none, errW_some] <;> rfl), by first | exact Kd.R_nil _ _ _ _ _ | exact Kd.N_nil _ _ _ _ _ | exact Kd.V_nil _ _ _ _ _ | exact Kd.Q_nil _ _ _ _ _ | exact Kd.S_nil _ _ _ _ _, by first | exact Kd.R_nil _ _ _ _ _ | exact Kd.N_nil _ _ _ _ _ | exact Kd.V_nil _ _ _ _ _ | exact Kd.Q_nil _ _ _ _ _ | exact Kd.S_nil _ _ _ _ _, by first | exact Kd.S_nil _ _ _ _ _ | exact Kd.N_nil _ _ _ _ _ | exact Kd.V_nil _ _ _ _ _ | exact Kd.Q_nil _ _ _ _ _ | exact Kd.R_nil _ _ _ _ _, by repeat first | exact Bl HB | refine Bp (below_set ?_ GE489.out) | refine Bp (below_set ?_ GE490.out) | refine Bp (below_set ?_ GE491.out) | refine Bp (below_set ?_ GE504.out)⟩
                   ·replace c95 := Bool.eq_false_iff.mpr c95
                    subst c95
                    have H1 : (if t513 = true then (if x9_4.length < 17592186044416 then (examboardref24_Merge.l1 kj82 (rd t498 x62_3) (x9_4 ++ [t512]) t498 t501 (t498.length : Int) x62_3 (t501.length : Int) (wrap64 (x69_4 + 1)) l0_0 l0_1 l0_2 l1_0 l1_1 l1_2 x505002_3) else (none)) else (if x9_4.length < 17592186044416 then (examboardref24_Merge.l1 kj82 (rd t498 x62_3) (x9_4 ++ [t510]) t498 t501 (t498.length : Int) x62_3 (t501.length : Int) (wrap64 (x69_4 + 1)) l0_0 l0_1 l0_2 l1_0 l1_1 l1_2 x505002_3) else (none))) = some (r1, r2, r3, r4) := by rw [if_neg (show ¬ (false = true) by decide)] at H; exact H
                    clear H
                    have H := H1
                    clear H1
                    by_cases c100 : t513 = true
                    ·subst c100
                     have H1 : (if x9_4.length < 17592186044416 then (examboardref24_Merge.l1 kj82 (rd t498 x62_3) (x9_4 ++ [t512]) t498 t501 (t498.length : Int) x62_3 (t501.length : Int) (wrap64 (x69_4 + 1)) l0_0 l0_1 l0_2 l1_0 l1_1 l1_2 x505002_3) else (none)) = some (r1, r2, r3, r4) := by rw [if_pos rfl] at H; exact H
                     clear H
                     have H := H1
                     clear H1
                     by_cases c101 : x9_4.length < 17592186044416
                     ·rw [if_pos c101] at H
                      have LMc101 := Am c101
                      clear c101
                      obtain ⟨y514, hy514⟩ : ∃ y_ : List Int, y_ = (x9_4 ++ [t512]) := ⟨_, rfl⟩
                      replace H : (examboardref24_Merge.l1 kj82 (rd t498 x62_3) y514 t498 t501 (t498.length : Int) x62_3 (t501.length : Int) (wrap64 (x69_4 + 1)) l0_0 l0_1 l0_2 l1_0 l1_1 l1_2 x505002_3) = some (r1, r2, r3, r4) := by first | (rw [hy514]; with_reducible exact H) | (have H2_ := (Option.bind_some _ _).symm.trans H; rw [hy514]; with_reducible exact H2_) | (have H2_ := (Option.bind_some _ _).symm.trans H; with_reducible exact H2_) | with_reducible exact H | (rw [hy514]; exact H) | exact H
                      have Ny514 := Am hy514
                      clear hy514
                      have H' := Am H
                      clear H
                      go_wp2_with (first | ((with_reducible refine gate_builtin (b := .append) (xs := #[.tmp 99, .tmp 101]) rfl ?_); (try (refine gate_guard (by rfl) ?_; dsimp only)); at_builtin; refine Kd.R_append (Kd.int .i64) (w0 := w) w.heap.size rfl (.tmp 99) (.tmp 101) 36 3 (.int .i64 0) 8 rfl Try.underlying36 info3 rfl (by decide) (by omega) u9 x9_4 t512 [.int .i64 t512] (fun k_ => some k_ ≠ (.slice (some ad505) t498.length co63 : Value).ownBlock ∧ some k_ ≠ (.slice (some ad509) t501.length co62 : Value).ownBlock ∧ some k_ ≠ (.slice (some ad505) t498.length co63 : Value).ownBlock ∧ some k_ ≠ (.slice (some ad509) t501.length co62 : Value).ownBlock) (fun _ => False) rfl rfl ?aP (fun _ hk => hk.elim) ?aF ?aO ?aB ?aS ?aL ?_; (case aP => exact rfl); (case aB => exact (by repeat first | exact Bl HB | refine Bp (below_set ?_ GE489.out) | refine Bp (below_set ?_ GE490.out) | refine Bp (below_set ?_ GE491.out) | refine Bp (below_set ?_ GE504.out))); (case aF => exact (fun k_ hk => ⟨Kd.fresh' (Rb HO_52) k_ hk, Kd.fresh' (Rb HO_57) k_ hk, Kd.fresh' (Rb HO_505000) k_ hk, Kd.fresh' (Rb HO_505001) k_ hk⟩)); (case aO => exact (Rl HO_9)); (case aS => exact (below_size (by repeat first | exact Bl HB | refine Bp (below_set ?_ GE489.out) | refine Bp (below_set ?_ GE490.out) | refine Bp (below_set ?_ GE491.out) | refine Bp (below_set ?_ GE504.out)))); (case aL => have := LMc101.out; omega); intro v515 w102 ho hb hg hat; rw [← Ny514.out] at ho; have n0_ := Am (Kd.R_after (ok := (fun k_ => some k_ ≠ (.slice (some ad509) t501.length co62 : Value).ownBlock ∧ some k_ ≠ (.slice (some ad509) t501.length co62 : Value).ownBlock)) (Rm (Kd.R_mono HO_52.out (fun _ hk => ⟨⟨hk.2.1, hk.2.2⟩, hk.1⟩))) hg hat); have n1_ := Am (Kd.R_after (ok := (fun k_ => some k_ ≠ (.slice (some ad505) t498.length co63 : Value).ownBlock ∧ some k_ ≠ (.slice (some ad505) t498.length co63 : Value).ownBlock)) (Rm (Kd.R_mono HO_57.out (fun _ hk => ⟨⟨hk.2.1, hk.2.2⟩, hk.1⟩))) hg hat); have n2_ := Am (Kd.R_after (ok := (fun k_ => some k_ ≠ (.slice (some ad509) t501.length co62 : Value).ownBlock ∧ some k_ ≠ (.slice (some ad509) t501.length co62 : Value).ownBlock)) (Rm (Kd.R_mono HO_505000.out (fun _ hk => ⟨⟨hk.2.1, hk.2.2⟩, hk.1⟩))) hg hat); have n3_ := Am (Kd.R_after (ok := (fun k_ => some k_ ≠ (.slice (some ad505) t498.length co63 : Value).ownBlock ∧ some k_ ≠ (.slice (some ad505) t498.length co63 : Value).ownBlock)) (Rm (Kd.R_mono HO_505001.out (fun _ hk => ⟨⟨hk.2.1, hk.2.2⟩, hk.1⟩))) hg hat); have n4_ := Am (Kd.S_after (ok := (fun k_ => some k_ ≠ (.slice (some ad505) t498.length co63 : Value).ownBlock ∧ some k_ ≠ (.slice (some ad509) t501.length co62 : Value).ownBlock ∧ some k_ ≠ (.slice (some ad505) t498.length co63 : Value).ownBlock ∧ some k_ ≠ (.slice (some ad509) t501.length co62 : Value).ownBlock)) (Sm (Kd.S_mono HO_505002.out (fun _ hk => ⟨⟨hk.2.1, ⟨hk.2.2.1, ⟨hk.2.2.2.1, hk.2.2.2.2⟩⟩⟩, hk.1⟩))) hg hat); have n5_ := Am (blk_grown (Kl BK489) hg (Kd.R_ne HO_9.out BK489.out (by decide))); have n6_ := Am (blk_grown (Kl BK490) hg (Kd.R_ne HO_9.out BK490.out (by decide))); have n7_ := Am (blk_grown (Kl BK491) hg (Kd.R_ne HO_9.out BK491.out (by decide))); have n8_ := Am (blk_grown (Kl BK504) hg (Kd.R_ne HO_9.out BK504.out (by decide))); have n9_ := Am (hb); have n10_ := Am (ho); clear HO_52 HO_57 HO_505000 HO_505001 HO_505002 BK489 BK490 BK491 BK504 HB HO_9; have HO_52 := n0_; have HO_57 := n1_; have HO_505000 := n2_; have HO_505001 := n3_; have HO_505002 := n4_; have BK489 := n5_; have BK490 := n6_; have BK491 := n7_; have BK504 := n8_; have HB := n9_; have HO516 := n10_; clear n0_ n1_ n2_ n3_ n4_ n5_ n6_ n7_ n8_ n9_ n10_; clear ho hb hg hat))
                      go_roundg kj82
                      case measure => have := HJ2.out; have := HJ24.out; have := HK3.out; have := HK4.out; have := HJ82.out; omega
                      case rel => exact ⟨(y514), (wrap64 (x69_4 + 1)), (by first | rfl | (simp; done) | (simp [*]; done)), H', ⟨by have := HJ2.out; have := HJ24.out; have := HK3.out; have := HK4.out; have := HJ82.out; omega⟩, ⟨Rm (Kd.R_mono HO516.out (fun _ hk => ⟨hk.1, hk.2.1⟩))⟩, ⟨Rm (Kd.R_mono HO_52.out (fun _ hk => ⟨hk.2, hk.1.1⟩))⟩, ⟨Rm (Kd.R_mono HO_57.out (fun _ hk => ⟨hk.2, hk.1.1⟩))⟩, ⟨Sm (Kd.S_mono HO_505002.out (fun _ hk => ⟨hk.2, ⟨hk.1.1, hk.1.2.1⟩⟩))⟩, ⟨Kl BK489⟩, ⟨Kl BK490⟩, ⟨Kl BK491⟩, ⟨Kl BK504⟩, ⟨by repeat first | exact Bl HB | refine Bp (below_set ?_ GE489.out) | refine Bp (below_set ?_ GE490.out) | refine Bp (below_set ?_ GE491.out) | refine Bp (below_set ?_ GE504.out)⟩⟩
                     ·rw [if_neg c101] at H
                      exact absurd H (by simp)
                    ·replace c100 := Bool.eq_false_iff.mpr c100
                     subst c100
                     have H1 : (if x9_4.length < 17592186044416 then (examboardref24_Merge.l1 kj82 (rd t498 x62_3) (x9_4 ++ [t510]) t498 t501 (t498.length : Int) x62_3 (t501.length : Int) (wrap64 (x69_4 + 1)) l0_0 l0_1 l0_2 l1_0 l1_1 l1_2 x505002_3) else (none)) = some (r1, r2, r3, r4) := by rw [if_neg (show ¬ (false = true) by decide)] at H; exact H
                     clear H
                     have H := H1
                     clear H1
                     by_cases c103 : x9_4.length < 17592186044416
                     ·rw [if_pos c103] at H
                      have LMc103 := Am c103
                      clear c103
                      obtain ⟨y517, hy517⟩ : ∃ y_ : List Int, y_ = (x9_4 ++ [t510]) := ⟨_, rfl⟩
                      replace H : (examboardref24_Merge.l1 kj82 (rd t498 x62_3) y517 t498 t501 (t498.length : Int) x62_3 (t501.length : Int) (wrap64 (x69_4 + 1)) l0_0 l0_1 l0_2 l1_0 l1_1 l1_2 x505002_3) = some (r1, r2, r3, r4) := by first | (rw [hy517]; with_reducible exact H) | (have H2_ := (Option.bind_some _ _).symm.trans H; rw [hy517]; with_reducible exact H2_) | (have H2_ := (Option.bind_some _ _).symm.trans H; with_reducible exact H2_) | with_reducible exact H | (rw [hy517]; exact H) | exact H
                      have Ny517 := Am hy517
                      clear hy517
                      have H' := Am H
                      clear H
                      go_wp2_with (first | ((with_reducible refine gate_builtin (b := .append) (xs := #[.tmp 99, .tmp 101]) rfl ?_); (try (refine gate_guard (by rfl) ?_; dsimp only)); at_builtin; refine Kd.R_append (Kd.int .i64) (w0 := w) w.heap.size rfl (.tmp 99) (.tmp 101) 36 3 (.int .i64 0) 8 rfl Try.underlying36 info3 rfl (by decide) (by omega) u9 x9_4 t510 [.int .i64 t510] (fun k_ => some k_ ≠ (.slice (some ad505) t498.length co63 : Value).ownBlock ∧ some k_ ≠ (.slice (some ad509) t501.length co62 : Value).ownBlock ∧ some k_ ≠ (.slice (some ad505) t498.length co63 : Value).ownBlock ∧ some k_ ≠ (.slice (some ad509) t501.length co62 : Value).ownBlock) (fun _ => False) rfl rfl ?aP (fun _ hk => hk.elim) ?aF ?aO ?aB ?aS ?aL ?_; (case aP => exact rfl); (case aB => exact (by repeat first | exact Bl HB | refine Bp (below_set ?_ GE489.out) | refine Bp (below_set ?_ GE490.out) | refine Bp (below_set ?_ GE491.out) | refine Bp (below_set ?_ GE504.out))); (case aF => exact (fun k_ hk => ⟨Kd.fresh' (Rb HO_52) k_ hk, Kd.fresh' (Rb HO_57) k_ hk, Kd.fresh' (Rb HO_505000) k_ hk, Kd.fresh' (Rb HO_505001) k_ hk⟩)); (case aO => exact (Rl HO_9)); (case aS => exact (below_size (by repeat first | exact Bl HB | refine Bp (below_set ?_ GE489.out) | refine Bp (below_set ?_ GE490.out) | refine Bp (below_set ?_ GE491.out) | refine Bp (below_set ?_ GE504.out)))); (case aL => have := LMc103.out; omega); intro v518 w104 ho hb hg hat; rw [← Ny517.out] at ho; have n0_ := Am (Kd.R_after (ok := (fun k_ => some k_ ≠ (.slice (some ad509) t501.length co62 : Value).ownBlock ∧ some k_ ≠ (.slice (some ad509) t501.length co62 : Value).ownBlock)) (Rm (Kd.R_mono HO_52.out (fun _ hk => ⟨⟨hk.2.1, hk.2.2⟩, hk.1⟩))) hg hat); have n1_ := Am (Kd.R_after (ok := (fun k_ => some k_ ≠ (.slice (some ad505) t498.length co63 : Value).ownBlock ∧ some k_ ≠ (.slice (some ad505) t498.length co63 : Value).ownBlock)) (Rm (Kd.R_mono HO_57.out (fun _ hk => ⟨⟨hk.2.1, hk.2.2⟩, hk.1⟩))) hg hat); have n2_ := Am (Kd.R_after (ok := (fun k_ => some k_ ≠ (.slice (some ad509) t501.length co62 : Value).ownBlock ∧ some k_ ≠ (.slice (some ad509) t501.length co62 : Value).ownBlock)) (Rm (Kd.R_mono HO_505000.out (fun _ hk => ⟨⟨hk.2.1, hk.2.2⟩, hk.1⟩))) hg hat); have n3_ := Am (Kd.R_after (ok := (fun k_ => some k_ ≠ (.slice (some ad505) t498.length co63 : Value).ownBlock ∧ some k_ ≠ (.slice (some ad505) t498.length co63 : Value).ownBlock)) (Rm (Kd.R_mono HO_505001.out (fun _ hk => ⟨⟨hk.2.1, hk.2.2⟩, hk.1⟩))) hg hat); have n4_ := Am (Kd.S_after (ok := (fun k_ => some k_ ≠ (.slice (some ad505) t498.length co63 : Value).ownBlock ∧ some k_ ≠ (.slice (some ad509) t501.length co62 : Value).ownBlock ∧ some k_ ≠ (.slice (some ad505) t498.length co63 : Value).ownBlock ∧ some k_ ≠ (.slice (some ad509) t501.length co62 : Value).ownBlock)) (Sm (Kd.S_mono HO_505002.out (fun _ hk => ⟨⟨hk.2.1, ⟨hk.2.2.1, ⟨hk.2.2.2.1, hk.2.2.2.2⟩⟩⟩, hk.1⟩))) hg hat); have n5_ := Am (blk_grown (Kl BK489) hg (Kd.R_ne HO_9.out BK489.out (by decide))); have n6_ := Am (blk_grown (Kl BK490) hg (Kd.R_ne HO_9.out BK490.out (by decide))); have n7_ := Am (blk_grown (Kl BK491) hg (Kd.R_ne HO_9.out BK491.out (by decide))); have n8_ := Am (blk_grown (Kl BK504) hg (Kd.R_ne HO_9.out BK504.out (by decide))); have n9_ := Am (hb); have n10_ := Am (ho); clear HO_52 HO_57 HO_505000 HO_505001 HO_505002 BK489 BK490 BK491 BK504 HB HO_9; have HO_52 := n0_; have HO_57 := n1_; have HO_505000 := n2_; have HO_505001 := n3_; have HO_505002 := n4_; have BK489 := n5_; have BK490 := n6_; have BK491 := n7_; have BK504 := n8_; have HB := n9_; have HO519 := n10_; clear n0_ n1_ n2_ n3_ n4_ n5_ n6_ n7_ n8_ n9_ n10_; clear ho hb hg hat))
                      go_roundg kj82
                      case measure => have := HJ2.out; have := HJ24.out; have := HK3.out; have := HK4.out; have := HJ82.out; omega
                      case rel => exact ⟨(y517), (wrap64 (x69_4 + 1)), (by first | rfl | (simp; done) | (simp [*]; done)), H', ⟨by have := HJ2.out; have := HJ24.out; have := HK3.out; have := HK4.out; have := HJ82.out; omega⟩, ⟨Rm (Kd.R_mono HO519.out (fun _ hk => ⟨hk.1, hk.2.1⟩))⟩, ⟨Rm (Kd.R_mono HO_52.out (fun _ hk => ⟨hk.2, hk.1.1⟩))⟩, ⟨Rm (Kd.R_mono HO_57.out (fun _ hk => ⟨hk.2, hk.1.1⟩))⟩, ⟨Sm (Kd.S_mono HO_505002.out (fun _ hk => ⟨hk.2, ⟨hk.1.1, hk.1.2.1⟩⟩))⟩, ⟨Kl BK489⟩, ⟨Kl BK490⟩, ⟨Kl BK491⟩, ⟨Kl BK504⟩, ⟨by repeat first | exact Bl HB | refine Bp (below_set ?_ GE489.out) | refine Bp (below_set ?_ GE490.out) | refine Bp (below_set ?_ GE491.out) | refine Bp (below_set ?_ GE504.out)⟩⟩
                     ·rw [if_neg c103] at H
                      exact absurd H (by simp)
                ·rw [if_neg c80] at H
                 exact absurd H (by simp)
               ·rw [if_neg c79] at H
                exact absurd H (by simp)
              ·rw [if_neg c78] at H
               have c78b0 : decide (x69_4 < (t501.length : Int)) = false := decide_eq_false c78
               clear c78
               by_cases c105 : x505002_3.length < 5864062014805
               ·rw [if_pos c105] at H
                have LMc105 := Am c105
                clear c105
                obtain ⟨y506, hy506⟩ : ∃ y_ : List (List Int), y_ = (x505002_3 ++ [x9_4]) := ⟨_, rfl⟩
                replace H : (examboardref24_Merge.l0 k4 t498 t501 (t498.length : Int) (wrap64 (x62_3 + 1)) l0_0 l0_1 l0_2 l1_0 l1_1 l1_2 y506) = some (r1, r2, r3, r4) := by first | (rw [hy506]; with_reducible exact H) | (have H2_ := (Option.bind_some _ _).symm.trans H; rw [hy506]; with_reducible exact H2_) | (have H2_ := (Option.bind_some _ _).symm.trans H; with_reducible exact H2_) | with_reducible exact H | (rw [hy506]; exact H) | exact H
                have Ny506 := Am hy506
                clear hy506
                have H' := Am H
                clear H
                have hnb106 := NB504_489.out
                have hnc106 := NB489_504.out
                have hnb107 := NB504_490.out
                have hnc107 := NB490_504.out
                have hnb108 := NB504_491.out
                have hnc108 := NB491_504.out
                have hcz109_0 : wr.cell? ⟨gb504, 0, none⟩ = some (.slice (some ad505) t498.length co63) := (blk_cell BK504.out 0).trans rfl
                have hcz109_1 : wr.cell? ⟨gb504, 1, none⟩ = some (.slice Ao62 t501.length co62) := (blk_cell BK504.out 1).trans rfl
                have hcz109_2 : wr.cell? ⟨gb504, 2, none⟩ = some (u505002) := (blk_cell BK504.out 2).trans rfl
                have hfz109_0 := blk_frozen BK504.out 0
                have hfz109_1 := blk_frozen BK504.out 1
                have hfz109_2 := blk_frozen BK504.out 2
                obtain ⟨Ao111, co111, eo111⟩ := Kd.R_slice HO_9.out
                subst eo111
                go_wp2_with (first | ((with_reducible refine gate_builtin (b := .append) (xs := #[.tmp 105, .tmp 107]) rfl ?_); (try (refine gate_guard (by rfl) ?_; dsimp only)); at_builtin; refine Kd.S_append (Kd.slice 3 (Kd.int .i64)) (w0 := w) w.heap.size rfl (.tmp 105) (.tmp 107) 37 36 (.slice none 0 0) 24 rfl Try.underlying37 info36 rfl (by decide) (by omega) u505002 x505002_3 x9_4 [.slice Ao111 x9_4.length co111] (fun k_ => some k_ ≠ (.slice (some ad505) t498.length co63 : Value).ownBlock ∧ some k_ ≠ (.slice Ao62 t501.length co62 : Value).ownBlock) (fun k_ => some k_ = (.slice Ao111 x9_4.length co111 : Value).ownBlock) rfl rfl ?aP (fun k_ hk_ => ((Kd.R_mono (ok' := fun k_ => ((fun k_ => some k_ ≠ (.slice (some ad505) t498.length co63 : Value).ownBlock ∧ some k_ ≠ (.slice Ao62 t501.length co62 : Value).ownBlock)) k_ ∧ some k_ ≠ (u505002 : Value).ownBlock) (Kd.R_apart' (HO_9.out) (Kd.S_typed HO_505002.out) (by decide)) (fun k_ hk => ⟨⟨hk.1.1, hk.1.2⟩, hk.2⟩))).1 k_ hk_.symm) ?aF ?aO ?aB ?aS ?aL ?_; (case aP => exact Kd.M_row (Kd.R_mono (Kd.R_tight rfl (Kd.R_mono (ok' := fun k_ => ((fun k_ => some k_ ≠ (.slice (some ad505) t498.length co63 : Value).ownBlock ∧ some k_ ≠ (.slice Ao62 t501.length co62 : Value).ownBlock)) k_ ∧ some k_ ≠ (u505002 : Value).ownBlock) (Kd.R_apart' (HO_9.out) (Kd.S_typed HO_505002.out) (by decide)) (fun k_ hk => ⟨⟨hk.1.1, hk.1.2⟩, hk.2⟩))) (fun _ h_ => h_))); (case aB => exact (by repeat first | exact Bl HB | refine Bp (below_set ?_ GE489.out) | refine Bp (below_set ?_ GE490.out) | refine Bp (below_set ?_ GE491.out) | refine Bp (below_set ?_ GE504.out))); (case aF => exact (fun k_ hk => ⟨Kd.fresh' (Rb HO_52) k_ hk, Kd.fresh' (Rb HO_57) k_ hk⟩)); (case aO => exact (Sm (Kd.S_mono HO_505002.out (fun k_ hk => ⟨⟨hk.2.1, hk.2.2⟩, fun e_ => hk.1 e_⟩)))); (case aS => exact (below_size (by repeat first | exact Bl HB | refine Bp (below_set ?_ GE489.out) | refine Bp (below_set ?_ GE490.out) | refine Bp (below_set ?_ GE491.out) | refine Bp (below_set ?_ GE504.out)))); (case aL => have := LMc105.out; omega); intro v507 w110 ho hb hg hat; rw [← Ny506.out] at ho; have n0_ := Am (Kd.R_over' (Rl HO_52) (Kd.S_typed (Sl HO_505002)) (by decide) hg); have n1_ := Am (Kd.R_over' (Rl HO_57) (Kd.S_typed (Sl HO_505002)) (by decide) hg); have n2_ := Am (blk_grown (Kl BK489) hg (Kd.S_ne HO_505002.out BK489.out (by decide))); have n3_ := Am (blk_grown (Kl BK490) hg (Kd.S_ne HO_505002.out BK490.out (by decide))); have n4_ := Am (blk_grown (Kl BK491) hg (Kd.S_ne HO_505002.out BK491.out (by decide))); have n5_ := Am (blk_grown (Kl BK504) hg (Kd.S_ne HO_505002.out BK504.out (by decide))); have n6_ := Am (hb); have n7_ := Am (ho); clear HO_52 HO_57 BK489 BK490 BK491 BK504 HB HO_505002 HO_9; have HO_52 := n0_; have HO_57 := n1_; have BK489 := n2_; have BK490 := n3_; have BK491 := n4_; have BK504 := n5_; have HB := n6_; have HO508 := n7_; clear n0_ n1_ n2_ n3_ n4_ n5_ n6_ n7_; clear ho hb hg hat; obtain ⟨Ao112, co112, eo112⟩ := Kd.S_slice HO508.out; subst eo112; have hcz113_0 : w110.cell? ⟨gb504, 0, none⟩ = some (.slice (some ad505) t498.length co63) := (blk_cell BK504.out 0).trans rfl; have hcz113_1 : w110.cell? ⟨gb504, 1, none⟩ = some (.slice Ao62 t501.length co62) := (blk_cell BK504.out 1).trans rfl; have hcz113_2 : w110.cell? ⟨gb504, 2, none⟩ = some (u505002) := (blk_cell BK504.out 2).trans rfl; have hfz113_0 := blk_frozen BK504.out 0; have hfz113_1 := blk_frozen BK504.out 1; have hfz113_2 := blk_frozen BK504.out 2))
                go_roundg k4
                case measure => have := HJ2.out; have := HJ24.out; have := HK3.out; have := HK4.out; omega
                case rel => exact ⟨(wrap64 (x62_3 + 1)), (y506), (.slice Ao112 y506.length co112), (by first | rfl | (simp; done) | (simp [*]; done)), H', ⟨by have := HJ2.out; have := HJ24.out; have := HK3.out; have := HK4.out; omega⟩, ⟨Rm (Kd.R_mono (Kd.R_far (p := ⟨gb504, 2, none⟩) (Kd.R_types HO_52.out BK504.out (by decide)) (fun _ hk => hk.2) (.slice Ao112 y506.length co112)) (fun _ hk => hk.1.2))⟩, ⟨Rm (Kd.R_mono (Kd.R_far (p := ⟨gb504, 2, none⟩) (Kd.R_types HO_57.out BK504.out (by decide)) (fun _ hk => hk.2) (.slice Ao112 y506.length co112)) (fun _ hk => hk.1.2))⟩, ⟨Sm (Kd.S_mono (Kd.S_far (p := ⟨gb504, 2, none⟩) (Kd.S_types HO508.out BK504.out (by decide)) (fun _ hk => hk.2) (.slice Ao112 y506.length co112)) (fun _ hk => ⟨hk.1.1, hk.1.2⟩))⟩, ⟨by refine Kp ?_; refine blk_far ?_ NB489_504.out _; refine Kp ?_; exact BK489.out⟩, ⟨by refine Kp ?_; refine blk_far ?_ NB490_504.out _; refine Kp ?_; exact BK490.out⟩, ⟨by refine Kp ?_; refine blk_far ?_ NB491_504.out _; refine Kp ?_; exact BK491.out⟩, ⟨by refine Kp ?_; refine blk_put (cs := #[.slice (some ad505) t498.length co63, .slice Ao62 t501.length co62, u505002]) ?_ 2 _ rfl; refine Kp ?_; exact BK504.out⟩, ⟨by repeat first | exact Bl HB | refine Bp (below_set ?_ GE489.out) | refine Bp (below_set ?_ GE490.out) | refine Bp (below_set ?_ GE491.out) | refine Bp (below_set ?_ GE504.out)⟩⟩
               ·rw [if_neg c105] at H
                exact absurd H (by simp)
           ·rw [if_neg c73] at H
            exact absurd H (by simp)
          ·rw [if_neg c72] at H
           exact absurd H (by simp)
         ·rw [if_neg c71] at H
          have c71b0 : decide (x62_3 < (t498.length : Int)) = false := decide_eq_false c71
          clear c71
          by_cases c114 : (t498.length : Int) > 200
          ·rw [if_pos c114] at H
           have c114b0 : decide (200 < (t498.length : Int)) = true := decide_eq_true c114
           have c114b1 : decide (200 < t498.length) = true := decide_eq_true (by omega)
           clear c114
           simp only [Option.some.injEq, Prod.mk.injEq] at H
           obtain ⟨rfl, rfl, rfl, rfl⟩ := H
           have hnb115 := NB504_489.out
           have hnc115 := NB489_504.out
           have hnb116 := NB504_490.out
           have hnc116 := NB490_504.out
           have hnb117 := NB504_491.out
           have hnc117 := NB491_504.out
           have hcz118_0 : wr.cell? ⟨gb504, 0, none⟩ = some (.slice Ao63 t498.length co63) := (blk_cell BK504.out 0).trans rfl
           have hcz118_1 : wr.cell? ⟨gb504, 1, none⟩ = some (.slice Ao62 t501.length co62) := (blk_cell BK504.out 1).trans rfl
           have hcz118_2 : wr.cell? ⟨gb504, 2, none⟩ = some (u505002) := (blk_cell BK504.out 2).trans rfl
           have hfz118_0 := blk_frozen BK504.out 0
           have hfz118_1 := blk_frozen BK504.out 1
           have hfz118_2 := blk_frozen BK504.out 2
           have hnb119 := NB491_489.out
           have hnc119 := NB489_491.out
           have hnb120 := NB491_490.out
           have hnc120 := NB490_491.out
           have hcz121_0 : wr.cell? ⟨gb491, 0, none⟩ = some (.slice none 0 0) := (blk_cell BK491.out 0).trans rfl
           have hcz121_1 : wr.cell? ⟨gb491, 1, none⟩ = some (.slice none 0 0) := (blk_cell BK491.out 1).trans rfl
           have hcz121_2 : wr.cell? ⟨gb491, 2, none⟩ = some (.slice none 0 0) := (blk_cell BK491.out 2).trans rfl
           have hfz121_0 := blk_frozen BK491.out 0
           have hfz121_1 := blk_frozen BK491.out 1
           have hfz121_2 := blk_frozen BK491.out 2
           go_wp2
           refine bodyPost_ret (results_ct rfl _ _ gb491 39 #[.slice none 0 0, .slice none 0 0, .slice none 0 0] (0, 0) _ rfl (by refine Kp ?_; refine blk_put (cs := #[.slice none 0 0, .slice none 0 0, .slice none 0 0]) ?_ 2 _ rfl; refine Kp ?_; refine blk_put (cs := #[.slice none 0 0, .slice none 0 0, .slice none 0 0]) ?_ 1 _ rfl; refine Kp ?_; refine blk_put (cs := #[.slice none 0 0, .slice none 0 0, .slice none 0 0]) ?_ 0 _ rfl; refine Kp ?_; exact BK491.out) Try.underlying39 rfl (by kernel_rfl)) rfl ?_
           exact ⟨_, _, _, by first | rfl | (simp [errW_none, errW_some] <;> rfl) | (simp [*, errW_none, errW_some] <;> rfl), by first | exact Kd.R_nil _ _ _ _ _ | exact Kd.N_nil _ _ _ _ _ | exact Kd.V_nil _ _ _ _ _ | exact Kd.Q_nil _ _ _ _ _ | exact Kd.S_nil _ _ _ _ _, by first | exact Kd.R_nil _ _ _ _ _ | exact Kd.N_nil _ _ _ _ _ | exact Kd.V_nil _ _ _ _ _ | exact Kd.Q_nil _ _ _ _ _ | exact Kd.S_nil _ _ _ _ _, by first | exact Kd.S_nil _ _ _ _ _ | exact Kd.N_nil _ _ _ _ _ | exact Kd.V_nil _ _ _ _ _ | exact Kd.Q_nil _ _ _ _ _ | exact Kd.R_nil _ _ _ _ _, by repeat first | exact Bl HB | refine Bp (below_set ?_ GE489.out) | refine Bp (below_set ?_ GE490.out) | refine Bp (below_set ?_ GE491.out) | refine Bp (below_set ?_ GE504.out)⟩
          ·rw [if_neg c114] at H
           have c114b0 : decide (200 < (t498.length : Int)) = false := decide_eq_false c114
           have c114b1 : decide (200 < t498.length) = false := decide_eq_false (by omega)
           clear c114
           by_cases c122 : (t501.length : Int) > 60
           ·rw [if_pos c122] at H
            have c122b0 : decide (60 < (t501.length : Int)) = true := decide_eq_true c122
            have c122b1 : decide (60 < t501.length) = true := decide_eq_true (by omega)
            clear c122
            simp only [Option.some.injEq, Prod.mk.injEq] at H
            obtain ⟨rfl, rfl, rfl, rfl⟩ := H
            have hnb123 := NB504_489.out
            have hnc123 := NB489_504.out
            have hnb124 := NB504_490.out
            have hnc124 := NB490_504.out
            have hnb125 := NB504_491.out
            have hnc125 := NB491_504.out
            have hcz126_0 : wr.cell? ⟨gb504, 0, none⟩ = some (.slice Ao63 t498.length co63) := (blk_cell BK504.out 0).trans rfl
            have hcz126_1 : wr.cell? ⟨gb504, 1, none⟩ = some (.slice Ao62 t501.length co62) := (blk_cell BK504.out 1).trans rfl
            have hcz126_2 : wr.cell? ⟨gb504, 2, none⟩ = some (u505002) := (blk_cell BK504.out 2).trans rfl
            have hfz126_0 := blk_frozen BK504.out 0
            have hfz126_1 := blk_frozen BK504.out 1
            have hfz126_2 := blk_frozen BK504.out 2
            have hnb127 := NB491_489.out
            have hnc127 := NB489_491.out
            have hnb128 := NB491_490.out
            have hnc128 := NB490_491.out
            have hcz129_0 : wr.cell? ⟨gb491, 0, none⟩ = some (.slice none 0 0) := (blk_cell BK491.out 0).trans rfl
            have hcz129_1 : wr.cell? ⟨gb491, 1, none⟩ = some (.slice none 0 0) := (blk_cell BK491.out 1).trans rfl
            have hcz129_2 : wr.cell? ⟨gb491, 2, none⟩ = some (.slice none 0 0) := (blk_cell BK491.out 2).trans rfl
            have hfz129_0 := blk_frozen BK491.out 0
            have hfz129_1 := blk_frozen BK491.out 1
            have hfz129_2 := blk_frozen BK491.out 2
            go_wp2
            refine bodyPost_ret (results_ct rfl _ _ gb491 39 #[.slice none 0 0, .slice none 0 0, .slice none 0 0] (0, 0) _ rfl (by refine Kp ?_; refine blk_put (cs := #[.slice none 0 0, .slice none 0 0, .slice none 0 0]) ?_ 2 _ rfl; refine Kp ?_; refine blk_put (cs := #[.slice none 0 0, .slice none 0 0, .slice none 0 0]) ?_ 1 _ rfl; refine Kp ?_; refine blk_put (cs := #[.slice none 0 0, .slice none 0 0, .slice none 0 0]) ?_ 0 _ rfl; refine Kp ?_; exact BK491.out) Try.underlying39 rfl (by kernel_rfl)) rfl ?_
            exact ⟨_, _, _, by first | rfl | (simp [errW_none, errW_some] <;> rfl) | (simp [*, errW_none, errW_some] <;> rfl), by first | exact Kd.R_nil _ _ _ _ _ | exact Kd.N_nil _ _ _ _ _ | exact Kd.V_nil _ _ _ _ _ | exact Kd.Q_nil _ _ _ _ _ | exact Kd.S_nil _ _ _ _ _, by first | exact Kd.R_nil _ _ _ _ _ | exact Kd.N_nil _ _ _ _ _ | exact Kd.V_nil _ _ _ _ _ | exact Kd.Q_nil _ _ _ _ _ | exact Kd.S_nil _ _ _ _ _, by first | exact Kd.S_nil _ _ _ _ _ | exact Kd.N_nil _ _ _ _ _ | exact Kd.V_nil _ _ _ _ _ | exact Kd.Q_nil _ _ _ _ _ | exact Kd.R_nil _ _ _ _ _, by repeat first | exact Bl HB | refine Bp (below_set ?_ GE489.out) | refine Bp (below_set ?_ GE490.out) | refine Bp (below_set ?_ GE491.out) | refine Bp (below_set ?_ GE504.out)⟩
           ·rw [if_neg c122] at H
            have c122b0 : decide (60 < (t501.length : Int)) = false := decide_eq_false c122
            have c122b1 : decide (60 < t501.length) = false := decide_eq_false (by omega)
            clear c122
            simp only [Option.some.injEq, Prod.mk.injEq] at H
            obtain ⟨rfl, rfl, rfl, rfl⟩ := H
            have hnb130 := NB504_489.out
            have hnc130 := NB489_504.out
            have hnb131 := NB504_490.out
            have hnc131 := NB490_504.out
            have hnb132 := NB504_491.out
            have hnc132 := NB491_504.out
            have hcz133_0 : wr.cell? ⟨gb504, 0, none⟩ = some (.slice Ao63 t498.length co63) := (blk_cell BK504.out 0).trans rfl
            have hcz133_1 : wr.cell? ⟨gb504, 1, none⟩ = some (.slice Ao62 t501.length co62) := (blk_cell BK504.out 1).trans rfl
            have hcz133_2 : wr.cell? ⟨gb504, 2, none⟩ = some (u505002) := (blk_cell BK504.out 2).trans rfl
            have hfz133_0 := blk_frozen BK504.out 0
            have hfz133_1 := blk_frozen BK504.out 1
            have hfz133_2 := blk_frozen BK504.out 2
            have hnb134 := NB491_489.out
            have hnc134 := NB489_491.out
            have hnb135 := NB491_490.out
            have hnc135 := NB490_491.out
            have hcz136_0 : wr.cell? ⟨gb491, 0, none⟩ = some (.slice none 0 0) := (blk_cell BK491.out 0).trans rfl
            have hcz136_1 : wr.cell? ⟨gb491, 1, none⟩ = some (.slice none 0 0) := (blk_cell BK491.out 1).trans rfl
            have hcz136_2 : wr.cell? ⟨gb491, 2, none⟩ = some (.slice none 0 0) := (blk_cell BK491.out 2).trans rfl
            have hfz136_0 := blk_frozen BK491.out 0
            have hfz136_1 := blk_frozen BK491.out 1
            have hfz136_2 := blk_frozen BK491.out 2
            obtain ⟨Ao137, co137, eo137⟩ := Kd.S_slice HO_505002.out
            subst eo137
            go_wp2
            refine bodyPost_ret (results_ct rfl _ _ gb491 39 #[.slice Ao63 t498.length co63, .slice Ao62 t501.length co62, .slice Ao137 x505002_3.length co137] (0, 0) _ rfl (by refine Kp ?_; refine blk_put (cs := #[.slice Ao63 t498.length co63, .slice Ao62 t501.length co62, .slice none 0 0]) ?_ 2 _ rfl; refine Kp ?_; refine blk_put (cs := #[.slice Ao63 t498.length co63, .slice none 0 0, .slice none 0 0]) ?_ 1 _ rfl; refine Kp ?_; refine blk_put (cs := #[.slice none 0 0, .slice none 0 0, .slice none 0 0]) ?_ 0 _ rfl; refine Kp ?_; exact BK491.out) Try.underlying39 rfl (by kernel_rfl)) rfl ?_
            exact ⟨_, _, _, by first | rfl | (simp [errW_none, errW_some] <;> rfl) | (simp [*, errW_none, errW_some] <;> rfl), Rm (Kd.R_mono (Kd.R_far (p := ⟨gb491, 2, none⟩) (Kd.R_far (p := ⟨gb491, 1, none⟩) (Kd.R_far (p := ⟨gb491, 0, none⟩) (Kd.R_types HO_52.out BK491.out (by decide)) (fun _ hk => hk.2) (.slice Ao63 t498.length co63)) (fun _ hk => hk.2) (.slice Ao62 t501.length co62)) (fun _ hk => hk.2) (.slice Ao137 x505002_3.length co137)) (fun _ hk => hk.1)), Rm (Kd.R_mono (Kd.R_far (p := ⟨gb491, 2, none⟩) (Kd.R_far (p := ⟨gb491, 1, none⟩) (Kd.R_far (p := ⟨gb491, 0, none⟩) (Kd.R_types HO_57.out BK491.out (by decide)) (fun _ hk => hk.2) (.slice Ao63 t498.length co63)) (fun _ hk => hk.2) (.slice Ao62 t501.length co62)) (fun _ hk => hk.2) (.slice Ao137 x505002_3.length co137)) (fun _ hk => hk.1)), Sm (Kd.S_mono (Kd.S_far (p := ⟨gb491, 2, none⟩) (Kd.S_far (p := ⟨gb491, 1, none⟩) (Kd.S_far (p := ⟨gb491, 0, none⟩) (Kd.S_types HO_505002.out BK491.out (by decide)) (fun _ hk => hk.2) (.slice Ao63 t498.length co63)) (fun _ hk => hk.2) (.slice Ao62 t501.length co62)) (fun _ hk => hk.2) (.slice Ao137 x505002_3.length co137)) (fun _ hk => ⟨hk.1.1, hk.1.2⟩)), by repeat first | exact Bl HB | refine Bp (below_set ?_ GE489.out) | refine Bp (below_set ?_ GE490.out) | refine Bp (below_set ?_ GE491.out) | refine Bp (below_set ?_ GE504.out)⟩

end Go.Proofs.Ytgeplglggcoaiab.Matrix
