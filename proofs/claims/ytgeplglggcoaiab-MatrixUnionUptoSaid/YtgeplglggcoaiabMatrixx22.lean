/- Lean functions and walks for Go functions of this seat, written by this claim's own program (wip/tools/xprint.py) over the kit's print. -/
import Derived.Test.YtgeplglggcoaiabMatrixx0
import Derived.Test.YtgeplglggcoaiabMatrixx1
import Derived.Test.YtgeplglggcoaiabMatrixx2
import Derived.Test.YtgeplglggcoaiabMatrixx15
import Derived.Test.YtgeplglggcoaiabMatrixx21
namespace Go.Proofs.Ytgeplglggcoaiab.Matrix
open Go.RowKit Go.Sort Go.Proofs.YtgeplglggcoaiabMakec Go.Proofs.YtgeplglggcoaiabW.PrintWords Go.Proofs.YtgeplglggcoaiabW.PrintLast Go.Proofs.YtgeplglggcoaiabW.PrintMore
attribute [local go_sem] max2_int min2_int max_two min_two max_three min_three max_four min_four   -- for this text's walks alone
set_option linter.unusedVariables false
set_option linter.unusedSimpArgs false

/-! ### matrix_Merge: function 19 -/
mutual
def matrix_Merge.j0 : Nat → Bool → List Int → List Int → List (List Int) → List Int → List Int → List (List Int) → Option (List Int × List Int × (List (List Int)) × Int)
 | 0, _, _, _, _, _, _, _ => none
 | k + 1, x23, x197000, x197001, x197002, x198000, x198001, x198002 => if x23 = true then (some (([] : List Int), ([] : List Int), ([] : List (List Int)), 1)) else ((matrix_rising_int.f k x197000 1).bind fun t201 => (if t201 = true then ((matrix_rising_int.f k x197001 1).bind fun t202 => (if t202 = true then ((matrix_rising_int.f k x198000 1).bind fun t203 => (if t203 = true then ((matrix_rising_int.f k x198001 1).bind fun t204 => (matrix_Merge.j1 k (!t204) x197000 x197001 x197002 x198000 x198001 x198002)) else (matrix_Merge.j1 k true x197000 x197001 x197002 x198000 x198001 x198002))) else (matrix_Merge.j1 k true x197000 x197001 x197002 x198000 x198001 x198002))) else (matrix_Merge.j1 k true x197000 x197001 x197002 x198000 x198001 x198002)))
def matrix_Merge.j1 : Nat → Bool → List Int → List Int → List (List Int) → List Int → List Int → List (List Int) → Option (List Int × List Int × (List (List Int)) × Int)
 | 0, _, _, _, _, _, _, _ => none
 | k + 1, x46, x197000, x197001, x197002, x198000, x198001, x198002 => if x46 = true then (some (([] : List Int), ([] : List Int), ([] : List (List Int)), 23)) else ((matrix_merged_int.f k x197000 x198000).bind fun t205 => ((matrix_merged_int.f k x197001 x198001).bind fun t208 => (matrix_Merge.l0 k t205 t208 (t205.length : Int) 0 x197000 x197001 x197002 x198000 x198001 x198002 ([] : List (List Int)))))
def matrix_Merge.l0 : Nat → List Int → List Int → Int → Int → List Int → List Int → List (List Int) → List Int → List Int → List (List Int) → List (List Int) → Option (List Int × List Int × (List (List Int)) × Int)
 | 0, _, _, _, _, _, _, _, _, _, _, _ => none
 | k + 1, x52, x57, x61, x62, x197000, x197001, x197002, x198000, x198001, x198002, x212002 => if x62 < x61 then (if 0 ≤ x62 then (if x62 < (x52.length : Int) then (if 0 ≤ (x57.length : Int) then (if ((x57.length : Int) : Int).toNat ≤ 35184372088832 then (matrix_Merge.l1 k (rd x52 x62) (([] : List Int)) x52 x57 x61 x62 (x57.length : Int) 0 x197000 x197001 x197002 x198000 x198001 x198002 x212002) else (none)) else (none)) else (none)) else (none)) else (if (x52.length : Int) > 200 then (some (([] : List Int), ([] : List Int), ([] : List (List Int)), 5)) else (if (x57.length : Int) > 60 then (some (([] : List Int), ([] : List Int), ([] : List (List Int)), 5)) else (some (x52, x57, x212002, 0))))
def matrix_Merge.l1 : Nat → Int → List Int → List Int → List Int → Int → Int → Int → Int → List Int → List Int → List (List Int) → List Int → List Int → List (List Int) → List (List Int) → Option (List Int × List Int × (List (List Int)) × Int)
 | 0, _, _, _, _, _, _, _, _, _, _, _, _, _, _, _ => none
 | k + 1, x8, x9, x52, x57, x61, x62, x72, x73, x197000, x197001, x197002, x198000, x198001, x198002, x212002 => if x73 < x72 then (if 0 ≤ x73 then (if x73 < (x57.length : Int) then ((matrix_cell.f k x197000 x197001 x197002 x8 (rd x57 x73)).bind fun bt220 => ((matrix_cell.f k x198000 x198001 x198002 x8 (rd x57 x73)).bind fun bt222 => (if bt220.2 = true then (if bt222.2 = true then (matrix_Merge.j4 k x8 x9 bt220.1 bt220.2 bt222.1 x52 x57 x61 x62 x72 x73 (bt220.1 != bt222.1) x197000 x197001 x197002 x198000 x198001 x198002 x52 x57 x212002) else (matrix_Merge.j4 k x8 x9 bt220.1 bt220.2 bt222.1 x52 x57 x61 x62 x72 x73 false x197000 x197001 x197002 x198000 x198001 x198002 x52 x57 x212002)) else (matrix_Merge.j4 k x8 x9 bt220.1 bt220.2 bt222.1 x52 x57 x61 x62 x72 x73 false x197000 x197001 x197002 x198000 x198001 x198002 x52 x57 x212002)))) else (none)) else (none)) else (if x212002.length < 5864062014805 then (matrix_Merge.l0 k x52 x57 x61 (wrap64 (x62 + 1)) x197000 x197001 x197002 x198000 x198001 x198002 (x212002 ++ [x9])) else (none))
def matrix_Merge.j4 : Nat → Int → List Int → Int → Bool → Int → List Int → List Int → Int → Int → Int → Int → Bool → List Int → List Int → List (List Int) → List Int → List Int → List (List Int) → List Int → List Int → List (List Int) → Option (List Int × List Int × (List (List Int)) × Int)
 | 0, _, _, _, _, _, _, _, _, _, _, _, _, _, _, _, _, _, _, _, _, _ => none
 | k + 1, x8, x9, x12, x13, x14, x52, x57, x61, x62, x72, x73, x99, x197000, x197001, x197002, x198000, x198001, x198002, x212000, x212001, x212002 => if x99 = true then (some (([] : List Int), ([] : List Int), ([] : List (List Int)), 11)) else (if x13 = true then (if x9.length < 17592186044416 then (matrix_Merge.l1 k x8 (x9 ++ [x12]) x52 x57 x61 x62 x72 (wrap64 (x73 + 1)) x197000 x197001 x197002 x198000 x198001 x198002 x212002) else (none)) else (if x9.length < 17592186044416 then (matrix_Merge.l1 k x8 (x9 ++ [x14]) x52 x57 x61 x62 x72 (wrap64 (x73 + 1)) x197000 x197001 x197002 x198000 x198001 x198002 x212002) else (none)))
end
def matrix_Merge.f (k : Nat) (l0_0 : List Int) (l0_1 : List Int) (l0_2 : List (List Int)) (l1_0 : List Int) (l1_1 : List Int) (l1_2 : List (List Int)) : Option (List Int × List Int × (List (List Int)) × Int) := (matrix_shape.f k l0_0 l0_1 l0_2).bind fun t199 => (if t199 = true then ((matrix_shape.f k l1_0 l1_1 l1_2).bind fun t200 => (matrix_Merge.j0 k (!t200) l0_0 l0_1 l0_2 l1_0 l1_1 l1_2)) else (matrix_Merge.j0 k true l0_0 l0_1 l0_2 l1_0 l1_1 l1_2))
theorem matrix_Merge.mono_l : ∀ k, (∀ y0 y1 y2 y3 y4 y5 y6, LeO (matrix_Merge.j0 k y0 y1 y2 y3 y4 y5 y6) (matrix_Merge.j0 (k + 1) y0 y1 y2 y3 y4 y5 y6)) ∧ (∀ y0 y1 y2 y3 y4 y5 y6, LeO (matrix_Merge.j1 k y0 y1 y2 y3 y4 y5 y6) (matrix_Merge.j1 (k + 1) y0 y1 y2 y3 y4 y5 y6)) ∧ (∀ y0 y1 y2 y3 y4 y5 y6 y7 y8 y9 y10, LeO (matrix_Merge.l0 k y0 y1 y2 y3 y4 y5 y6 y7 y8 y9 y10) (matrix_Merge.l0 (k + 1) y0 y1 y2 y3 y4 y5 y6 y7 y8 y9 y10)) ∧ (∀ y0 y1 y2 y3 y4 y5 y6 y7 y8 y9 y10 y11 y12 y13 y14, LeO (matrix_Merge.l1 k y0 y1 y2 y3 y4 y5 y6 y7 y8 y9 y10 y11 y12 y13 y14) (matrix_Merge.l1 (k + 1) y0 y1 y2 y3 y4 y5 y6 y7 y8 y9 y10 y11 y12 y13 y14)) ∧ (∀ y0 y1 y2 y3 y4 y5 y6 y7 y8 y9 y10 y11 y12 y13 y14 y15 y16 y17 y18 y19 y20, LeO (matrix_Merge.j4 k y0 y1 y2 y3 y4 y5 y6 y7 y8 y9 y10 y11 y12 y13 y14 y15 y16 y17 y18 y19 y20) (matrix_Merge.j4 (k + 1) y0 y1 y2 y3 y4 y5 y6 y7 y8 y9 y10 y11 y12 y13 y14 y15 y16 y17 y18 y19 y20))
 | 0 => ⟨fun _ _ _ _ _ _ _ r h => by simp [matrix_Merge.j0] at h, fun _ _ _ _ _ _ _ r h => by simp [matrix_Merge.j1] at h, fun _ _ _ _ _ _ _ _ _ _ _ r h => by simp [matrix_Merge.l0] at h, fun _ _ _ _ _ _ _ _ _ _ _ _ _ _ _ r h => by simp [matrix_Merge.l1] at h, fun _ _ _ _ _ _ _ _ _ _ _ _ _ _ _ _ _ _ _ _ _ r h => by simp [matrix_Merge.j4] at h⟩
 | k + 1 => by
  obtain ⟨ih0, ih1, ih2, ih3, ih4⟩ := matrix_Merge.mono_l k
  refine ⟨?_, ?_, ?_, ?_, ?_⟩
  ·intro y0 y1 y2 y3 y4 y5 y6
   unfold matrix_Merge.j0
   repeat' first
   | (with_reducible exact ih0 _ _ _ _ _ _ _)
   | (with_reducible exact ih1 _ _ _ _ _ _ _)
   | (with_reducible exact ih2 _ _ _ _ _ _ _ _ _ _ _)
   | (with_reducible exact ih3 _ _ _ _ _ _ _ _ _ _ _ _ _ _ _)
   | (with_reducible exact ih4 _ _ _ _ _ _ _ _ _ _ _ _ _ _ _ _ _ _ _ _ _)
   | (with_reducible exact matrix_cell.mono _ _ _ _ _ _)
   | (with_reducible exact matrix_merged_int.mono _ _ _)
   | (with_reducible exact matrix_rising_int.mono _ _ _)
   | (with_reducible exact matrix_shape.mono _ _ _ _)
   | (with_reducible exact LeO.refl _)
   | (with_reducible exact LeO.none _)
   | (with_reducible refine LeO.ite ?_ ?_)
   | (with_reducible refine LeO.bind ?_ (fun _ => ?_))
   | exact ih0 _ _ _ _ _ _ _
   | exact ih1 _ _ _ _ _ _ _
   | exact ih2 _ _ _ _ _ _ _ _ _ _ _
   | exact ih3 _ _ _ _ _ _ _ _ _ _ _ _ _ _ _
   | exact ih4 _ _ _ _ _ _ _ _ _ _ _ _ _ _ _ _ _ _ _ _ _
   | exact matrix_cell.mono _ _ _ _ _ _
   | exact matrix_merged_int.mono _ _ _
   | exact matrix_rising_int.mono _ _ _
   | exact matrix_shape.mono _ _ _ _
   | exact LeO.none _
   | refine LeO.ite ?_ ?_
   | refine LeO.bind ?_ (fun _ => ?_)
  ·intro y0 y1 y2 y3 y4 y5 y6
   unfold matrix_Merge.j1
   repeat' first
   | (with_reducible exact ih0 _ _ _ _ _ _ _)
   | (with_reducible exact ih1 _ _ _ _ _ _ _)
   | (with_reducible exact ih2 _ _ _ _ _ _ _ _ _ _ _)
   | (with_reducible exact ih3 _ _ _ _ _ _ _ _ _ _ _ _ _ _ _)
   | (with_reducible exact ih4 _ _ _ _ _ _ _ _ _ _ _ _ _ _ _ _ _ _ _ _ _)
   | (with_reducible exact matrix_cell.mono _ _ _ _ _ _)
   | (with_reducible exact matrix_merged_int.mono _ _ _)
   | (with_reducible exact matrix_rising_int.mono _ _ _)
   | (with_reducible exact matrix_shape.mono _ _ _ _)
   | (with_reducible exact LeO.refl _)
   | (with_reducible exact LeO.none _)
   | (with_reducible refine LeO.ite ?_ ?_)
   | (with_reducible refine LeO.bind ?_ (fun _ => ?_))
   | exact ih0 _ _ _ _ _ _ _
   | exact ih1 _ _ _ _ _ _ _
   | exact ih2 _ _ _ _ _ _ _ _ _ _ _
   | exact ih3 _ _ _ _ _ _ _ _ _ _ _ _ _ _ _
   | exact ih4 _ _ _ _ _ _ _ _ _ _ _ _ _ _ _ _ _ _ _ _ _
   | exact matrix_cell.mono _ _ _ _ _ _
   | exact matrix_merged_int.mono _ _ _
   | exact matrix_rising_int.mono _ _ _
   | exact matrix_shape.mono _ _ _ _
   | exact LeO.none _
   | refine LeO.ite ?_ ?_
   | refine LeO.bind ?_ (fun _ => ?_)
  ·intro y0 y1 y2 y3 y4 y5 y6 y7 y8 y9 y10
   unfold matrix_Merge.l0
   repeat' first
   | (with_reducible exact ih0 _ _ _ _ _ _ _)
   | (with_reducible exact ih1 _ _ _ _ _ _ _)
   | (with_reducible exact ih2 _ _ _ _ _ _ _ _ _ _ _)
   | (with_reducible exact ih3 _ _ _ _ _ _ _ _ _ _ _ _ _ _ _)
   | (with_reducible exact ih4 _ _ _ _ _ _ _ _ _ _ _ _ _ _ _ _ _ _ _ _ _)
   | (with_reducible exact matrix_cell.mono _ _ _ _ _ _)
   | (with_reducible exact matrix_merged_int.mono _ _ _)
   | (with_reducible exact matrix_rising_int.mono _ _ _)
   | (with_reducible exact matrix_shape.mono _ _ _ _)
   | (with_reducible exact LeO.refl _)
   | (with_reducible exact LeO.none _)
   | (with_reducible refine LeO.ite ?_ ?_)
   | (with_reducible refine LeO.bind ?_ (fun _ => ?_))
   | exact ih0 _ _ _ _ _ _ _
   | exact ih1 _ _ _ _ _ _ _
   | exact ih2 _ _ _ _ _ _ _ _ _ _ _
   | exact ih3 _ _ _ _ _ _ _ _ _ _ _ _ _ _ _
   | exact ih4 _ _ _ _ _ _ _ _ _ _ _ _ _ _ _ _ _ _ _ _ _
   | exact matrix_cell.mono _ _ _ _ _ _
   | exact matrix_merged_int.mono _ _ _
   | exact matrix_rising_int.mono _ _ _
   | exact matrix_shape.mono _ _ _ _
   | exact LeO.none _
   | refine LeO.ite ?_ ?_
   | refine LeO.bind ?_ (fun _ => ?_)
  ·intro y0 y1 y2 y3 y4 y5 y6 y7 y8 y9 y10 y11 y12 y13 y14
   unfold matrix_Merge.l1
   repeat' first
   | (with_reducible exact ih0 _ _ _ _ _ _ _)
   | (with_reducible exact ih1 _ _ _ _ _ _ _)
   | (with_reducible exact ih2 _ _ _ _ _ _ _ _ _ _ _)
   | (with_reducible exact ih3 _ _ _ _ _ _ _ _ _ _ _ _ _ _ _)
   | (with_reducible exact ih4 _ _ _ _ _ _ _ _ _ _ _ _ _ _ _ _ _ _ _ _ _)
   | (with_reducible exact matrix_cell.mono _ _ _ _ _ _)
   | (with_reducible exact matrix_merged_int.mono _ _ _)
   | (with_reducible exact matrix_rising_int.mono _ _ _)
   | (with_reducible exact matrix_shape.mono _ _ _ _)
   | (with_reducible exact LeO.refl _)
   | (with_reducible exact LeO.none _)
   | (with_reducible refine LeO.ite ?_ ?_)
   | (with_reducible refine LeO.bind ?_ (fun _ => ?_))
   | exact ih0 _ _ _ _ _ _ _
   | exact ih1 _ _ _ _ _ _ _
   | exact ih2 _ _ _ _ _ _ _ _ _ _ _
   | exact ih3 _ _ _ _ _ _ _ _ _ _ _ _ _ _ _
   | exact ih4 _ _ _ _ _ _ _ _ _ _ _ _ _ _ _ _ _ _ _ _ _
   | exact matrix_cell.mono _ _ _ _ _ _
   | exact matrix_merged_int.mono _ _ _
   | exact matrix_rising_int.mono _ _ _
   | exact matrix_shape.mono _ _ _ _
   | exact LeO.none _
   | refine LeO.ite ?_ ?_
   | refine LeO.bind ?_ (fun _ => ?_)
  ·intro y0 y1 y2 y3 y4 y5 y6 y7 y8 y9 y10 y11 y12 y13 y14 y15 y16 y17 y18 y19 y20
   unfold matrix_Merge.j4
   repeat' first
   | (with_reducible exact ih0 _ _ _ _ _ _ _)
   | (with_reducible exact ih1 _ _ _ _ _ _ _)
   | (with_reducible exact ih2 _ _ _ _ _ _ _ _ _ _ _)
   | (with_reducible exact ih3 _ _ _ _ _ _ _ _ _ _ _ _ _ _ _)
   | (with_reducible exact ih4 _ _ _ _ _ _ _ _ _ _ _ _ _ _ _ _ _ _ _ _ _)
   | (with_reducible exact matrix_cell.mono _ _ _ _ _ _)
   | (with_reducible exact matrix_merged_int.mono _ _ _)
   | (with_reducible exact matrix_rising_int.mono _ _ _)
   | (with_reducible exact matrix_shape.mono _ _ _ _)
   | (with_reducible exact LeO.refl _)
   | (with_reducible exact LeO.none _)
   | (with_reducible refine LeO.ite ?_ ?_)
   | (with_reducible refine LeO.bind ?_ (fun _ => ?_))
   | exact ih0 _ _ _ _ _ _ _
   | exact ih1 _ _ _ _ _ _ _
   | exact ih2 _ _ _ _ _ _ _ _ _ _ _
   | exact ih3 _ _ _ _ _ _ _ _ _ _ _ _ _ _ _
   | exact ih4 _ _ _ _ _ _ _ _ _ _ _ _ _ _ _ _ _ _ _ _ _
   | exact matrix_cell.mono _ _ _ _ _ _
   | exact matrix_merged_int.mono _ _ _
   | exact matrix_rising_int.mono _ _ _
   | exact matrix_shape.mono _ _ _ _
   | exact LeO.none _
   | refine LeO.ite ?_ ?_
   | refine LeO.bind ?_ (fun _ => ?_)
theorem matrix_Merge.mono : ∀ a0 a1 a2 a3 a4 a5 k, LeO (matrix_Merge.f k a0 a1 a2 a3 a4 a5) (matrix_Merge.f (k + 1) a0 a1 a2 a3 a4 a5) := by
 intro a0 a1 a2 a3 a4 a5 k
 obtain ⟨ih0, ih1, ih2, ih3, ih4⟩ := matrix_Merge.mono_l k
 unfold matrix_Merge.f
 repeat' first
   | (with_reducible exact ih0 _ _ _ _ _ _ _)
   | (with_reducible exact ih1 _ _ _ _ _ _ _)
   | (with_reducible exact ih2 _ _ _ _ _ _ _ _ _ _ _)
   | (with_reducible exact ih3 _ _ _ _ _ _ _ _ _ _ _ _ _ _ _)
   | (with_reducible exact ih4 _ _ _ _ _ _ _ _ _ _ _ _ _ _ _ _ _ _ _ _ _)
   | (with_reducible exact matrix_cell.mono _ _ _ _ _ _)
   | (with_reducible exact matrix_merged_int.mono _ _ _)
   | (with_reducible exact matrix_rising_int.mono _ _ _)
   | (with_reducible exact matrix_shape.mono _ _ _ _)
   | (with_reducible exact LeO.refl _)
   | (with_reducible exact LeO.none _)
   | (with_reducible refine LeO.ite ?_ ?_)
   | (with_reducible refine LeO.bind ?_ (fun _ => ?_))
   | exact ih0 _ _ _ _ _ _ _
   | exact ih1 _ _ _ _ _ _ _
   | exact ih2 _ _ _ _ _ _ _ _ _ _ _
   | exact ih3 _ _ _ _ _ _ _ _ _ _ _ _ _ _ _
   | exact ih4 _ _ _ _ _ _ _ _ _ _ _ _ _ _ _ _ _ _ _ _ _
   | exact matrix_cell.mono _ _ _ _ _ _
   | exact matrix_merged_int.mono _ _ _
   | exact matrix_rising_int.mono _ _ _
   | exact matrix_shape.mono _ _ _ _
   | exact LeO.none _
   | refine LeO.ite ?_ ?_
   | refine LeO.bind ?_ (fun _ => ?_)
def matrix_Merge.T5 : Bool × List (List Nat × List Nat) := (true, [([], []), ([0], [0]), ([], []), ([2], [2]), ([1, 3], [1, 3]), ([], []), ([5], [5]), ([], []), ([7], [7]), ([6, 8, 4], [6, 8]), ([4, 9], [4, 9]), ([], []), ([11, 10, 9, 0, 1, 2, 3, 4, 5, 6, 7, 8, 9, 10, 11], [10, 11])])
def matrix_Merge.B5 : List Nat := [0, 1, 0, 4, 15, 0, 32, 0, 128, 511, 1023, 0, 4095]
theorem matrix_Merge.tab5 : rtab .any (opsOf Try.f19 5) = matrix_Merge.T5 := by kernel_rfl
theorem matrix_Merge.bits5 : waitsOk matrix_Merge.T5.2 matrix_Merge.B5 = true := by kernel_rfl
set_option maxHeartbeats 8000000 in
set_option maxRecDepth 100000 in
theorem matrix_Merge.calls (k : Nat) (A0_0 : Option Addr) (c0_0 : Nat) (l0_0 : List Int) (A0_1 : Option Addr) (c0_1 : Nat) (l0_1 : List Int) (A0_2 : Option Addr) (c0_2 : Nat) (l0_2 : List (List Int)) (A1_0 : Option Addr) (c1_0 : Nat) (l1_0 : List Int) (A1_1 : Option Addr) (c1_1 : Nat) (l1_1 : List Int) (A1_2 : Option Addr) (c1_2 : Nat) (l1_2 : List (List Int)) (r1 : List Int) (r2 : List Int) (r3 : List (List Int)) (r4 : Int) (w : World) (hr0_0 : Kd.C (Kd.int .i64) w A0_0 l0_0.length l0_0) (hc0_0 : l0_0.length ≤ c0_0) (hr0_1 : Kd.C (Kd.int .i64) w A0_1 l0_1.length l0_1) (hc0_1 : l0_1.length ≤ c0_1) (hr0_2 : Kd.C (Kd.slice 3 (Kd.int .i64)) w A0_2 l0_2.length l0_2) (hc0_2 : l0_2.length ≤ c0_2) (hr1_0 : Kd.C (Kd.int .i64) w A1_0 l1_0.length l1_0) (hc1_0 : l1_0.length ≤ c1_0) (hr1_1 : Kd.C (Kd.int .i64) w A1_1 l1_1.length l1_1) (hc1_1 : l1_1.length ≤ c1_1) (hr1_2 : Kd.C (Kd.slice 3 (Kd.int .i64)) w A1_2 l1_2.length l1_2) (hc1_2 : l1_2.length ≤ c1_2) (h : matrix_Merge.f k l0_0 l0_1 l0_2 l1_0 l1_1 l1_2 = some (r1, r2, r3, r4)) :
  Calls Try.prog 19 #[.agg #[.slice A0_0 l0_0.length c0_0, .slice A0_1 l0_1.length c0_1, .slice A0_2 l0_2.length c0_2], .agg #[.slice A1_0 l1_0.length c1_0, .slice A1_1 l1_1.length c1_1, .slice A1_2 l1_2.length c1_2]] w fun e w' => ∃ v0_ v1_ v2_ : Value, e = .returned (.tuple #[.agg #[v0_, v1_, v2_], .int .i64 r4]) ∧ Kd.R (Kd.int .i64) 3 w' w.heap.size (fun k_ => some k_ ≠ (v1_ : Value).ownBlock) v0_ r1 ∧ Kd.R (Kd.int .i64) 3 w' w.heap.size (fun k_ => some k_ ≠ (v0_ : Value).ownBlock) v1_ r2 ∧ Kd.S (Kd.slice 3 (Kd.int .i64)) 36 w' w.heap.size (fun k_ => some k_ ≠ (v0_ : Value).ownBlock ∧ some k_ ≠ (v1_ : Value).ownBlock) v2_ r3 ∧ Below w.heap.size w w' := by
 have hu39 := Try.underlying39
 have HR0_0 := Am hr0_0
 have HC0_0 := Am hc0_0
 clear hr0_0 hc0_0
 have HR0_1 := Am hr0_1
 have HC0_1 := Am hc0_1
 clear hr0_1 hc0_1
 have HR0_2 := Am hr0_2
 have HC0_2 := Am hc0_2
 clear hr0_2 hc0_2
 have HR1_0 := Am hr1_0
 have HC1_0 := Am hc1_0
 clear hr1_0 hc1_0
 have HR1_1 := Am hr1_1
 have HC1_1 := Am hc1_1
 clear hr1_1 hc1_1
 have HR1_2 := Am hr1_2
 have HC1_2 := Am hc1_2
 clear hr1_2 hc1_2
 have HB := Am (Below.refl w.heap.size w)
 have H : ((matrix_shape.f k l0_0 l0_1 l0_2).bind fun t199 => (if t199 = true then ((matrix_shape.f k l1_0 l1_1 l1_2).bind fun t200 => (matrix_Merge.j0 k (!t200) l0_0 l0_1 l0_2 l1_0 l1_1 l1_2)) else (matrix_Merge.j0 k true l0_0 l0_1 l0_2 l1_0 l1_1 l1_2))) = some (r1, r2, r3, r4) := h
 clear h
 have HC3 := Am H
 clear H
 go_enter Try.func19, Try.ntmps19
 go_upto_region 1 with (first | ((with_reducible refine gate_dst (N := 2) rfl ?_); (try (refine gate_guard (by rfl) ?_; dsimp only)); refine box_event ?hg (N := 2) ?hd (cs := #[.slice A0_0 l0_0.length c0_0, .slice A0_1 l0_1.length c0_1, .slice A0_2 l0_2.length c0_2]) (t := 39) ?hr ?_; (case hd => rfl); (case hg => rfl); (case hr => first | (go_simp; done) | (go_simp; rfl)); intro gb196 hg w4 hbox hb; have n0_ := Am (below_step (Bl HB) hb); have n1_ := Am (hbox); have n2_ := Am ((by rw [hg]; exact (below_size (Bl HB)) : w.heap.size ≤ gb196)); have n3_ := Am ((by rw [hg]; exact (below_size (Bl HB)) : w.heap.size ≤ gb196)); clear HB; have HB := n0_; have BK196 := n1_; have GW196 := n2_; have GE196 := n3_; clear n0_ n1_ n2_ n3_; clear hb hbox hg) | ((with_reducible refine gate_dst (N := 3) rfl ?_); (try (refine gate_guard (by rfl) ?_; dsimp only)); refine box_event ?hg (N := 3) ?hd (cs := #[.slice A1_0 l1_0.length c1_0, .slice A1_1 l1_1.length c1_1, .slice A1_2 l1_2.length c1_2]) (t := 39) ?hr ?_; (case hd => rfl); (case hg => rfl); (case hr => first | (go_simp; done) | (go_simp; rfl)); intro gb197 hg w5 hbox hb; have n0_ := Am (blk_below (Kl BK196) hb); have n1_ := Am (below_step (by repeat first | exact Bl HB | refine Bp (below_set ?_ GE196.out)) hb); have n2_ := Am (hbox); have n3_ := Am ((by rw [hg]; exact (below_size (by repeat first | exact Bl HB | refine Bp (below_set ?_ GE196.out))) : w.heap.size ≤ gb197)); have n4_ := Am ((by rw [hg]; exact (below_size (by repeat first | exact Bl HB | refine Bp (below_set ?_ GE196.out))) : w.heap.size ≤ gb197)); have n5_ := Am ((by rw [hg]; exact Nat.ne_of_lt (blk_lt (Kl BK196)) : gb196 ≠ gb197)); have n6_ := Am ((by rw [hg]; exact Nat.ne_of_gt (blk_lt (Kl BK196)) : gb197 ≠ gb196)); clear BK196 HB; have BK196 := n0_; have HB := n1_; have BK197 := n2_; have GW197 := n3_; have GE197 := n4_; have NB196_197 := n5_; have NB197_196 := n6_; clear n0_ n1_ n2_ n3_ n4_ n5_ n6_; clear hb hbox hg) | ((with_reducible refine gate_dst (N := 4) rfl ?_); (try (refine gate_guard (by rfl) ?_; dsimp only)); refine box_event ?hg (N := 4) ?hd (cs := #[.slice none 0 0, .slice none 0 0, .slice none 0 0]) (t := 39) ?hr ?_; (case hd => rfl); (case hg => rfl); (case hr => first | (go_simp; done) | (go_simp; rfl)); intro gb198 hg w6 hbox hb; have n0_ := Am (blk_below (Kl BK196) hb); have n1_ := Am (blk_below (Kl BK197) hb); have n2_ := Am (below_step (by repeat first | exact Bl HB | refine Bp (below_set ?_ GE196.out) | refine Bp (below_set ?_ GE197.out)) hb); have n3_ := Am (hbox); have n4_ := Am ((by rw [hg]; exact (below_size (by repeat first | exact Bl HB | refine Bp (below_set ?_ GE196.out) | refine Bp (below_set ?_ GE197.out))) : w.heap.size ≤ gb198)); have n5_ := Am ((by rw [hg]; exact (below_size (by repeat first | exact Bl HB | refine Bp (below_set ?_ GE196.out) | refine Bp (below_set ?_ GE197.out))) : w.heap.size ≤ gb198)); have n6_ := Am ((by rw [hg]; exact Nat.ne_of_lt (blk_lt (Kl BK196)) : gb196 ≠ gb198)); have n7_ := Am ((by rw [hg]; exact Nat.ne_of_gt (blk_lt (Kl BK196)) : gb198 ≠ gb196)); have n8_ := Am ((by rw [hg]; exact Nat.ne_of_lt (blk_lt (Kl BK197)) : gb197 ≠ gb198)); have n9_ := Am ((by rw [hg]; exact Nat.ne_of_gt (blk_lt (Kl BK197)) : gb198 ≠ gb197)); clear BK196 BK197 HB; have BK196 := n0_; have BK197 := n1_; have HB := n2_; have BK198 := n3_; have GW198 := n4_; have GE198 := n5_; have NB196_198 := n6_; have NB198_196 := n7_; have NB197_198 := n8_; have NB198_197 := n9_; clear n0_ n1_ n2_ n3_ n4_ n5_ n6_ n7_ n8_ n9_; clear hb hbox hg))
 (try simp only [Act.put, List.setIfInBounds_toArray, List.set_cons_zero, List.set_cons_succ])
 go_cut [23] (fun v23 wc => ∃ (kq : Nat) (x23_2 : Bool), v23 = .bool x23_2 ∧ Aside0 (matrix_Merge.j0 kq x23_2 l0_0 l0_1 l0_2 l1_0 l1_1 l1_2 = some (r1, r2, r3, r4)) ∧ Aside0 (kq ≤ k) ∧ Aside0 (wc.heap[gb196]? = some (.cells #[(.slice A0_0 l0_0.length c0_0), (.slice A0_1 l0_1.length c0_1), (.slice A0_2 l0_2.length c0_2)] 39 (0, 0))) ∧ Aside0 (wc.heap[gb197]? = some (.cells #[(.slice A1_0 l1_0.length c1_0), (.slice A1_1 l1_1.length c1_1), (.slice A1_2 l1_2.length c1_2)] 39 (0, 0))) ∧ Aside0 (wc.heap[gb198]? = some (.cells #[(.slice none 0 0), (.slice none 0 0), (.slice none 0 0)] 39 (0, 0))) ∧ Aside0 (Below w.heap.size w wc))
 case first =>
  have H := HC3.out
  clear HC3
  replace H := Option.bind_eq_some_iff.mp H
  obtain ⟨t199, A70, H⟩ := H
  replace H : (if t199 = true then ((matrix_shape.f k l1_0 l1_1 l1_2).bind fun t200 => (matrix_Merge.j0 k (!t200) l0_0 l0_1 l0_2 l1_0 l1_1 l1_2)) else (matrix_Merge.j0 k true l0_0 l0_1 l0_2 l1_0 l1_1 l1_2)) = some (r1, r2, r3, r4) := H
  have A7 := Am A70
  clear A70
  by_cases c8 : t199 = true
  ·subst c8
   have H1 : ((matrix_shape.f k l1_0 l1_1 l1_2).bind fun t200 => (matrix_Merge.j0 k (!t200) l0_0 l0_1 l0_2 l1_0 l1_1 l1_2)) = some (r1, r2, r3, r4) := by rw [if_pos rfl] at H; exact H
   clear H
   have H := H1
   clear H1
   replace H := Option.bind_eq_some_iff.mp H
   obtain ⟨t200, A90, H⟩ := H
   replace H : (matrix_Merge.j0 k (!t200) l0_0 l0_1 l0_2 l1_0 l1_1 l1_2) = some (r1, r2, r3, r4) := H
   have A9 := Am A90
   clear A90
   have H' := Am H
   clear H
   have hnb10 := NB196_197.out
   have hnc10 := NB197_196.out
   have hnb11 := NB196_198.out
   have hnc11 := NB198_196.out
   have hcz12_0 : w6.cell? ⟨gb196, 0, none⟩ = some (.slice A0_0 l0_0.length c0_0) := (blk_cell BK196.out 0).trans rfl
   have hcz12_1 : w6.cell? ⟨gb196, 1, none⟩ = some (.slice A0_1 l0_1.length c0_1) := (blk_cell BK196.out 1).trans rfl
   have hcz12_2 : w6.cell? ⟨gb196, 2, none⟩ = some (.slice A0_2 l0_2.length c0_2) := (blk_cell BK196.out 2).trans rfl
   have hfz12_0 := blk_frozen BK196.out 0
   have hfz12_1 := blk_frozen BK196.out 1
   have hfz12_2 := blk_frozen BK196.out 2
   go_wp2_with (first | ((with_reducible refine gate_callee (f := 33) rfl ?_); refine goesL_ (some 17) rfl rfl Try.func33 (by kernel_rfl) rfl #[.agg #[.slice A0_0 l0_0.length c0_0, .slice A0_1 l0_1.length c0_1, .slice A0_2 l0_2.length c0_2]] rfl (by (try simp only [List.map_toArray, List.map_cons, List.map_nil]); first | done | rfl | (simp only [List.length_drop, List.length_take]; rfl)) ?_; (with_reducible refine (matrix_shape.calls k _ _ l0_0 _ _ l0_1 _ _ l0_2 true _ ?side1 ?side2 ?side3 ?side4 ?side5 ?side6 A7.out).mono ?_); (case side1 => repeat (first | exact (Kd.C_below HR0_0.out HB.out) | (with_reducible refine Kd.C_alloc ?_ _) | (with_reducible refine Kd.C_drewN ?_ _) | (with_reducible refine Kd.C_drew ?_))); (case side2 => exact HC0_0.out); (case side3 => repeat (first | exact (Kd.C_below HR0_1.out HB.out) | (with_reducible refine Kd.C_alloc ?_ _) | (with_reducible refine Kd.C_drewN ?_ _) | (with_reducible refine Kd.C_drew ?_))); (case side4 => exact HC0_1.out); (case side5 => repeat (first | exact (Kd.C_below HR0_2.out HB.out) | (with_reducible refine Kd.C_alloc ?_ _) | (with_reducible refine Kd.C_drewN ?_ _) | (with_reducible refine Kd.C_drew ?_))); (case side6 => exact HC0_2.out); rintro e w13 ⟨rfl, hb⟩; refine ⟨_, rfl, ?_⟩; have n0_ := Am (blk_below (Kl BK196) hb); have n1_ := Am (blk_below (Kl BK197) hb); have n2_ := Am (blk_below (Kl BK198) hb); have n3_ := Am (below_step (by repeat first | exact Bl HB | refine Bp (below_set ?_ GE196.out) | refine Bp (below_set ?_ GE197.out) | refine Bp (below_set ?_ GE198.out)) hb); clear BK196 BK197 BK198 HB; have BK196 := n0_; have BK197 := n1_; have BK198 := n2_; have HB := n3_; clear n0_ n1_ n2_ n3_; (try clear hb); (try clear hb2); (try clear hk); (try clear hi); have hnb14 := NB197_198.out; have hnc14 := NB198_197.out; have hcz15_0 : w13.cell? ⟨gb197, 0, none⟩ = some (.slice A1_0 l1_0.length c1_0) := (blk_cell BK197.out 0).trans rfl; have hcz15_1 : w13.cell? ⟨gb197, 1, none⟩ = some (.slice A1_1 l1_1.length c1_1) := (blk_cell BK197.out 1).trans rfl; have hcz15_2 : w13.cell? ⟨gb197, 2, none⟩ = some (.slice A1_2 l1_2.length c1_2) := (blk_cell BK197.out 2).trans rfl; have hfz15_0 := blk_frozen BK197.out 0; have hfz15_1 := blk_frozen BK197.out 1; have hfz15_2 := blk_frozen BK197.out 2) | (go_at_call 33; (with_reducible refine (matrix_shape.calls k _ _ l1_0 _ _ l1_1 _ _ l1_2 t200 _ ?side1 ?side2 ?side3 ?side4 ?side5 ?side6 A9.out).mono ?_); (case side1 => repeat (first | exact (Kd.C_below HR1_0.out HB.out) | (with_reducible refine Kd.C_alloc ?_ _) | (with_reducible refine Kd.C_drewN ?_ _) | (with_reducible refine Kd.C_drew ?_))); (case side2 => exact HC1_0.out); (case side3 => repeat (first | exact (Kd.C_below HR1_1.out HB.out) | (with_reducible refine Kd.C_alloc ?_ _) | (with_reducible refine Kd.C_drewN ?_ _) | (with_reducible refine Kd.C_drew ?_))); (case side4 => exact HC1_1.out); (case side5 => repeat (first | exact (Kd.C_below HR1_2.out HB.out) | (with_reducible refine Kd.C_alloc ?_ _) | (with_reducible refine Kd.C_drewN ?_ _) | (with_reducible refine Kd.C_drew ?_))); (case side6 => exact HC1_2.out); rintro e w16 ⟨rfl, hb⟩; have n0_ := Am (blk_below (Kl BK196) hb); have n1_ := Am (blk_below (Kl BK197) hb); have n2_ := Am (blk_below (Kl BK198) hb); have n3_ := Am (below_step (by repeat first | exact Bl HB | refine Bp (below_set ?_ GE196.out) | refine Bp (below_set ?_ GE197.out) | refine Bp (below_set ?_ GE198.out)) hb); clear BK196 BK197 BK198 HB; have BK196 := n0_; have BK197 := n1_; have BK198 := n2_; have HB := n3_; clear n0_ n1_ n2_ n3_; (try clear hb); (try clear hb2); (try clear hk); (try clear hi)))
   go_meet
   case rel => exact ⟨_, (!t200), (by first | rfl | (simp; done) | (simp [*]; done)), H', ⟨by first | omega | exact Nat.le_refl _⟩, ⟨Kl BK196⟩, ⟨Kl BK197⟩, ⟨Kl BK198⟩, ⟨by repeat first | exact Bl HB | refine Bp (below_set ?_ GE196.out) | refine Bp (below_set ?_ GE197.out) | refine Bp (below_set ?_ GE198.out)⟩⟩
  ·replace c8 := Bool.eq_false_iff.mpr c8
   subst c8
   have H1 : (matrix_Merge.j0 k true l0_0 l0_1 l0_2 l1_0 l1_1 l1_2) = some (r1, r2, r3, r4) := by rw [if_neg (show ¬ (false = true) by decide)] at H; exact H
   clear H
   have H := H1
   clear H1
   have H' := Am H
   clear H
   have hnb17 := NB196_197.out
   have hnc17 := NB197_196.out
   have hnb18 := NB196_198.out
   have hnc18 := NB198_196.out
   have hcz19_0 : w6.cell? ⟨gb196, 0, none⟩ = some (.slice A0_0 l0_0.length c0_0) := (blk_cell BK196.out 0).trans rfl
   have hcz19_1 : w6.cell? ⟨gb196, 1, none⟩ = some (.slice A0_1 l0_1.length c0_1) := (blk_cell BK196.out 1).trans rfl
   have hcz19_2 : w6.cell? ⟨gb196, 2, none⟩ = some (.slice A0_2 l0_2.length c0_2) := (blk_cell BK196.out 2).trans rfl
   have hfz19_0 := blk_frozen BK196.out 0
   have hfz19_1 := blk_frozen BK196.out 1
   have hfz19_2 := blk_frozen BK196.out 2
   go_wp2_with (first | ((with_reducible refine gate_callee (f := 33) rfl ?_); refine goesL_ (some 17) rfl rfl Try.func33 (by kernel_rfl) rfl #[.agg #[.slice A0_0 l0_0.length c0_0, .slice A0_1 l0_1.length c0_1, .slice A0_2 l0_2.length c0_2]] rfl (by (try simp only [List.map_toArray, List.map_cons, List.map_nil]); first | done | rfl | (simp only [List.length_drop, List.length_take]; rfl)) ?_; (with_reducible refine (matrix_shape.calls k _ _ l0_0 _ _ l0_1 _ _ l0_2 false _ ?side1 ?side2 ?side3 ?side4 ?side5 ?side6 A7.out).mono ?_); (case side1 => repeat (first | exact (Kd.C_below HR0_0.out HB.out) | (with_reducible refine Kd.C_alloc ?_ _) | (with_reducible refine Kd.C_drewN ?_ _) | (with_reducible refine Kd.C_drew ?_))); (case side2 => exact HC0_0.out); (case side3 => repeat (first | exact (Kd.C_below HR0_1.out HB.out) | (with_reducible refine Kd.C_alloc ?_ _) | (with_reducible refine Kd.C_drewN ?_ _) | (with_reducible refine Kd.C_drew ?_))); (case side4 => exact HC0_1.out); (case side5 => repeat (first | exact (Kd.C_below HR0_2.out HB.out) | (with_reducible refine Kd.C_alloc ?_ _) | (with_reducible refine Kd.C_drewN ?_ _) | (with_reducible refine Kd.C_drew ?_))); (case side6 => exact HC0_2.out); rintro e w20 ⟨rfl, hb⟩; refine ⟨_, rfl, ?_⟩; have n0_ := Am (blk_below (Kl BK196) hb); have n1_ := Am (blk_below (Kl BK197) hb); have n2_ := Am (blk_below (Kl BK198) hb); have n3_ := Am (below_step (by repeat first | exact Bl HB | refine Bp (below_set ?_ GE196.out) | refine Bp (below_set ?_ GE197.out) | refine Bp (below_set ?_ GE198.out)) hb); clear BK196 BK197 BK198 HB; have BK196 := n0_; have BK197 := n1_; have BK198 := n2_; have HB := n3_; clear n0_ n1_ n2_ n3_; (try clear hb); (try clear hb2); (try clear hk); (try clear hi)))
   go_meet
   case rel => exact ⟨_, (true), (by first | rfl | (simp; done) | (simp [*]; done)), H', ⟨by first | omega | exact Nat.le_refl _⟩, ⟨Kl BK196⟩, ⟨Kl BK197⟩, ⟨Kl BK198⟩, ⟨by repeat first | exact Bl HB | refine Bp (below_set ?_ GE196.out) | refine Bp (below_set ?_ GE197.out) | refine Bp (below_set ?_ GE198.out)⟩⟩
 case rest =>
  clear HC3
  try clear c1
  try clear p2
  try clear c3
  try clear c8
  try clear c10
  try clear c11
  try clear c14
  try clear c17
  try clear c18
  try clear c19
  try clear hcz12_0
  try clear hcz12_1
  try clear hcz12_2
  try clear hcz15_0
  try clear hcz15_1
  try clear hcz15_2
  try clear hcz19_0
  try clear hcz19_1
  try clear hcz19_2
  try clear hfz12_0
  try clear hfz12_1
  try clear hfz12_2
  try clear hfz15_0
  try clear hfz15_1
  try clear hfz15_2
  try clear hfz19_0
  try clear hfz19_1
  try clear hfz19_2
  obtain ⟨kq, x23_2, rfl, HA, HJ2, BK196, BK197, BK198, HB⟩ := hcut
  cases kq with
  | zero => exact absurd HA.out (by simp [matrix_Merge.j0])
  | succ kj2 =>
   have H := HA.out
   clear HA
   simp only [matrix_Merge.j0] at H
   by_cases c21 : x23_2 = true
   ·subst c21
    have H1 : (some (([] : List Int), ([] : List Int), ([] : List (List Int)), 1)) = some (r1, r2, r3, r4) := by rw [if_pos rfl] at H; exact H
    clear H
    have H := H1
    clear H1
    simp only [Option.some.injEq, Prod.mk.injEq] at H
    obtain ⟨rfl, rfl, rfl, rfl⟩ := H
    have hnb22 := NB198_196.out
    have hnc22 := NB196_198.out
    have hnb23 := NB198_197.out
    have hnc23 := NB197_198.out
    have hcz24_0 : wc.cell? ⟨gb198, 0, none⟩ = some (.slice none 0 0) := (blk_cell BK198.out 0).trans rfl
    have hcz24_1 : wc.cell? ⟨gb198, 1, none⟩ = some (.slice none 0 0) := (blk_cell BK198.out 1).trans rfl
    have hcz24_2 : wc.cell? ⟨gb198, 2, none⟩ = some (.slice none 0 0) := (blk_cell BK198.out 2).trans rfl
    have hfz24_0 := blk_frozen BK198.out 0
    have hfz24_1 := blk_frozen BK198.out 1
    have hfz24_2 := blk_frozen BK198.out 2
    go_wp2
    refine bodyPost_ret (results_ct rfl _ _ gb198 39 #[.slice none 0 0, .slice none 0 0, .slice none 0 0] (0, 0) _ rfl (by refine Kp ?_; refine blk_put (cs := #[.slice none 0 0, .slice none 0 0, .slice none 0 0]) ?_ 2 _ rfl; refine Kp ?_; refine blk_put (cs := #[.slice none 0 0, .slice none 0 0, .slice none 0 0]) ?_ 1 _ rfl; refine Kp ?_; refine blk_put (cs := #[.slice none 0 0, .slice none 0 0, .slice none 0 0]) ?_ 0 _ rfl; refine Kp ?_; exact BK198.out) Try.underlying39 rfl (by kernel_rfl)) rfl ?_
    exact ⟨_, _, _, by first | rfl | (simp [errW_none, errW_some] <;> rfl) | (simp [*, errW_none, errW_some] <;> rfl), by first | exact Kd.R_nil _ _ _ _ _ | exact Kd.N_nil _ _ _ _ _ | exact Kd.V_nil _ _ _ _ _ | exact Kd.Q_nil _ _ _ _ _ | exact Kd.S_nil _ _ _ _ _, by first | exact Kd.R_nil _ _ _ _ _ | exact Kd.N_nil _ _ _ _ _ | exact Kd.V_nil _ _ _ _ _ | exact Kd.Q_nil _ _ _ _ _ | exact Kd.S_nil _ _ _ _ _, by first | exact Kd.S_nil _ _ _ _ _ | exact Kd.N_nil _ _ _ _ _ | exact Kd.V_nil _ _ _ _ _ | exact Kd.Q_nil _ _ _ _ _ | exact Kd.R_nil _ _ _ _ _, by repeat first | exact Bl HB | refine Bp (below_set ?_ GE196.out) | refine Bp (below_set ?_ GE197.out) | refine Bp (below_set ?_ GE198.out)⟩
   ·replace c21 := Bool.eq_false_iff.mpr c21
    subst c21
    have H1 : ((matrix_rising_int.f kj2 l0_0 1).bind fun t201 => (if t201 = true then ((matrix_rising_int.f kj2 l0_1 1).bind fun t202 => (if t202 = true then ((matrix_rising_int.f kj2 l1_0 1).bind fun t203 => (if t203 = true then ((matrix_rising_int.f kj2 l1_1 1).bind fun t204 => (matrix_Merge.j1 kj2 (!t204) l0_0 l0_1 l0_2 l1_0 l1_1 l1_2)) else (matrix_Merge.j1 kj2 true l0_0 l0_1 l0_2 l1_0 l1_1 l1_2))) else (matrix_Merge.j1 kj2 true l0_0 l0_1 l0_2 l1_0 l1_1 l1_2))) else (matrix_Merge.j1 kj2 true l0_0 l0_1 l0_2 l1_0 l1_1 l1_2))) = some (r1, r2, r3, r4) := by rw [if_neg (show ¬ (false = true) by decide)] at H; exact H
    clear H
    have H := H1
    clear H1
    have HC25 := Am H
    clear H
    go_upto_region 3 with (fail)
    go_cut [46] (fun v46 wc => ∃ (kq : Nat) (x46_24 : Bool), v46 = .bool x46_24 ∧ Aside0 (matrix_Merge.j1 kq x46_24 l0_0 l0_1 l0_2 l1_0 l1_1 l1_2 = some (r1, r2, r3, r4)) ∧ Aside0 (kq ≤ kj2) ∧ Aside0 (wc.heap[gb196]? = some (.cells #[(.slice A0_0 l0_0.length c0_0), (.slice A0_1 l0_1.length c0_1), (.slice A0_2 l0_2.length c0_2)] 39 (0, 0))) ∧ Aside0 (wc.heap[gb197]? = some (.cells #[(.slice A1_0 l1_0.length c1_0), (.slice A1_1 l1_1.length c1_1), (.slice A1_2 l1_2.length c1_2)] 39 (0, 0))) ∧ Aside0 (wc.heap[gb198]? = some (.cells #[(.slice none 0 0), (.slice none 0 0), (.slice none 0 0)] 39 (0, 0))) ∧ Aside0 (Below w.heap.size w wc))
    case first =>
     have H := HC25.out
     clear HC25
     replace H := Option.bind_eq_some_iff.mp H
     obtain ⟨t201, A260, H⟩ := H
     replace H : (if t201 = true then ((matrix_rising_int.f kj2 l0_1 1).bind fun t202 => (if t202 = true then ((matrix_rising_int.f kj2 l1_0 1).bind fun t203 => (if t203 = true then ((matrix_rising_int.f kj2 l1_1 1).bind fun t204 => (matrix_Merge.j1 kj2 (!t204) l0_0 l0_1 l0_2 l1_0 l1_1 l1_2)) else (matrix_Merge.j1 kj2 true l0_0 l0_1 l0_2 l1_0 l1_1 l1_2))) else (matrix_Merge.j1 kj2 true l0_0 l0_1 l0_2 l1_0 l1_1 l1_2))) else (matrix_Merge.j1 kj2 true l0_0 l0_1 l0_2 l1_0 l1_1 l1_2)) = some (r1, r2, r3, r4) := H
     have A26 := Am A260
     clear A260
     by_cases c27 : t201 = true
     ·subst c27
      have H1 : ((matrix_rising_int.f kj2 l0_1 1).bind fun t202 => (if t202 = true then ((matrix_rising_int.f kj2 l1_0 1).bind fun t203 => (if t203 = true then ((matrix_rising_int.f kj2 l1_1 1).bind fun t204 => (matrix_Merge.j1 kj2 (!t204) l0_0 l0_1 l0_2 l1_0 l1_1 l1_2)) else (matrix_Merge.j1 kj2 true l0_0 l0_1 l0_2 l1_0 l1_1 l1_2))) else (matrix_Merge.j1 kj2 true l0_0 l0_1 l0_2 l1_0 l1_1 l1_2))) = some (r1, r2, r3, r4) := by rw [if_pos rfl] at H; exact H
      clear H
      have H := H1
      clear H1
      replace H := Option.bind_eq_some_iff.mp H
      obtain ⟨t202, A280, H⟩ := H
      replace H : (if t202 = true then ((matrix_rising_int.f kj2 l1_0 1).bind fun t203 => (if t203 = true then ((matrix_rising_int.f kj2 l1_1 1).bind fun t204 => (matrix_Merge.j1 kj2 (!t204) l0_0 l0_1 l0_2 l1_0 l1_1 l1_2)) else (matrix_Merge.j1 kj2 true l0_0 l0_1 l0_2 l1_0 l1_1 l1_2))) else (matrix_Merge.j1 kj2 true l0_0 l0_1 l0_2 l1_0 l1_1 l1_2)) = some (r1, r2, r3, r4) := H
      have A28 := Am A280
      clear A280
      by_cases c29 : t202 = true
      ·subst c29
       have H1 : ((matrix_rising_int.f kj2 l1_0 1).bind fun t203 => (if t203 = true then ((matrix_rising_int.f kj2 l1_1 1).bind fun t204 => (matrix_Merge.j1 kj2 (!t204) l0_0 l0_1 l0_2 l1_0 l1_1 l1_2)) else (matrix_Merge.j1 kj2 true l0_0 l0_1 l0_2 l1_0 l1_1 l1_2))) = some (r1, r2, r3, r4) := by rw [if_pos rfl] at H; exact H
       clear H
       have H := H1
       clear H1
       replace H := Option.bind_eq_some_iff.mp H
       obtain ⟨t203, A300, H⟩ := H
       replace H : (if t203 = true then ((matrix_rising_int.f kj2 l1_1 1).bind fun t204 => (matrix_Merge.j1 kj2 (!t204) l0_0 l0_1 l0_2 l1_0 l1_1 l1_2)) else (matrix_Merge.j1 kj2 true l0_0 l0_1 l0_2 l1_0 l1_1 l1_2)) = some (r1, r2, r3, r4) := H
       have A30 := Am A300
       clear A300
       by_cases c31 : t203 = true
       ·subst c31
        have H1 : ((matrix_rising_int.f kj2 l1_1 1).bind fun t204 => (matrix_Merge.j1 kj2 (!t204) l0_0 l0_1 l0_2 l1_0 l1_1 l1_2)) = some (r1, r2, r3, r4) := by rw [if_pos rfl] at H; exact H
        clear H
        have H := H1
        clear H1
        replace H := Option.bind_eq_some_iff.mp H
        obtain ⟨t204, A320, H⟩ := H
        replace H : (matrix_Merge.j1 kj2 (!t204) l0_0 l0_1 l0_2 l1_0 l1_1 l1_2) = some (r1, r2, r3, r4) := H
        have A32 := Am A320
        clear A320
        have H' := Am H
        clear H
        have hnb33 := NB196_197.out
        have hnc33 := NB197_196.out
        have hnb34 := NB196_198.out
        have hnc34 := NB198_196.out
        have hcz35_0 : wc.cell? ⟨gb196, 0, none⟩ = some (.slice A0_0 l0_0.length c0_0) := (blk_cell BK196.out 0).trans rfl
        have hcz35_1 : wc.cell? ⟨gb196, 1, none⟩ = some (.slice A0_1 l0_1.length c0_1) := (blk_cell BK196.out 1).trans rfl
        have hcz35_2 : wc.cell? ⟨gb196, 2, none⟩ = some (.slice A0_2 l0_2.length c0_2) := (blk_cell BK196.out 2).trans rfl
        have hfz35_0 := blk_frozen BK196.out 0
        have hfz35_1 := blk_frozen BK196.out 1
        have hfz35_2 := blk_frozen BK196.out 2
        go_wp2_with (first | ((with_reducible refine gate_callee (f := 32) rfl ?_); refine goesL_ (some 27) rfl rfl Try.func32 (by kernel_rfl) rfl #[.slice A0_0 l0_0.length c0_0, .int .i64 1] rfl (by (try simp only [List.map_toArray, List.map_cons, List.map_nil]); first | done | rfl | (simp only [List.length_drop, List.length_take]; rfl)) ?_; (with_reducible refine (matrix_rising_int.calls kj2 _ _ l0_0 1 true _ ?side1 ?side2 A26.out).mono ?_); (case side1 => repeat (first | exact (Kd.C_below HR0_0.out HB.out) | (with_reducible refine Kd.C_alloc ?_ _) | (with_reducible refine Kd.C_drewN ?_ _) | (with_reducible refine Kd.C_drew ?_))); (case side2 => exact HC0_0.out); rintro e w' ⟨rfl, ⟨nd, rfl⟩⟩; refine ⟨_, rfl, ?_⟩) | (go_at_call 32; (with_reducible refine (matrix_rising_int.calls kj2 _ _ l0_1 1 true _ ?side1 ?side2 A28.out).mono ?_); (case side1 => repeat (first | exact (Kd.C_below HR0_1.out (by repeat first | exact Bl HB | refine Bp (below_set ?_ GE196.out) | refine Bp (below_set ?_ GE197.out) | refine Bp (below_set ?_ GE198.out))) | (with_reducible refine Kd.C_alloc ?_ _) | (with_reducible refine Kd.C_drewN ?_ _) | (with_reducible refine Kd.C_drew ?_))); (case side2 => exact HC0_1.out); rintro e w' ⟨rfl, ⟨nd, rfl⟩⟩; have hnb36 := NB197_198.out; have hnc36 := NB198_197.out; have hcz37_0 : wc.cell? ⟨gb197, 0, none⟩ = some (.slice A1_0 l1_0.length c1_0) := (blk_cell BK197.out 0).trans rfl; have hcz37_1 : wc.cell? ⟨gb197, 1, none⟩ = some (.slice A1_1 l1_1.length c1_1) := (blk_cell BK197.out 1).trans rfl; have hcz37_2 : wc.cell? ⟨gb197, 2, none⟩ = some (.slice A1_2 l1_2.length c1_2) := (blk_cell BK197.out 2).trans rfl; have hfz37_0 := blk_frozen BK197.out 0; have hfz37_1 := blk_frozen BK197.out 1; have hfz37_2 := blk_frozen BK197.out 2) | (go_at_call 32; (with_reducible refine (matrix_rising_int.calls kj2 _ _ l1_0 1 true _ ?side1 ?side2 A30.out).mono ?_); (case side1 => repeat (first | exact (Kd.C_below HR1_0.out (by repeat first | exact Bl HB | refine Bp (below_set ?_ GE196.out) | refine Bp (below_set ?_ GE197.out) | refine Bp (below_set ?_ GE198.out))) | (with_reducible refine Kd.C_alloc ?_ _) | (with_reducible refine Kd.C_drewN ?_ _) | (with_reducible refine Kd.C_drew ?_))); (case side2 => exact HC1_0.out); rintro e w' ⟨rfl, ⟨nd, rfl⟩⟩) | (go_at_call 32; (with_reducible refine (matrix_rising_int.calls kj2 _ _ l1_1 1 t204 _ ?side1 ?side2 A32.out).mono ?_); (case side1 => repeat (first | exact (Kd.C_below HR1_1.out (by repeat first | exact Bl HB | refine Bp (below_set ?_ GE196.out) | refine Bp (below_set ?_ GE197.out) | refine Bp (below_set ?_ GE198.out))) | (with_reducible refine Kd.C_alloc ?_ _) | (with_reducible refine Kd.C_drewN ?_ _) | (with_reducible refine Kd.C_drew ?_))); (case side2 => exact HC1_1.out); rintro e w' ⟨rfl, ⟨nd, rfl⟩⟩))
        go_meet
        case rel => exact ⟨_, (!t204), (by first | rfl | (simp; done) | (simp [*]; done)), H', ⟨by have := HJ2.out; first | omega | exact Nat.le_refl _⟩, ⟨Kl BK196⟩, ⟨Kl BK197⟩, ⟨Kl BK198⟩, ⟨by repeat first | exact Bl HB | refine Bp (below_set ?_ GE196.out) | refine Bp (below_set ?_ GE197.out) | refine Bp (below_set ?_ GE198.out)⟩⟩
       ·replace c31 := Bool.eq_false_iff.mpr c31
        subst c31
        have H1 : (matrix_Merge.j1 kj2 true l0_0 l0_1 l0_2 l1_0 l1_1 l1_2) = some (r1, r2, r3, r4) := by rw [if_neg (show ¬ (false = true) by decide)] at H; exact H
        clear H
        have H := H1
        clear H1
        have H' := Am H
        clear H
        have hnb38 := NB196_197.out
        have hnc38 := NB197_196.out
        have hnb39 := NB196_198.out
        have hnc39 := NB198_196.out
        have hcz40_0 : wc.cell? ⟨gb196, 0, none⟩ = some (.slice A0_0 l0_0.length c0_0) := (blk_cell BK196.out 0).trans rfl
        have hcz40_1 : wc.cell? ⟨gb196, 1, none⟩ = some (.slice A0_1 l0_1.length c0_1) := (blk_cell BK196.out 1).trans rfl
        have hcz40_2 : wc.cell? ⟨gb196, 2, none⟩ = some (.slice A0_2 l0_2.length c0_2) := (blk_cell BK196.out 2).trans rfl
        have hfz40_0 := blk_frozen BK196.out 0
        have hfz40_1 := blk_frozen BK196.out 1
        have hfz40_2 := blk_frozen BK196.out 2
        go_wp2_with (first | ((with_reducible refine gate_callee (f := 32) rfl ?_); refine goesL_ (some 27) rfl rfl Try.func32 (by kernel_rfl) rfl #[.slice A0_0 l0_0.length c0_0, .int .i64 1] rfl (by (try simp only [List.map_toArray, List.map_cons, List.map_nil]); first | done | rfl | (simp only [List.length_drop, List.length_take]; rfl)) ?_; (with_reducible refine (matrix_rising_int.calls kj2 _ _ l0_0 1 true _ ?side1 ?side2 A26.out).mono ?_); (case side1 => repeat (first | exact (Kd.C_below HR0_0.out HB.out) | (with_reducible refine Kd.C_alloc ?_ _) | (with_reducible refine Kd.C_drewN ?_ _) | (with_reducible refine Kd.C_drew ?_))); (case side2 => exact HC0_0.out); rintro e w' ⟨rfl, ⟨nd, rfl⟩⟩; refine ⟨_, rfl, ?_⟩) | (go_at_call 32; (with_reducible refine (matrix_rising_int.calls kj2 _ _ l0_1 1 true _ ?side1 ?side2 A28.out).mono ?_); (case side1 => repeat (first | exact (Kd.C_below HR0_1.out (by repeat first | exact Bl HB | refine Bp (below_set ?_ GE196.out) | refine Bp (below_set ?_ GE197.out) | refine Bp (below_set ?_ GE198.out))) | (with_reducible refine Kd.C_alloc ?_ _) | (with_reducible refine Kd.C_drewN ?_ _) | (with_reducible refine Kd.C_drew ?_))); (case side2 => exact HC0_1.out); rintro e w' ⟨rfl, ⟨nd, rfl⟩⟩; have hnb41 := NB197_198.out; have hnc41 := NB198_197.out; have hcz42_0 : wc.cell? ⟨gb197, 0, none⟩ = some (.slice A1_0 l1_0.length c1_0) := (blk_cell BK197.out 0).trans rfl; have hcz42_1 : wc.cell? ⟨gb197, 1, none⟩ = some (.slice A1_1 l1_1.length c1_1) := (blk_cell BK197.out 1).trans rfl; have hcz42_2 : wc.cell? ⟨gb197, 2, none⟩ = some (.slice A1_2 l1_2.length c1_2) := (blk_cell BK197.out 2).trans rfl; have hfz42_0 := blk_frozen BK197.out 0; have hfz42_1 := blk_frozen BK197.out 1; have hfz42_2 := blk_frozen BK197.out 2) | (go_at_call 32; (with_reducible refine (matrix_rising_int.calls kj2 _ _ l1_0 1 false _ ?side1 ?side2 A30.out).mono ?_); (case side1 => repeat (first | exact (Kd.C_below HR1_0.out (by repeat first | exact Bl HB | refine Bp (below_set ?_ GE196.out) | refine Bp (below_set ?_ GE197.out) | refine Bp (below_set ?_ GE198.out))) | (with_reducible refine Kd.C_alloc ?_ _) | (with_reducible refine Kd.C_drewN ?_ _) | (with_reducible refine Kd.C_drew ?_))); (case side2 => exact HC1_0.out); rintro e w' ⟨rfl, ⟨nd, rfl⟩⟩))
        go_meet
        case rel => exact ⟨_, (true), (by first | rfl | (simp; done) | (simp [*]; done)), H', ⟨by have := HJ2.out; first | omega | exact Nat.le_refl _⟩, ⟨Kl BK196⟩, ⟨Kl BK197⟩, ⟨Kl BK198⟩, ⟨by repeat first | exact Bl HB | refine Bp (below_set ?_ GE196.out) | refine Bp (below_set ?_ GE197.out) | refine Bp (below_set ?_ GE198.out)⟩⟩
      ·replace c29 := Bool.eq_false_iff.mpr c29
       subst c29
       have H1 : (matrix_Merge.j1 kj2 true l0_0 l0_1 l0_2 l1_0 l1_1 l1_2) = some (r1, r2, r3, r4) := by rw [if_neg (show ¬ (false = true) by decide)] at H; exact H
       clear H
       have H := H1
       clear H1
       have H' := Am H
       clear H
       have hnb43 := NB196_197.out
       have hnc43 := NB197_196.out
       have hnb44 := NB196_198.out
       have hnc44 := NB198_196.out
       have hcz45_0 : wc.cell? ⟨gb196, 0, none⟩ = some (.slice A0_0 l0_0.length c0_0) := (blk_cell BK196.out 0).trans rfl
       have hcz45_1 : wc.cell? ⟨gb196, 1, none⟩ = some (.slice A0_1 l0_1.length c0_1) := (blk_cell BK196.out 1).trans rfl
       have hcz45_2 : wc.cell? ⟨gb196, 2, none⟩ = some (.slice A0_2 l0_2.length c0_2) := (blk_cell BK196.out 2).trans rfl
       have hfz45_0 := blk_frozen BK196.out 0
       have hfz45_1 := blk_frozen BK196.out 1
       have hfz45_2 := blk_frozen BK196.out 2
       go_wp2_with (first | ((with_reducible refine gate_callee (f := 32) rfl ?_); refine goesL_ (some 27) rfl rfl Try.func32 (by kernel_rfl) rfl #[.slice A0_0 l0_0.length c0_0, .int .i64 1] rfl (by (try simp only [List.map_toArray, List.map_cons, List.map_nil]); first | done | rfl | (simp only [List.length_drop, List.length_take]; rfl)) ?_; (with_reducible refine (matrix_rising_int.calls kj2 _ _ l0_0 1 true _ ?side1 ?side2 A26.out).mono ?_); (case side1 => repeat (first | exact (Kd.C_below HR0_0.out HB.out) | (with_reducible refine Kd.C_alloc ?_ _) | (with_reducible refine Kd.C_drewN ?_ _) | (with_reducible refine Kd.C_drew ?_))); (case side2 => exact HC0_0.out); rintro e w' ⟨rfl, ⟨nd, rfl⟩⟩; refine ⟨_, rfl, ?_⟩) | (go_at_call 32; (with_reducible refine (matrix_rising_int.calls kj2 _ _ l0_1 1 false _ ?side1 ?side2 A28.out).mono ?_); (case side1 => repeat (first | exact (Kd.C_below HR0_1.out (by repeat first | exact Bl HB | refine Bp (below_set ?_ GE196.out) | refine Bp (below_set ?_ GE197.out) | refine Bp (below_set ?_ GE198.out))) | (with_reducible refine Kd.C_alloc ?_ _) | (with_reducible refine Kd.C_drewN ?_ _) | (with_reducible refine Kd.C_drew ?_))); (case side2 => exact HC0_1.out); rintro e w' ⟨rfl, ⟨nd, rfl⟩⟩))
       go_meet
       case rel => exact ⟨_, (true), (by first | rfl | (simp; done) | (simp [*]; done)), H', ⟨by have := HJ2.out; first | omega | exact Nat.le_refl _⟩, ⟨Kl BK196⟩, ⟨Kl BK197⟩, ⟨Kl BK198⟩, ⟨by repeat first | exact Bl HB | refine Bp (below_set ?_ GE196.out) | refine Bp (below_set ?_ GE197.out) | refine Bp (below_set ?_ GE198.out)⟩⟩
     ·replace c27 := Bool.eq_false_iff.mpr c27
      subst c27
      have H1 : (matrix_Merge.j1 kj2 true l0_0 l0_1 l0_2 l1_0 l1_1 l1_2) = some (r1, r2, r3, r4) := by rw [if_neg (show ¬ (false = true) by decide)] at H; exact H
      clear H
      have H := H1
      clear H1
      have H' := Am H
      clear H
      have hnb46 := NB196_197.out
      have hnc46 := NB197_196.out
      have hnb47 := NB196_198.out
      have hnc47 := NB198_196.out
      have hcz48_0 : wc.cell? ⟨gb196, 0, none⟩ = some (.slice A0_0 l0_0.length c0_0) := (blk_cell BK196.out 0).trans rfl
      have hcz48_1 : wc.cell? ⟨gb196, 1, none⟩ = some (.slice A0_1 l0_1.length c0_1) := (blk_cell BK196.out 1).trans rfl
      have hcz48_2 : wc.cell? ⟨gb196, 2, none⟩ = some (.slice A0_2 l0_2.length c0_2) := (blk_cell BK196.out 2).trans rfl
      have hfz48_0 := blk_frozen BK196.out 0
      have hfz48_1 := blk_frozen BK196.out 1
      have hfz48_2 := blk_frozen BK196.out 2
      go_wp2_with (first | ((with_reducible refine gate_callee (f := 32) rfl ?_); refine goesL_ (some 27) rfl rfl Try.func32 (by kernel_rfl) rfl #[.slice A0_0 l0_0.length c0_0, .int .i64 1] rfl (by (try simp only [List.map_toArray, List.map_cons, List.map_nil]); first | done | rfl | (simp only [List.length_drop, List.length_take]; rfl)) ?_; (with_reducible refine (matrix_rising_int.calls kj2 _ _ l0_0 1 false _ ?side1 ?side2 A26.out).mono ?_); (case side1 => repeat (first | exact (Kd.C_below HR0_0.out HB.out) | (with_reducible refine Kd.C_alloc ?_ _) | (with_reducible refine Kd.C_drewN ?_ _) | (with_reducible refine Kd.C_drew ?_))); (case side2 => exact HC0_0.out); rintro e w' ⟨rfl, ⟨nd, rfl⟩⟩; refine ⟨_, rfl, ?_⟩))
      go_meet
      case rel => exact ⟨_, (true), (by first | rfl | (simp; done) | (simp [*]; done)), H', ⟨by have := HJ2.out; first | omega | exact Nat.le_refl _⟩, ⟨Kl BK196⟩, ⟨Kl BK197⟩, ⟨Kl BK198⟩, ⟨by repeat first | exact Bl HB | refine Bp (below_set ?_ GE196.out) | refine Bp (below_set ?_ GE197.out) | refine Bp (below_set ?_ GE198.out)⟩⟩
    case rest =>
     clear HC25
     try clear c1
     try clear c2
     try clear p2
     try clear c3
     try clear c4
     try clear c8
     try clear c10
     try clear c11
     try clear c14
     try clear c17
     try clear c18
     try clear c19
     try clear c21
     try clear c22
     try clear c23
     try clear c27
     try clear c29
     try clear c31
     try clear c32
     try clear c33
     try clear c34
     try clear c36
     try clear c38
     try clear c39
     try clear c41
     try clear c43
     try clear c44
     try clear c46
     try clear c47
     try clear hcz12_0
     try clear hcz12_1
     try clear hcz12_2
     try clear hcz15_0
     try clear hcz15_1
     try clear hcz15_2
     try clear hcz19_0
     try clear hcz19_1
     try clear hcz19_2
     try clear hcz24_0
     try clear hcz24_1
     try clear hcz24_2
     try clear hcz35_0
     try clear hcz35_1
     try clear hcz35_2
     try clear hcz37_0
     try clear hcz37_1
     try clear hcz37_2
     try clear hcz40_0
     try clear hcz40_1
     try clear hcz40_2
     try clear hcz42_0
     try clear hcz42_1
     try clear hcz42_2
     try clear hcz45_0
     try clear hcz45_1
     try clear hcz45_2
     try clear hcz48_0
     try clear hcz48_1
     try clear hcz48_2
     try clear hfz12_0
     try clear hfz12_1
     try clear hfz12_2
     try clear hfz15_0
     try clear hfz15_1
     try clear hfz15_2
     try clear hfz19_0
     try clear hfz19_1
     try clear hfz19_2
     try clear hfz24_0
     try clear hfz24_1
     try clear hfz24_2
     try clear hfz35_0
     try clear hfz35_1
     try clear hfz35_2
     try clear hfz37_0
     try clear hfz37_1
     try clear hfz37_2
     try clear hfz40_0
     try clear hfz40_1
     try clear hfz40_2
     try clear hfz42_0
     try clear hfz42_1
     try clear hfz42_2
     try clear hfz45_0
     try clear hfz45_1
     try clear hfz45_2
     try clear hfz48_0
     try clear hfz48_1
     try clear hfz48_2
     try clear p2
     obtain ⟨kq, x46_24, rfl, HA, HJ24, BK196, BK197, BK198, HB⟩ := hcut
     cases kq with
     | zero => exact absurd HA.out (by simp [matrix_Merge.j1])
     | succ kj24 =>
      have H := HA.out
      clear HA
      simp only [matrix_Merge.j1] at H
      by_cases c49 : x46_24 = true
      ·subst c49
       have H1 : (some (([] : List Int), ([] : List Int), ([] : List (List Int)), 23)) = some (r1, r2, r3, r4) := by rw [if_pos rfl] at H; exact H
       clear H
       have H := H1
       clear H1
       simp only [Option.some.injEq, Prod.mk.injEq] at H
       obtain ⟨rfl, rfl, rfl, rfl⟩ := H
       have hnb50 := NB198_196.out
       have hnc50 := NB196_198.out
       have hnb51 := NB198_197.out
       have hnc51 := NB197_198.out
       have hcz52_0 : wc.cell? ⟨gb198, 0, none⟩ = some (.slice none 0 0) := (blk_cell BK198.out 0).trans rfl
       have hcz52_1 : wc.cell? ⟨gb198, 1, none⟩ = some (.slice none 0 0) := (blk_cell BK198.out 1).trans rfl
       have hcz52_2 : wc.cell? ⟨gb198, 2, none⟩ = some (.slice none 0 0) := (blk_cell BK198.out 2).trans rfl
       have hfz52_0 := blk_frozen BK198.out 0
       have hfz52_1 := blk_frozen BK198.out 1
       have hfz52_2 := blk_frozen BK198.out 2
       go_wp2
       refine bodyPost_ret (results_ct rfl _ _ gb198 39 #[.slice none 0 0, .slice none 0 0, .slice none 0 0] (0, 0) _ rfl (by refine Kp ?_; refine blk_put (cs := #[.slice none 0 0, .slice none 0 0, .slice none 0 0]) ?_ 2 _ rfl; refine Kp ?_; refine blk_put (cs := #[.slice none 0 0, .slice none 0 0, .slice none 0 0]) ?_ 1 _ rfl; refine Kp ?_; refine blk_put (cs := #[.slice none 0 0, .slice none 0 0, .slice none 0 0]) ?_ 0 _ rfl; refine Kp ?_; exact BK198.out) Try.underlying39 rfl (by kernel_rfl)) rfl ?_
       exact ⟨_, _, _, by first | rfl | (simp [errW_none, errW_some] <;> rfl) | (simp [*, errW_none, errW_some] <;> rfl), by first | exact Kd.R_nil _ _ _ _ _ | exact Kd.N_nil _ _ _ _ _ | exact Kd.V_nil _ _ _ _ _ | exact Kd.Q_nil _ _ _ _ _ | exact Kd.S_nil _ _ _ _ _, by first | exact Kd.R_nil _ _ _ _ _ | exact Kd.N_nil _ _ _ _ _ | exact Kd.V_nil _ _ _ _ _ | exact Kd.Q_nil _ _ _ _ _ | exact Kd.S_nil _ _ _ _ _, by first | exact Kd.S_nil _ _ _ _ _ | exact Kd.N_nil _ _ _ _ _ | exact Kd.V_nil _ _ _ _ _ | exact Kd.Q_nil _ _ _ _ _ | exact Kd.R_nil _ _ _ _ _, by repeat first | exact Bl HB | refine Bp (below_set ?_ GE196.out) | refine Bp (below_set ?_ GE197.out) | refine Bp (below_set ?_ GE198.out)⟩
      ·replace c49 := Bool.eq_false_iff.mpr c49
       subst c49
       have H1 : ((matrix_merged_int.f kj24 l0_0 l1_0).bind fun t205 => ((matrix_merged_int.f kj24 l0_1 l1_1).bind fun t208 => (matrix_Merge.l0 kj24 t205 t208 (t205.length : Int) 0 l0_0 l0_1 l0_2 l1_0 l1_1 l1_2 ([] : List (List Int))))) = some (r1, r2, r3, r4) := by rw [if_neg (show ¬ (false = true) by decide)] at H; exact H
       clear H
       have H := H1
       clear H1
       replace H := Option.bind_eq_some_iff.mp H
       obtain ⟨t205, A530, H⟩ := H
       replace H : ((matrix_merged_int.f kj24 l0_1 l1_1).bind fun t208 => (matrix_Merge.l0 kj24 t205 t208 (t205.length : Int) 0 l0_0 l0_1 l0_2 l1_0 l1_1 l1_2 ([] : List (List Int)))) = some (r1, r2, r3, r4) := H
       have A53 := Am A530
       clear A530
       replace H := Option.bind_eq_some_iff.mp H
       obtain ⟨t208, A540, H⟩ := H
       replace H : (matrix_Merge.l0 kj24 t205 t208 (t205.length : Int) 0 l0_0 l0_1 l0_2 l1_0 l1_1 l1_2 ([] : List (List Int))) = some (r1, r2, r3, r4) := H
       have A54 := Am A540
       clear A540
       have H' := Am H
       clear H
       try go_wp2
       have n0_ := Am (blk_drew BK196.out)
       have n1_ := Am (blk_drew BK197.out)
       have n2_ := Am (blk_drew BK198.out)
       have n3_ := Am (below_drew1 HB.out)
       clear BK196 BK197 BK198 HB
       have BK196 := n0_
       have BK197 := n1_
       have BK198 := n2_
       have HB := n3_
       clear n0_ n1_ n2_ n3_
       refine start_ (n := 13) (S := fun w' => w'.cell? ⟨gb196, 0, none⟩ = some (.slice A0_0 l0_0.length c0_0) ∧ w'.cell? ⟨gb196, 1, none⟩ = some (.slice A0_1 l0_1.length c0_1) ∧ w'.cell? ⟨gb196, 2, none⟩ = some (.slice A0_2 l0_2.length c0_2) ∧ w'.cell? ⟨gb197, 0, none⟩ = some (.slice A1_0 l1_0.length c1_0) ∧ w'.cell? ⟨gb197, 1, none⟩ = some (.slice A1_1 l1_1.length c1_1) ∧ w'.cell? ⟨gb197, 2, none⟩ = some (.slice A1_2 l1_2.length c1_2)) (ds := []) #[false, false, false, false, false, false, false, false, false, false, false, false, false] (by kernel_rfl) rfl rfl ⟨(blk_cell BK196.out 0).trans rfl, (blk_cell BK196.out 1).trans rfl, (blk_cell BK196.out 2).trans rfl, (blk_cell BK197.out 0).trans rfl, (blk_cell BK197.out 1).trans rfl, (blk_cell BK197.out 2).trans rfl⟩ (fun hHeld => ?_); refine with_tabW matrix_Merge.tab5 matrix_Merge.bits5 (fun HT_ HW_ => ?_)
       generalize wc.drew = w55 at BK196 BK197 BK198 HB hHeld ⊢
       refine pure_ (i := 0) (N := some 48) (v := ?_) (a' := ?_) #[true, false, false, false, false, false, false, false, false, false, false, false, false] rfl rfl (any_of HT_.out (by kernel_rfl)) (fun _ _ _ h => h) (Or.inl ⟨by rfl, ?_⟩) ?_ ?_
       rotate_left
       ·intro w'
        go_simp
        with_reducible rfl
       rotate_left
       ·simp only [Act.put, List.setIfInBounds_toArray, List.set_cons_zero, List.set_cons_succ, i64_w, i32_w]
        rfl
       refine pure_ (i := 2) (N := some 50) (v := ?_) (a' := ?_) #[true, false, true, false, false, false, false, false, false, false, false, false, false] rfl rfl (any_of HT_.out (by kernel_rfl)) (fun _ _ _ h => h) (Or.inl ⟨by rfl, ?_⟩) ?_ ?_
       rotate_left
       ·intro w'
        go_simp
        with_reducible rfl
       rotate_left
       ·simp only [Act.put, List.setIfInBounds_toArray, List.set_cons_zero, List.set_cons_succ, i64_w, i32_w]
        rfl
       refine pure_ (i := 5) (N := some 53) (v := ?_) (a' := ?_) #[true, false, true, false, false, true, false, false, false, false, false, false, false] rfl rfl (any_of HT_.out (by kernel_rfl)) (fun _ _ _ h => h) (Or.inl ⟨by rfl, ?_⟩) ?_ ?_
       rotate_left
       ·intro w'
        go_simp
        with_reducible rfl
       rotate_left
       ·simp only [Act.put, List.setIfInBounds_toArray, List.set_cons_zero, List.set_cons_succ, i64_w, i32_w]
        rfl
       refine pure_ (i := 7) (N := some 55) (v := ?_) (a' := ?_) #[true, false, true, false, false, true, false, true, false, false, false, false, false] rfl rfl (any_of HT_.out (by kernel_rfl)) (fun _ _ _ h => h) (Or.inl ⟨by rfl, ?_⟩) ?_ ?_
       rotate_left
       ·intro w'
        go_simp
        with_reducible rfl
       rotate_left
       ·simp only [Act.put, List.setIfInBounds_toArray, List.set_cons_zero, List.set_cons_succ, i64_w, i32_w]
        rfl
       refine take_ (i := 1) (N := some 49) (v := ?_) (a' := ?_) #[true, true, true, false, false, true, false, true, false, false, false, false, false] rfl rfl (take_ofW HT_.out HW_.out (by kernel_rfl)) (fun _ _ _ h => h) (Or.inl ⟨by rfl, ?_⟩) hHeld ?_ ?_
       rotate_left
       ·rintro w' ⟨s0, s1, s2, s3, s4, s5⟩
        go_simp
        with_reducible rfl
       rotate_left
       ·simp only [Act.put, List.setIfInBounds_toArray, List.set_cons_zero, List.set_cons_succ, i64_w, i32_w]
        rfl
       refine take_ (i := 3) (N := some 51) (v := ?_) (a' := ?_) #[true, true, true, true, false, true, false, true, false, false, false, false, false] rfl rfl (take_ofW HT_.out HW_.out (by kernel_rfl)) (fun _ _ _ h => h) (Or.inl ⟨by rfl, ?_⟩) hHeld ?_ ?_
       rotate_left
       ·rintro w' ⟨s0, s1, s2, s3, s4, s5⟩
        go_simp
        with_reducible rfl
       rotate_left
       ·simp only [Act.put, List.setIfInBounds_toArray, List.set_cons_zero, List.set_cons_succ, i64_w, i32_w]
        rfl
       refine take_ (i := 6) (N := some 54) (v := ?_) (a' := ?_) #[true, true, true, true, false, true, true, true, false, false, false, false, false] rfl rfl (take_ofW HT_.out HW_.out (by kernel_rfl)) (fun _ _ _ h => h) (Or.inl ⟨by rfl, ?_⟩) hHeld ?_ ?_
       rotate_left
       ·rintro w' ⟨s0, s1, s2, s3, s4, s5⟩
        go_simp
        with_reducible rfl
       rotate_left
       ·simp only [Act.put, List.setIfInBounds_toArray, List.set_cons_zero, List.set_cons_succ, i64_w, i32_w]
        rfl
       refine take_ (i := 8) (N := some 56) (v := ?_) (a' := ?_) #[true, true, true, true, false, true, true, true, true, false, false, false, false] rfl rfl (take_ofW HT_.out HW_.out (by kernel_rfl)) (fun _ _ _ h => h) (Or.inl ⟨by rfl, ?_⟩) hHeld ?_ ?_
       rotate_left
       ·rintro w' ⟨s0, s1, s2, s3, s4, s5⟩
        go_simp
        with_reducible rfl
       rotate_left
       ·simp only [Act.put, List.setIfInBounds_toArray, List.set_cons_zero, List.set_cons_succ, i64_w, i32_w]
        rfl
       refine join_ (σ := Value × Value × Nat) 1 #[true, true, true, true, true, true, true, true, true, true, true, true, false] (fun s_ => [(52, s_.1), (57, s_.2.1), (6, .pointer (some ⟨s_.2.2, 0, none⟩)), (58, .agg #[s_.1, s_.2.1, .slice none 0 0])]) (fun s_ w' => (w'.cell? ⟨gb196, 0, none⟩ = some (.slice A0_0 l0_0.length c0_0) ∧ w'.cell? ⟨gb196, 1, none⟩ = some (.slice A0_1 l0_1.length c0_1) ∧ w'.cell? ⟨gb196, 2, none⟩ = some (.slice A0_2 l0_2.length c0_2) ∧ w'.cell? ⟨gb197, 0, none⟩ = some (.slice A1_0 l1_0.length c1_0) ∧ w'.cell? ⟨gb197, 1, none⟩ = some (.slice A1_1 l1_1.length c1_1) ∧ w'.cell? ⟨gb197, 2, none⟩ = some (.slice A1_2 l1_2.length c1_2)) ∧ (Kd.R (Kd.int .i64) 3 w' w.heap.size (fun k_ => some k_ ≠ (s_.2.1 : Value).ownBlock) s_.1 t205) ∧ (Kd.R (Kd.int .i64) 3 w' w.heap.size (fun k_ => some k_ ≠ (s_.1 : Value).ownBlock) s_.2.1 t208) ∧ (w'.heap[gb196]? = some (.cells #[.slice A0_0 l0_0.length c0_0, .slice A0_1 l0_1.length c0_1, .slice A0_2 l0_2.length c0_2] 39 (0, 0))) ∧ (w'.heap[gb197]? = some (.cells #[.slice A1_0 l1_0.length c1_0, .slice A1_1 l1_1.length c1_1, .slice A1_2 l1_2.length c1_2] 39 (0, 0))) ∧ (w'.heap[gb198]? = some (.cells #[.slice none 0 0, .slice none 0 0, .slice none 0 0] 39 (0, 0))) ∧ (w'.heap[s_.2.2]? = some (.cells #[.slice none 0 0, .slice none 0 0, .slice none 0 0] 39 (0, 0))) ∧ (w.heap.size ≤ s_.2.2) ∧ (w.heap.size ≤ s_.2.2) ∧ (gb196 ≠ s_.2.2) ∧ (s_.2.2 ≠ gb196) ∧ (gb197 ≠ s_.2.2) ∧ (s_.2.2 ≠ gb197) ∧ (gb198 ≠ s_.2.2) ∧ (s_.2.2 ≠ gb198) ∧ (Below w.heap.size w w')) ?_ ?_
       rotate_left
       ·intro hCont
        refine two_ (i := 4) (j := 11) (Ni := some 52) (Nj := some 6) #[true, true, true, true, true, true, true, true, true, false, false, false, false] #[true, true, true, true, false, true, true, true, true, false, false, true, false] rfl rfl rfl rfl (two_of HT_.out (by kernel_rfl)) (by decide) (by decide) (fun K hK => ?_) (fun K hK => ?_)
        ·skip
         refine goes_ Try.func42 (by kernel_rfl) rfl #[.slice A0_0 l0_0.length c0_0, .slice A1_0 l1_0.length c1_0] (by rfl) rfl rfl (by (try simp only [List.map_toArray, List.map_cons, List.map_nil]); first | done | rfl | (simp only [List.length_drop, List.length_take]; rfl)) ?_
         with_reducible refine (matrix_merged_int.calls kj24 (fun k_ => k_ < w.heap.size) _ _ l0_0 (fun k_ => k_ < w.heap.size) _ _ l1_0 t205 _ ?side1 ?side2 A53.out).mono ?_
         (case side1 => exact Kd.V_mk HC0_0.out (Kd.F_below (Kd.C_F (Kd.heap_int .i64) HR0_0.out) (by repeat first | exact Bl HB | refine Bp (below_set ?_ GE196.out) | refine Bp (below_set ?_ GE197.out) | refine Bp (below_set ?_ GE198.out))))
         (case side2 => exact Kd.V_mk HC1_0.out (Kd.F_below (Kd.C_F (Kd.heap_int .i64) HR1_0.out) (by repeat first | exact Bl HB | refine Bp (below_set ?_ GE196.out) | refine Bp (below_set ?_ GE197.out) | refine Bp (below_set ?_ GE198.out))))
         rintro e w56 ⟨v206, rfl, ho0, hb⟩
         refine ⟨_, rfl, ?_⟩
         have n0_ := Am (Kd.R_lower (Kd.R_mono (ok' := fun k_ => True) ho0 (fun _ hk_ => trivial)) (below_size (by repeat first | exact Bl HB | refine Bp (below_set ?_ GE196.out) | refine Bp (below_set ?_ GE197.out) | refine Bp (below_set ?_ GE198.out))))
         have n1_ := Am (blk_below (Kl BK196) hb)
         have n2_ := Am (blk_below (Kl BK197) hb)
         have n3_ := Am (blk_below (Kl BK198) hb)
         have n4_ := Am (below_step (by repeat first | exact Bl HB | refine Bp (below_set ?_ GE196.out) | refine Bp (below_set ?_ GE197.out) | refine Bp (below_set ?_ GE198.out)) hb)
         clear BK196 BK197 BK198 HB
         have HO207 := n0_
         have BK196 := n1_
         have BK197 := n2_
         have BK198 := n3_
         have HB := n4_
         clear n0_ n1_ n2_ n3_ n4_
         (try clear hb)
         (try clear hb2)
         (try clear hk)
         (try clear hi)
         (try clear ho0)
         refine hK.out _ _ ⟨(blk_cell BK196.out 0).trans rfl, (blk_cell BK196.out 1).trans rfl, (blk_cell BK196.out 2).trans rfl, (blk_cell BK197.out 0).trans rfl, (blk_cell BK197.out 1).trans rfl, (blk_cell BK197.out 2).trans rfl⟩ (fun hHeld => ?_)
         clear hK K
         refine norm_ (a' := ?_) ?_ ?_
         rotate_left
         ·show Act.put _ (some 52) _ = _
          simp only [Act.put, List.setIfInBounds_toArray, List.set_cons_zero, List.set_cons_succ, i64_w, i32_w]
          rfl
         refine two_ (i := 9) (j := 11) (Ni := some 57) (Nj := some 6) #[true, true, true, true, true, true, true, true, true, true, false, false, false] #[true, true, true, true, true, true, true, true, true, false, false, true, false] rfl rfl rfl rfl (two_of HT_.out (by kernel_rfl)) (by decide) (by decide) (fun K hK => ?_) (fun K hK => ?_)
         ·skip
          refine goes_ Try.func42 (by kernel_rfl) rfl #[.slice A0_1 l0_1.length c0_1, .slice A1_1 l1_1.length c1_1] (by rfl) rfl rfl (by (try simp only [List.map_toArray, List.map_cons, List.map_nil]); first | done | rfl | (simp only [List.length_drop, List.length_take]; rfl)) ?_
          with_reducible refine (matrix_merged_int.calls kj24 (fun k_ => k_ < w.heap.size) _ _ l0_1 (fun k_ => k_ < w.heap.size) _ _ l1_1 t208 _ ?side1 ?side2 A54.out).mono ?_
          (case side1 => exact Kd.V_mk HC0_1.out (Kd.F_below (Kd.C_F (Kd.heap_int .i64) HR0_1.out) (by repeat first | exact Bl HB | refine Bp (below_set ?_ GE196.out) | refine Bp (below_set ?_ GE197.out) | refine Bp (below_set ?_ GE198.out))))
          (case side2 => exact Kd.V_mk HC1_1.out (Kd.F_below (Kd.C_F (Kd.heap_int .i64) HR1_1.out) (by repeat first | exact Bl HB | refine Bp (below_set ?_ GE196.out) | refine Bp (below_set ?_ GE197.out) | refine Bp (below_set ?_ GE198.out))))
          rintro e w57 ⟨v209, rfl, ho0, hb⟩
          refine ⟨_, rfl, ?_⟩
          have n0_ := Am (Kd.R_elder' (Rl HO207) (Kd.R_base ho0) hb)
          have n1_ := Am (Kd.R_lower (Kd.R_new' (Kd.R_mono (ok' := fun k_ => True) ho0 (fun _ hk_ => trivial)) (Rb HO207)) (below_size (by repeat first | exact Bl HB | refine Bp (below_set ?_ GE196.out) | refine Bp (below_set ?_ GE197.out) | refine Bp (below_set ?_ GE198.out))))
          have n2_ := Am (blk_below (Kl BK196) hb)
          have n3_ := Am (blk_below (Kl BK197) hb)
          have n4_ := Am (blk_below (Kl BK198) hb)
          have n5_ := Am (below_step (by repeat first | exact Bl HB | refine Bp (below_set ?_ GE196.out) | refine Bp (below_set ?_ GE197.out) | refine Bp (below_set ?_ GE198.out)) hb)
          clear HO207 BK196 BK197 BK198 HB
          have HO207 := n0_
          have HO210 := n1_
          have BK196 := n2_
          have BK197 := n3_
          have BK198 := n4_
          have HB := n5_
          clear n0_ n1_ n2_ n3_ n4_ n5_
          (try clear hb)
          (try clear hb2)
          (try clear hk)
          (try clear hi)
          (try clear ho0)
          obtain ⟨Ao58, co58, eo58⟩ := Kd.R_slice HO210.out
          (first | subst eo58 | (injection eo58 with f1_ f2_ f3_; have f4_ := f1_.symm; have f5_ := f3_.symm; clear f1_ f2_ f3_; subst f4_; subst f5_))
          obtain ⟨Ao59, co59, eo59⟩ := Kd.R_slice HO207.out
          (first | subst eo59 | (injection eo59 with f1_ f2_ f3_; have f4_ := f1_.symm; have f5_ := f3_.symm; clear f1_ f2_ f3_; subst f4_; subst f5_))
          refine hK.out _ _ ⟨(blk_cell BK196.out 0).trans rfl, (blk_cell BK196.out 1).trans rfl, (blk_cell BK196.out 2).trans rfl, (blk_cell BK197.out 0).trans rfl, (blk_cell BK197.out 1).trans rfl, (blk_cell BK197.out 2).trans rfl⟩ (fun hHeld => ?_)
          clear hK K
          refine norm_ (a' := ?_) ?_ ?_
          rotate_left
          ·show Act.put _ (some 57) _ = _
           simp only [Act.put, List.setIfInBounds_toArray, List.set_cons_zero, List.set_cons_succ, i64_w, i32_w]
           rfl
          refine pure_ (i := 10) (N := some 58) (v := ?_) (a' := ?_) #[true, true, true, true, true, true, true, true, true, true, true, false, false] rfl rfl (any_of HT_.out (by kernel_rfl)) (fun _ _ _ h => h) (Or.inl ⟨by rfl, ?_⟩) ?_ ?_
          rotate_left
          ·intro w'
           go_simp
           with_reducible rfl
          rotate_left
          ·simp only [Act.put, List.setIfInBounds_toArray, List.set_cons_zero, List.set_cons_succ, i64_w, i32_w]
           rfl
          refine one_ (i := 11) (N := some 6) #[true, true, true, true, true, true, true, true, true, true, true, true, false] rfl rfl (one_of HT_.out (by kernel_rfl)) (by decide) (fun K hK => ?_)
          refine box_step ?hg (N := 6) ?hd (cs := #[.slice none 0 0, .slice none 0 0, .slice none 0 0]) (t := 39) ?hr ?_; (case hd => rfl); (case hg => rfl); (case hr => first | (go_simp; done) | (go_simp; rfl))
          intro gb211 hg w60 hbox hb
          have n0_ := Am (Kd.R_below (Rl HO207) hb)
          have n1_ := Am (Kd.R_below (Rl HO210) hb)
          have n2_ := Am (blk_below (Kl BK196) hb)
          have n3_ := Am (blk_below (Kl BK197) hb)
          have n4_ := Am (blk_below (Kl BK198) hb)
          have n5_ := Am (below_step (by repeat first | exact Bl HB | refine Bp (below_set ?_ GE196.out) | refine Bp (below_set ?_ GE197.out) | refine Bp (below_set ?_ GE198.out)) hb)
          have n6_ := Am (hbox)
          have n7_ := Am ((by rw [hg]; exact (below_size (by repeat first | exact Bl HB | refine Bp (below_set ?_ GE196.out) | refine Bp (below_set ?_ GE197.out) | refine Bp (below_set ?_ GE198.out))) : w.heap.size ≤ gb211))
          have n8_ := Am ((by rw [hg]; exact (below_size (by repeat first | exact Bl HB | refine Bp (below_set ?_ GE196.out) | refine Bp (below_set ?_ GE197.out) | refine Bp (below_set ?_ GE198.out))) : w.heap.size ≤ gb211))
          have n9_ := Am ((by rw [hg]; exact Nat.ne_of_lt (blk_lt (Kl BK196)) : gb196 ≠ gb211))
          have n10_ := Am ((by rw [hg]; exact Nat.ne_of_gt (blk_lt (Kl BK196)) : gb211 ≠ gb196))
          have n11_ := Am ((by rw [hg]; exact Nat.ne_of_lt (blk_lt (Kl BK197)) : gb197 ≠ gb211))
          have n12_ := Am ((by rw [hg]; exact Nat.ne_of_gt (blk_lt (Kl BK197)) : gb211 ≠ gb197))
          have n13_ := Am ((by rw [hg]; exact Nat.ne_of_lt (blk_lt (Kl BK198)) : gb198 ≠ gb211))
          have n14_ := Am ((by rw [hg]; exact Nat.ne_of_gt (blk_lt (Kl BK198)) : gb211 ≠ gb198))
          clear HO207 HO210 BK196 BK197 BK198 HB
          have HO207 := n0_
          have HO210 := n1_
          have BK196 := n2_
          have BK197 := n3_
          have BK198 := n4_
          have HB := n5_
          have BK211 := n6_
          have GW211 := n7_
          have GE211 := n8_
          have NB196_211 := n9_
          have NB211_196 := n10_
          have NB197_211 := n11_
          have NB211_197 := n12_
          have NB198_211 := n13_
          have NB211_198 := n14_
          clear n0_ n1_ n2_ n3_ n4_ n5_ n6_ n7_ n8_ n9_ n10_ n11_ n12_ n13_ n14_
          clear hb hbox hg
          refine hK.out _ _ ⟨(blk_cell BK196.out 0).trans rfl, (blk_cell BK196.out 1).trans rfl, (blk_cell BK196.out 2).trans rfl, (blk_cell BK197.out 0).trans rfl, (blk_cell BK197.out 1).trans rfl, (blk_cell BK197.out 2).trans rfl⟩ (fun hHeld => ?_)
          clear hK K
          refine norm_ (a' := ?_) ?_ ?_
          rotate_left
          ·show Act.put _ (some 6) _ = _
           simp only [Act.put, List.setIfInBounds_toArray, List.set_cons_zero, List.set_cons_succ, i64_w, i32_w]
           rfl
          exact norm_ (by simp only [putAll, Act.put, List.setIfInBounds_toArray, List.set_cons_zero, List.set_cons_succ]) (hCont (.slice Ao59 t205.length co59, .slice Ao58 t208.length co58, gb211) _ ⟨hHeld, (Rm (Kd.R_mono HO207.out (fun _ hk => hk.2))), (Rm (Kd.R_mono HO210.out (fun _ hk => hk.2))), (Kl BK196), (Kl BK197), (Kl BK198), (Kl BK211), GW211.out, GE211.out, NB196_211.out, NB211_196.out, NB197_211.out, NB211_197.out, NB198_211.out, NB211_198.out, (by repeat first | exact Bl HB | refine Bp (below_set ?_ GE196.out) | refine Bp (below_set ?_ GE197.out) | refine Bp (below_set ?_ GE198.out) | refine Bp (below_set ?_ GE211.out))⟩)
         ·skip
          refine box_step ?hg (N := 6) ?hd (cs := #[.slice none 0 0, .slice none 0 0, .slice none 0 0]) (t := 39) ?hr ?_; (case hd => rfl); (case hg => rfl); (case hr => first | (go_simp; done) | (go_simp; rfl))
          intro gb211 hg w57 hbox hb
          have n0_ := Am (Kd.R_below (Rl HO207) hb)
          have n1_ := Am (blk_below (Kl BK196) hb)
          have n2_ := Am (blk_below (Kl BK197) hb)
          have n3_ := Am (blk_below (Kl BK198) hb)
          have n4_ := Am (below_step (by repeat first | exact Bl HB | refine Bp (below_set ?_ GE196.out) | refine Bp (below_set ?_ GE197.out) | refine Bp (below_set ?_ GE198.out)) hb)
          have n5_ := Am (hbox)
          have n6_ := Am ((by rw [hg]; exact (below_size (by repeat first | exact Bl HB | refine Bp (below_set ?_ GE196.out) | refine Bp (below_set ?_ GE197.out) | refine Bp (below_set ?_ GE198.out))) : w.heap.size ≤ gb211))
          have n7_ := Am ((by rw [hg]; exact (below_size (by repeat first | exact Bl HB | refine Bp (below_set ?_ GE196.out) | refine Bp (below_set ?_ GE197.out) | refine Bp (below_set ?_ GE198.out))) : w.heap.size ≤ gb211))
          have n8_ := Am ((by rw [hg]; exact Nat.ne_of_lt (blk_lt (Kl BK196)) : gb196 ≠ gb211))
          have n9_ := Am ((by rw [hg]; exact Nat.ne_of_gt (blk_lt (Kl BK196)) : gb211 ≠ gb196))
          have n10_ := Am ((by rw [hg]; exact Nat.ne_of_lt (blk_lt (Kl BK197)) : gb197 ≠ gb211))
          have n11_ := Am ((by rw [hg]; exact Nat.ne_of_gt (blk_lt (Kl BK197)) : gb211 ≠ gb197))
          have n12_ := Am ((by rw [hg]; exact Nat.ne_of_lt (blk_lt (Kl BK198)) : gb198 ≠ gb211))
          have n13_ := Am ((by rw [hg]; exact Nat.ne_of_gt (blk_lt (Kl BK198)) : gb211 ≠ gb198))
          clear HO207 BK196 BK197 BK198 HB
          have HO207 := n0_
          have BK196 := n1_
          have BK197 := n2_
          have BK198 := n3_
          have HB := n4_
          have BK211 := n5_
          have GW211 := n6_
          have GE211 := n7_
          have NB196_211 := n8_
          have NB211_196 := n9_
          have NB197_211 := n10_
          have NB211_197 := n11_
          have NB198_211 := n12_
          have NB211_198 := n13_
          clear n0_ n1_ n2_ n3_ n4_ n5_ n6_ n7_ n8_ n9_ n10_ n11_ n12_ n13_
          clear hb hbox hg
          refine hK.out _ _ ⟨(blk_cell BK196.out 0).trans rfl, (blk_cell BK196.out 1).trans rfl, (blk_cell BK196.out 2).trans rfl, (blk_cell BK197.out 0).trans rfl, (blk_cell BK197.out 1).trans rfl, (blk_cell BK197.out 2).trans rfl⟩ (fun hHeld => ?_)
          clear hK K
          refine norm_ (a' := ?_) ?_ ?_
          rotate_left
          ·show Act.put _ (some 6) _ = _
           simp only [Act.put, List.setIfInBounds_toArray, List.set_cons_zero, List.set_cons_succ, i64_w, i32_w]
           rfl
          refine one_ (i := 9) (N := some 57) #[true, true, true, true, true, true, true, true, true, true, false, true, false] rfl rfl (one_of HT_.out (by kernel_rfl)) (by decide) (fun K hK => ?_)
          refine goes_ Try.func42 (by kernel_rfl) rfl #[.slice A0_1 l0_1.length c0_1, .slice A1_1 l1_1.length c1_1] (by rfl) rfl rfl (by (try simp only [List.map_toArray, List.map_cons, List.map_nil]); first | done | rfl | (simp only [List.length_drop, List.length_take]; rfl)) ?_
          with_reducible refine (matrix_merged_int.calls kj24 (fun k_ => k_ < w.heap.size) _ _ l0_1 (fun k_ => k_ < w.heap.size) _ _ l1_1 t208 _ ?side1 ?side2 A54.out).mono ?_
          (case side1 => exact Kd.V_mk HC0_1.out (Kd.F_below (Kd.C_F (Kd.heap_int .i64) HR0_1.out) (by repeat first | exact Bl HB | refine Bp (below_set ?_ GE196.out) | refine Bp (below_set ?_ GE197.out) | refine Bp (below_set ?_ GE198.out) | refine Bp (below_set ?_ GE211.out))))
          (case side2 => exact Kd.V_mk HC1_1.out (Kd.F_below (Kd.C_F (Kd.heap_int .i64) HR1_1.out) (by repeat first | exact Bl HB | refine Bp (below_set ?_ GE196.out) | refine Bp (below_set ?_ GE197.out) | refine Bp (below_set ?_ GE198.out) | refine Bp (below_set ?_ GE211.out))))
          rintro e w58 ⟨v209, rfl, ho0, hb⟩
          refine ⟨_, rfl, ?_⟩
          have n0_ := Am (Kd.R_elder' (Rl HO207) (Kd.R_base ho0) hb)
          have n1_ := Am (Kd.R_lower (Kd.R_new' (Kd.R_mono (ok' := fun k_ => True) ho0 (fun _ hk_ => trivial)) (Rb HO207)) (below_size (by repeat first | exact Bl HB | refine Bp (below_set ?_ GE196.out) | refine Bp (below_set ?_ GE197.out) | refine Bp (below_set ?_ GE198.out) | refine Bp (below_set ?_ GE211.out))))
          have n2_ := Am (blk_below (Kl BK196) hb)
          have n3_ := Am (blk_below (Kl BK197) hb)
          have n4_ := Am (blk_below (Kl BK198) hb)
          have n5_ := Am (blk_below (Kl BK211) hb)
          have n6_ := Am (below_step (by repeat first | exact Bl HB | refine Bp (below_set ?_ GE196.out) | refine Bp (below_set ?_ GE197.out) | refine Bp (below_set ?_ GE198.out) | refine Bp (below_set ?_ GE211.out)) hb)
          clear HO207 BK196 BK197 BK198 BK211 HB
          have HO207 := n0_
          have HO210 := n1_
          have BK196 := n2_
          have BK197 := n3_
          have BK198 := n4_
          have BK211 := n5_
          have HB := n6_
          clear n0_ n1_ n2_ n3_ n4_ n5_ n6_
          (try clear hb)
          (try clear hb2)
          (try clear hk)
          (try clear hi)
          (try clear ho0)
          obtain ⟨Ao59, co59, eo59⟩ := Kd.R_slice HO210.out
          (first | subst eo59 | (injection eo59 with f1_ f2_ f3_; have f4_ := f1_.symm; have f5_ := f3_.symm; clear f1_ f2_ f3_; subst f4_; subst f5_))
          obtain ⟨Ao60, co60, eo60⟩ := Kd.R_slice HO207.out
          (first | subst eo60 | (injection eo60 with f1_ f2_ f3_; have f4_ := f1_.symm; have f5_ := f3_.symm; clear f1_ f2_ f3_; subst f4_; subst f5_))
          refine hK.out _ _ ⟨(blk_cell BK196.out 0).trans rfl, (blk_cell BK196.out 1).trans rfl, (blk_cell BK196.out 2).trans rfl, (blk_cell BK197.out 0).trans rfl, (blk_cell BK197.out 1).trans rfl, (blk_cell BK197.out 2).trans rfl⟩ (fun hHeld => ?_)
          clear hK K
          refine norm_ (a' := ?_) ?_ ?_
          rotate_left
          ·show Act.put _ (some 57) _ = _
           simp only [Act.put, List.setIfInBounds_toArray, List.set_cons_zero, List.set_cons_succ, i64_w, i32_w]
           rfl
          refine pure_ (i := 10) (N := some 58) (v := ?_) (a' := ?_) #[true, true, true, true, true, true, true, true, true, true, true, true, false] rfl rfl (any_of HT_.out (by kernel_rfl)) (fun _ _ _ h => h) (Or.inl ⟨by rfl, ?_⟩) ?_ ?_
          rotate_left
          ·intro w'
           go_simp
           with_reducible rfl
          rotate_left
          ·simp only [Act.put, List.setIfInBounds_toArray, List.set_cons_zero, List.set_cons_succ, i64_w, i32_w]
           rfl
          exact norm_ (by simp only [putAll, Act.put, List.setIfInBounds_toArray, List.set_cons_zero, List.set_cons_succ]) (hCont (.slice Ao60 t205.length co60, .slice Ao59 t208.length co59, gb211) _ ⟨hHeld, (Rm (Kd.R_mono HO207.out (fun _ hk => hk.2))), (Rm (Kd.R_mono HO210.out (fun _ hk => hk.2))), (Kl BK196), (Kl BK197), (Kl BK198), (Kl BK211), GW211.out, GE211.out, NB196_211.out, NB211_196.out, NB197_211.out, NB211_197.out, NB198_211.out, NB211_198.out, (by repeat first | exact Bl HB | refine Bp (below_set ?_ GE196.out) | refine Bp (below_set ?_ GE197.out) | refine Bp (below_set ?_ GE198.out) | refine Bp (below_set ?_ GE211.out))⟩)
        ·skip
         refine box_step ?hg (N := 6) ?hd (cs := #[.slice none 0 0, .slice none 0 0, .slice none 0 0]) (t := 39) ?hr ?_; (case hd => rfl); (case hg => rfl); (case hr => first | (go_simp; done) | (go_simp; rfl))
         intro gb211 hg w56 hbox hb
         have n0_ := Am (blk_below (Kl BK196) hb)
         have n1_ := Am (blk_below (Kl BK197) hb)
         have n2_ := Am (blk_below (Kl BK198) hb)
         have n3_ := Am (below_step (by repeat first | exact Bl HB | refine Bp (below_set ?_ GE196.out) | refine Bp (below_set ?_ GE197.out) | refine Bp (below_set ?_ GE198.out)) hb)
         have n4_ := Am (hbox)
         have n5_ := Am ((by rw [hg]; exact (below_size (by repeat first | exact Bl HB | refine Bp (below_set ?_ GE196.out) | refine Bp (below_set ?_ GE197.out) | refine Bp (below_set ?_ GE198.out))) : w.heap.size ≤ gb211))
         have n6_ := Am ((by rw [hg]; exact (below_size (by repeat first | exact Bl HB | refine Bp (below_set ?_ GE196.out) | refine Bp (below_set ?_ GE197.out) | refine Bp (below_set ?_ GE198.out))) : w.heap.size ≤ gb211))
         have n7_ := Am ((by rw [hg]; exact Nat.ne_of_lt (blk_lt (Kl BK196)) : gb196 ≠ gb211))
         have n8_ := Am ((by rw [hg]; exact Nat.ne_of_gt (blk_lt (Kl BK196)) : gb211 ≠ gb196))
         have n9_ := Am ((by rw [hg]; exact Nat.ne_of_lt (blk_lt (Kl BK197)) : gb197 ≠ gb211))
         have n10_ := Am ((by rw [hg]; exact Nat.ne_of_gt (blk_lt (Kl BK197)) : gb211 ≠ gb197))
         have n11_ := Am ((by rw [hg]; exact Nat.ne_of_lt (blk_lt (Kl BK198)) : gb198 ≠ gb211))
         have n12_ := Am ((by rw [hg]; exact Nat.ne_of_gt (blk_lt (Kl BK198)) : gb211 ≠ gb198))
         clear BK196 BK197 BK198 HB
         have BK196 := n0_
         have BK197 := n1_
         have BK198 := n2_
         have HB := n3_
         have BK211 := n4_
         have GW211 := n5_
         have GE211 := n6_
         have NB196_211 := n7_
         have NB211_196 := n8_
         have NB197_211 := n9_
         have NB211_197 := n10_
         have NB198_211 := n11_
         have NB211_198 := n12_
         clear n0_ n1_ n2_ n3_ n4_ n5_ n6_ n7_ n8_ n9_ n10_ n11_ n12_
         clear hb hbox hg
         refine hK.out _ _ ⟨(blk_cell BK196.out 0).trans rfl, (blk_cell BK196.out 1).trans rfl, (blk_cell BK196.out 2).trans rfl, (blk_cell BK197.out 0).trans rfl, (blk_cell BK197.out 1).trans rfl, (blk_cell BK197.out 2).trans rfl⟩ (fun hHeld => ?_)
         clear hK K
         refine norm_ (a' := ?_) ?_ ?_
         rotate_left
         ·show Act.put _ (some 6) _ = _
          simp only [Act.put, List.setIfInBounds_toArray, List.set_cons_zero, List.set_cons_succ, i64_w, i32_w]
          rfl
         refine one_ (i := 4) (N := some 52) #[true, true, true, true, true, true, true, true, true, false, false, true, false] rfl rfl (one_of HT_.out (by kernel_rfl)) (by decide) (fun K hK => ?_)
         refine goes_ Try.func42 (by kernel_rfl) rfl #[.slice A0_0 l0_0.length c0_0, .slice A1_0 l1_0.length c1_0] (by rfl) rfl rfl (by (try simp only [List.map_toArray, List.map_cons, List.map_nil]); first | done | rfl | (simp only [List.length_drop, List.length_take]; rfl)) ?_
         with_reducible refine (matrix_merged_int.calls kj24 (fun k_ => k_ < w.heap.size) _ _ l0_0 (fun k_ => k_ < w.heap.size) _ _ l1_0 t205 _ ?side1 ?side2 A53.out).mono ?_
         (case side1 => exact Kd.V_mk HC0_0.out (Kd.F_below (Kd.C_F (Kd.heap_int .i64) HR0_0.out) (by repeat first | exact Bl HB | refine Bp (below_set ?_ GE196.out) | refine Bp (below_set ?_ GE197.out) | refine Bp (below_set ?_ GE198.out) | refine Bp (below_set ?_ GE211.out))))
         (case side2 => exact Kd.V_mk HC1_0.out (Kd.F_below (Kd.C_F (Kd.heap_int .i64) HR1_0.out) (by repeat first | exact Bl HB | refine Bp (below_set ?_ GE196.out) | refine Bp (below_set ?_ GE197.out) | refine Bp (below_set ?_ GE198.out) | refine Bp (below_set ?_ GE211.out))))
         rintro e w57 ⟨v206, rfl, ho0, hb⟩
         refine ⟨_, rfl, ?_⟩
         have n0_ := Am (Kd.R_lower (Kd.R_mono (ok' := fun k_ => True) ho0 (fun _ hk_ => trivial)) (below_size (by repeat first | exact Bl HB | refine Bp (below_set ?_ GE196.out) | refine Bp (below_set ?_ GE197.out) | refine Bp (below_set ?_ GE198.out) | refine Bp (below_set ?_ GE211.out))))
         have n1_ := Am (blk_below (Kl BK196) hb)
         have n2_ := Am (blk_below (Kl BK197) hb)
         have n3_ := Am (blk_below (Kl BK198) hb)
         have n4_ := Am (blk_below (Kl BK211) hb)
         have n5_ := Am (below_step (by repeat first | exact Bl HB | refine Bp (below_set ?_ GE196.out) | refine Bp (below_set ?_ GE197.out) | refine Bp (below_set ?_ GE198.out) | refine Bp (below_set ?_ GE211.out)) hb)
         clear BK196 BK197 BK198 BK211 HB
         have HO207 := n0_
         have BK196 := n1_
         have BK197 := n2_
         have BK198 := n3_
         have BK211 := n4_
         have HB := n5_
         clear n0_ n1_ n2_ n3_ n4_ n5_
         (try clear hb)
         (try clear hb2)
         (try clear hk)
         (try clear hi)
         (try clear ho0)
         refine hK.out _ _ ⟨(blk_cell BK196.out 0).trans rfl, (blk_cell BK196.out 1).trans rfl, (blk_cell BK196.out 2).trans rfl, (blk_cell BK197.out 0).trans rfl, (blk_cell BK197.out 1).trans rfl, (blk_cell BK197.out 2).trans rfl⟩ (fun hHeld => ?_)
         clear hK K
         refine norm_ (a' := ?_) ?_ ?_
         rotate_left
         ·show Act.put _ (some 52) _ = _
          simp only [Act.put, List.setIfInBounds_toArray, List.set_cons_zero, List.set_cons_succ, i64_w, i32_w]
          rfl
         refine one_ (i := 9) (N := some 57) #[true, true, true, true, true, true, true, true, true, true, false, true, false] rfl rfl (one_of HT_.out (by kernel_rfl)) (by decide) (fun K hK => ?_)
         refine goes_ Try.func42 (by kernel_rfl) rfl #[.slice A0_1 l0_1.length c0_1, .slice A1_1 l1_1.length c1_1] (by rfl) rfl rfl (by (try simp only [List.map_toArray, List.map_cons, List.map_nil]); first | done | rfl | (simp only [List.length_drop, List.length_take]; rfl)) ?_
         with_reducible refine (matrix_merged_int.calls kj24 (fun k_ => k_ < w.heap.size) _ _ l0_1 (fun k_ => k_ < w.heap.size) _ _ l1_1 t208 _ ?side1 ?side2 A54.out).mono ?_
         (case side1 => exact Kd.V_mk HC0_1.out (Kd.F_below (Kd.C_F (Kd.heap_int .i64) HR0_1.out) (by repeat first | exact Bl HB | refine Bp (below_set ?_ GE196.out) | refine Bp (below_set ?_ GE197.out) | refine Bp (below_set ?_ GE198.out) | refine Bp (below_set ?_ GE211.out))))
         (case side2 => exact Kd.V_mk HC1_1.out (Kd.F_below (Kd.C_F (Kd.heap_int .i64) HR1_1.out) (by repeat first | exact Bl HB | refine Bp (below_set ?_ GE196.out) | refine Bp (below_set ?_ GE197.out) | refine Bp (below_set ?_ GE198.out) | refine Bp (below_set ?_ GE211.out))))
         rintro e w58 ⟨v209, rfl, ho0, hb⟩
         refine ⟨_, rfl, ?_⟩
         have n0_ := Am (Kd.R_elder' (Rl HO207) (Kd.R_base ho0) hb)
         have n1_ := Am (Kd.R_lower (Kd.R_new' (Kd.R_mono (ok' := fun k_ => True) ho0 (fun _ hk_ => trivial)) (Rb HO207)) (below_size (by repeat first | exact Bl HB | refine Bp (below_set ?_ GE196.out) | refine Bp (below_set ?_ GE197.out) | refine Bp (below_set ?_ GE198.out) | refine Bp (below_set ?_ GE211.out))))
         have n2_ := Am (blk_below (Kl BK196) hb)
         have n3_ := Am (blk_below (Kl BK197) hb)
         have n4_ := Am (blk_below (Kl BK198) hb)
         have n5_ := Am (blk_below (Kl BK211) hb)
         have n6_ := Am (below_step (by repeat first | exact Bl HB | refine Bp (below_set ?_ GE196.out) | refine Bp (below_set ?_ GE197.out) | refine Bp (below_set ?_ GE198.out) | refine Bp (below_set ?_ GE211.out)) hb)
         clear HO207 BK196 BK197 BK198 BK211 HB
         have HO207 := n0_
         have HO210 := n1_
         have BK196 := n2_
         have BK197 := n3_
         have BK198 := n4_
         have BK211 := n5_
         have HB := n6_
         clear n0_ n1_ n2_ n3_ n4_ n5_ n6_
         (try clear hb)
         (try clear hb2)
         (try clear hk)
         (try clear hi)
         (try clear ho0)
         obtain ⟨Ao59, co59, eo59⟩ := Kd.R_slice HO210.out
         (first | subst eo59 | (injection eo59 with f1_ f2_ f3_; have f4_ := f1_.symm; have f5_ := f3_.symm; clear f1_ f2_ f3_; subst f4_; subst f5_))
         obtain ⟨Ao60, co60, eo60⟩ := Kd.R_slice HO207.out
         (first | subst eo60 | (injection eo60 with f1_ f2_ f3_; have f4_ := f1_.symm; have f5_ := f3_.symm; clear f1_ f2_ f3_; subst f4_; subst f5_))
         refine hK.out _ _ ⟨(blk_cell BK196.out 0).trans rfl, (blk_cell BK196.out 1).trans rfl, (blk_cell BK196.out 2).trans rfl, (blk_cell BK197.out 0).trans rfl, (blk_cell BK197.out 1).trans rfl, (blk_cell BK197.out 2).trans rfl⟩ (fun hHeld => ?_)
         clear hK K
         refine norm_ (a' := ?_) ?_ ?_
         rotate_left
         ·show Act.put _ (some 57) _ = _
          simp only [Act.put, List.setIfInBounds_toArray, List.set_cons_zero, List.set_cons_succ, i64_w, i32_w]
          rfl
         refine pure_ (i := 10) (N := some 58) (v := ?_) (a' := ?_) #[true, true, true, true, true, true, true, true, true, true, true, true, false] rfl rfl (any_of HT_.out (by kernel_rfl)) (fun _ _ _ h => h) (Or.inl ⟨by rfl, ?_⟩) ?_ ?_
         rotate_left
         ·intro w'
          go_simp
          with_reducible rfl
         rotate_left
         ·simp only [Act.put, List.setIfInBounds_toArray, List.set_cons_zero, List.set_cons_succ, i64_w, i32_w]
          rfl
         exact norm_ (by simp only [putAll, Act.put, List.setIfInBounds_toArray, List.set_cons_zero, List.set_cons_succ]) (hCont (.slice Ao60 t205.length co60, .slice Ao59 t208.length co59, gb211) _ ⟨hHeld, (Rm (Kd.R_mono HO207.out (fun _ hk => hk.2))), (Rm (Kd.R_mono HO210.out (fun _ hk => hk.2))), (Kl BK196), (Kl BK197), (Kl BK198), (Kl BK211), GW211.out, GE211.out, NB196_211.out, NB211_196.out, NB197_211.out, NB211_197.out, NB198_211.out, NB211_198.out, (by repeat first | exact Bl HB | refine Bp (below_set ?_ GE196.out) | refine Bp (below_set ?_ GE197.out) | refine Bp (below_set ?_ GE198.out) | refine Bp (below_set ?_ GE211.out))⟩)
       rintro ⟨v206, v209, gb211⟩ w61 ⟨hS_, h0_, h1_, h2_, h3_, h4_, h5_, h6_, h7_, h8_, h9_, h10_, h11_, h12_, h13_, h14_⟩
       have n0_ : Aside0 (Kd.R (Kd.int .i64) 3 w61 w.heap.size (fun k_ => some k_ ≠ (v209 : Value).ownBlock) v206 t205) := ⟨h0_⟩
       have n1_ : Aside0 (Kd.R (Kd.int .i64) 3 w61 w.heap.size (fun k_ => some k_ ≠ (v206 : Value).ownBlock) v209 t208) := ⟨h1_⟩
       have n2_ : Aside0 (w61.heap[gb196]? = some (.cells #[.slice A0_0 l0_0.length c0_0, .slice A0_1 l0_1.length c0_1, .slice A0_2 l0_2.length c0_2] 39 (0, 0))) := ⟨h2_⟩
       have n3_ : Aside0 (w61.heap[gb197]? = some (.cells #[.slice A1_0 l1_0.length c1_0, .slice A1_1 l1_1.length c1_1, .slice A1_2 l1_2.length c1_2] 39 (0, 0))) := ⟨h3_⟩
       have n4_ : Aside0 (w61.heap[gb198]? = some (.cells #[.slice none 0 0, .slice none 0 0, .slice none 0 0] 39 (0, 0))) := ⟨h4_⟩
       have n5_ : Aside0 (w61.heap[gb211]? = some (.cells #[.slice none 0 0, .slice none 0 0, .slice none 0 0] 39 (0, 0))) := ⟨h5_⟩
       have n6_ : Aside0 (w.heap.size ≤ gb211) := ⟨h6_⟩
       have n7_ : Aside0 (w.heap.size ≤ gb211) := ⟨h7_⟩
       have n8_ : Aside0 (gb196 ≠ gb211) := ⟨h8_⟩
       have n9_ : Aside0 (gb211 ≠ gb196) := ⟨h9_⟩
       have n10_ : Aside0 (gb197 ≠ gb211) := ⟨h10_⟩
       have n11_ : Aside0 (gb211 ≠ gb197) := ⟨h11_⟩
       have n12_ : Aside0 (gb198 ≠ gb211) := ⟨h12_⟩
       have n13_ : Aside0 (gb211 ≠ gb198) := ⟨h13_⟩
       have n14_ : Aside0 (Below w.heap.size w w61) := ⟨h14_⟩
       clear BK196 BK197 BK198 HB
       clear h0_ h1_ h2_ h3_ h4_ h5_ h6_ h7_ h8_ h9_ h10_ h11_ h12_ h13_ h14_
       have HO207 := n0_
       have HO210 := n1_
       have BK196 := n2_
       have BK197 := n3_
       have BK198 := n4_
       have BK211 := n5_
       have GW211 := n6_
       have GE211 := n7_
       have NB196_211 := n8_
       have NB211_196 := n9_
       have NB197_211 := n10_
       have NB211_197 := n11_
       have NB198_211 := n12_
       have NB211_198 := n13_
       have HB := n14_
       clear n0_ n1_ n2_ n3_ n4_ n5_ n6_ n7_ n8_ n9_ n10_ n11_ n12_ n13_ n14_
       have hHeld : w61.cell? ⟨gb196, 0, none⟩ = some (.slice A0_0 l0_0.length c0_0) ∧ w61.cell? ⟨gb196, 1, none⟩ = some (.slice A0_1 l0_1.length c0_1) ∧ w61.cell? ⟨gb196, 2, none⟩ = some (.slice A0_2 l0_2.length c0_2) ∧ w61.cell? ⟨gb197, 0, none⟩ = some (.slice A1_0 l1_0.length c1_0) ∧ w61.cell? ⟨gb197, 1, none⟩ = some (.slice A1_1 l1_1.length c1_1) ∧ w61.cell? ⟨gb197, 2, none⟩ = some (.slice A1_2 l1_2.length c1_2) := hS_
       obtain ⟨Ao62, co62, eo62⟩ := Kd.R_slice HO210.out
       (first | subst eo62 | (injection eo62 with f1_ f2_ f3_; have f4_ := f1_.symm; have f5_ := f3_.symm; clear f1_ f2_ f3_; subst f4_; subst f5_))
       obtain ⟨Ao63, co63, eo63⟩ := Kd.R_slice HO207.out
       (first | subst eo63 | (injection eo63 with f1_ f2_ f3_; have f4_ := f1_.symm; have f5_ := f3_.symm; clear f1_ f2_ f3_; subst f4_; subst f5_))
       refine norm_ (a' := ?_) ?_ ?_
       rotate_left
       ·simp only [putAll, Act.put, List.setIfInBounds_toArray, List.set_cons_zero, List.set_cons_succ]
        rfl
       refine one_ (i := 12) (N := none) #[true, true, true, true, true, true, true, true, true, true, true, true, true] rfl rfl (one_of HT_.out (by kernel_rfl)) (by decide) (fun K hK => ?_)
       have hs64 : w61.cell? ⟨gb211, 0, none⟩ = some (.slice none 0 0) := (blk_cell BK211.out 0).trans rfl
       have hfs64 := blk_frozen BK211.out 0
       have hns64_0 := NB196_211.out
       have hns64_1 := NB197_211.out
       have hns64_2 := NB198_211.out
       have hms64_0 := NB211_196.out
       have hms64_1 := NB211_197.out
       have hms64_2 := NB211_198.out
       have hs65 : w61.cell? ⟨gb211, 1, none⟩ = some (.slice none 0 0) := (blk_cell BK211.out 1).trans rfl
       have hfs65 := blk_frozen BK211.out 1
       have hns65_0 := NB196_211.out
       have hns65_1 := NB197_211.out
       have hns65_2 := NB198_211.out
       have hms65_0 := NB211_196.out
       have hms65_1 := NB211_197.out
       have hms65_2 := NB211_198.out
       have hs66 : w61.cell? ⟨gb211, 2, none⟩ = some (.slice none 0 0) := (blk_cell BK211.out 2).trans rfl
       have hfs66 := blk_frozen BK211.out 2
       have hns66_0 := NB196_211.out
       have hns66_1 := NB197_211.out
       have hns66_2 := NB198_211.out
       have hms66_0 := NB211_196.out
       have hms66_1 := NB211_197.out
       have hms66_2 := NB211_198.out
       refine skip_ (w1 := ?_) (by rfl) rfl ?_ ?_
       rotate_left
       ·go_simp
        rfl
       refine hK.out _ _ ⟨((cell_far (p := ⟨gb211, _, none⟩) NB196_211.out _).trans (((cell_far (p := ⟨gb211, _, none⟩) NB196_211.out _).trans (((cell_far (p := ⟨gb211, _, none⟩) NB196_211.out _).trans (hHeld.1)))))), ((cell_far (p := ⟨gb211, _, none⟩) NB196_211.out _).trans (((cell_far (p := ⟨gb211, _, none⟩) NB196_211.out _).trans (((cell_far (p := ⟨gb211, _, none⟩) NB196_211.out _).trans (hHeld.2.1)))))), ((cell_far (p := ⟨gb211, _, none⟩) NB196_211.out _).trans (((cell_far (p := ⟨gb211, _, none⟩) NB196_211.out _).trans (((cell_far (p := ⟨gb211, _, none⟩) NB196_211.out _).trans (hHeld.2.2.1)))))), ((cell_far (p := ⟨gb211, _, none⟩) NB197_211.out _).trans (((cell_far (p := ⟨gb211, _, none⟩) NB197_211.out _).trans (((cell_far (p := ⟨gb211, _, none⟩) NB197_211.out _).trans (hHeld.2.2.2.1)))))), ((cell_far (p := ⟨gb211, _, none⟩) NB197_211.out _).trans (((cell_far (p := ⟨gb211, _, none⟩) NB197_211.out _).trans (((cell_far (p := ⟨gb211, _, none⟩) NB197_211.out _).trans (hHeld.2.2.2.2.1)))))), ((cell_far (p := ⟨gb211, _, none⟩) NB197_211.out _).trans (((cell_far (p := ⟨gb211, _, none⟩) NB197_211.out _).trans (((cell_far (p := ⟨gb211, _, none⟩) NB197_211.out _).trans (hHeld.2.2.2.2.2))))))⟩ (fun hHeld => ?_)
       clear hK K
       refine done_ (done_of HT_.out (by kernel_rfl)) ?_
       have hnb67 := NB211_196.out
       have hnc67 := NB196_211.out
       have hnb68 := NB211_197.out
       have hnc68 := NB197_211.out
       have hnb69 := NB211_198.out
       have hnc69 := NB198_211.out
       have hcz70_0 : w61.cell? ⟨gb211, 0, none⟩ = some (.slice none 0 0) := (blk_cell BK211.out 0).trans rfl
       have hcz70_1 : w61.cell? ⟨gb211, 1, none⟩ = some (.slice none 0 0) := (blk_cell BK211.out 1).trans rfl
       have hcz70_2 : w61.cell? ⟨gb211, 2, none⟩ = some (.slice none 0 0) := (blk_cell BK211.out 2).trans rfl
       have hfz70_0 := blk_frozen BK211.out 0
       have hfz70_1 := blk_frozen BK211.out 1
       have hfz70_2 := blk_frozen BK211.out 2
       try go_wp2
       go_loopg [62] kj24 (fun kq v62 w' => ∃ (x62_3 : Int) (x212002_3 : List (List Int)) (u212002 : Value), v62 = .int .i64 x62_3 ∧ Aside0 (matrix_Merge.l0 kq t205 t208 (t205.length : Int) x62_3 l0_0 l0_1 l0_2 l1_0 l1_1 l1_2 x212002_3 = some (r1, r2, r3, r4)) ∧ Aside0 (kq ≤ kj24) ∧ Aside0 (Kd.R (Kd.int .i64) 3 w' w.heap.size (fun k_ => some k_ ≠ ((.slice Ao62 t208.length co62) : Value).ownBlock) (.slice Ao63 t205.length co63) t205) ∧ Aside0 (Kd.R (Kd.int .i64) 3 w' w.heap.size (fun k_ => some k_ ≠ ((.slice Ao63 t205.length co63) : Value).ownBlock) (.slice Ao62 t208.length co62) t208) ∧ Aside0 (Kd.S (Kd.slice 3 (Kd.int .i64)) 36 w' w.heap.size (fun k_ => some k_ ≠ ((.slice Ao63 t205.length co63) : Value).ownBlock ∧ some k_ ≠ ((.slice Ao62 t208.length co62) : Value).ownBlock) u212002 x212002_3) ∧ Aside0 (w'.heap[gb196]? = some (.cells #[(.slice A0_0 l0_0.length c0_0), (.slice A0_1 l0_1.length c0_1), (.slice A0_2 l0_2.length c0_2)] 39 (0, 0))) ∧ Aside0 (w'.heap[gb197]? = some (.cells #[(.slice A1_0 l1_0.length c1_0), (.slice A1_1 l1_1.length c1_1), (.slice A1_2 l1_2.length c1_2)] 39 (0, 0))) ∧ Aside0 (w'.heap[gb198]? = some (.cells #[(.slice none 0 0), (.slice none 0 0), (.slice none 0 0)] 39 (0, 0))) ∧ Aside0 (w'.heap[gb211]? = some (.cells #[(.slice Ao63 t205.length co63), (.slice Ao62 t208.length co62), u212002] 39 (0, 0))) ∧ Aside0 (Below w.heap.size w w'))
       case atStart => exact ⟨(0), (([] : List (List Int))), (.slice none 0 0), (by first | rfl | (simp; done) | (simp [*]; done)), H', ⟨Nat.le_refl _⟩, ⟨Rm (Kd.R_mono (Kd.R_far (p := ⟨gb211, 2, none⟩) (Kd.R_far (p := ⟨gb211, 1, none⟩) (Kd.R_far (p := ⟨gb211, 0, none⟩) (Kd.R_types HO207.out BK211.out (by decide)) (fun _ hk => hk.2) (.slice Ao63 t205.length co63)) (fun _ hk => hk.2) (.slice Ao62 t208.length co62)) (fun _ hk => hk.2) (.slice none 0 0)) (fun _ hk => hk.1))⟩, ⟨Rm (Kd.R_mono (Kd.R_far (p := ⟨gb211, 2, none⟩) (Kd.R_far (p := ⟨gb211, 1, none⟩) (Kd.R_far (p := ⟨gb211, 0, none⟩) (Kd.R_types HO210.out BK211.out (by decide)) (fun _ hk => hk.2) (.slice Ao63 t205.length co63)) (fun _ hk => hk.2) (.slice Ao62 t208.length co62)) (fun _ hk => hk.2) (.slice none 0 0)) (fun _ hk => hk.1))⟩, ⟨by first | exact Kd.S_nil _ _ _ _ _ | exact Kd.N_nil _ _ _ _ _ | exact Kd.V_nil _ _ _ _ _ | exact Kd.Q_nil _ _ _ _ _ | exact Kd.R_nil _ _ _ _ _⟩, ⟨by refine Kp ?_; refine blk_far ?_ NB196_211.out _; refine Kp ?_; refine blk_far ?_ NB196_211.out _; refine Kp ?_; refine blk_far ?_ NB196_211.out _; refine Kp ?_; exact BK196.out⟩, ⟨by refine Kp ?_; refine blk_far ?_ NB197_211.out _; refine Kp ?_; refine blk_far ?_ NB197_211.out _; refine Kp ?_; refine blk_far ?_ NB197_211.out _; refine Kp ?_; exact BK197.out⟩, ⟨by refine Kp ?_; refine blk_far ?_ NB198_211.out _; refine Kp ?_; refine blk_far ?_ NB198_211.out _; refine Kp ?_; refine blk_far ?_ NB198_211.out _; refine Kp ?_; exact BK198.out⟩, ⟨by refine Kp ?_; refine blk_put (cs := #[.slice Ao63 t205.length co63, .slice Ao62 t208.length co62, .slice none 0 0]) ?_ 2 _ rfl; refine Kp ?_; refine blk_put (cs := #[.slice Ao63 t205.length co63, .slice none 0 0, .slice none 0 0]) ?_ 1 _ rfl; refine Kp ?_; refine blk_put (cs := #[.slice none 0 0, .slice none 0 0, .slice none 0 0]) ?_ 0 _ rfl; refine Kp ?_; exact BK211.out⟩, ⟨by repeat first | exact Bl HB | refine Bp (below_set ?_ GE196.out) | refine Bp (below_set ?_ GE197.out) | refine Bp (below_set ?_ GE198.out) | refine Bp (below_set ?_ GE211.out)⟩⟩
       case round =>
        clear H'
        try clear c1
        try clear p2
        try clear c4
        try clear c5
        try clear c6
        try clear c42
        try clear c49
        try clear c50
        try clear c51
        try clear c67
        try clear c68
        try clear c69
        try clear hcz52_0
        try clear hcz52_1
        try clear hcz52_2
        try clear hcz70_0
        try clear hcz70_1
        try clear hcz70_2
        try clear hfz40_1
        try clear hfz40_2
        try clear hfz42_0
        try clear hfz42_1
        try clear hfz42_2
        try clear hfz45_0
        try clear hfz45_1
        try clear hfz45_2
        try clear hfz48_0
        try clear hfz48_1
        try clear hfz48_2
        try clear hfz52_0
        try clear hfz52_1
        try clear hfz52_2
        try clear hfz70_0
        try clear hfz70_1
        try clear hfz70_2
        try clear p2
        obtain ⟨x62_3, x212002_3, u212002, rfl, HA, HK3, HO_52, HO_57, HO_212002, BK196, BK197, BK198, BK211, HB⟩ := hrel
        cases gk with
        | zero => exact absurd HA.out (by simp [matrix_Merge.l0])
        | succ k3 =>
         have H := HA.out
         clear HA
         simp only [matrix_Merge.l0] at H
         by_cases c71 : x62_3 < (t205.length : Int)
         ·rw [if_pos c71] at H
          have c71b0 : decide (x62_3 < (t205.length : Int)) = true := decide_eq_true c71
          clear c71
          by_cases c72 : 0 ≤ x62_3
          ·rw [if_pos c72] at H
           have c72b0 : decide (0 ≤ x62_3) = true := decide_eq_true c72
           clear c72
           by_cases c73 : x62_3 < (t205.length : Int)
           ·rw [if_pos c73] at H
            have c73b0 : decide (x62_3 < (t205.length : Int)) = true := decide_eq_true c73
            clear c73
            by_cases c74 : 0 ≤ (t208.length : Int)
            ·rw [if_pos c74] at H
             have c74b0 := eq_true c74
             have c74b1 : decide (0 ≤ (t208.length : Int)) = true := decide_eq_true c74
             clear c74
             by_cases c75 : ((t208.length : Int) : Int).toNat ≤ 35184372088832
             ·rw [if_pos c75] at H
              have c75b0 := eq_true c75
              have c75b1 : decide (((t208.length : Int) : Int).toNat ≤ 35184372088832) = true := decide_eq_true c75
              clear c75
              obtain ⟨y213, hy213⟩ : ∃ y_ : List Int, y_ = (([] : List Int)) := ⟨_, rfl⟩
              replace H : (matrix_Merge.l1 k3 (rd t205 x62_3) y213 t205 t208 (t205.length : Int) x62_3 (t208.length : Int) 0 l0_0 l0_1 l0_2 l1_0 l1_1 l1_2 x212002_3) = some (r1, r2, r3, r4) := by first | (rw [hy213]; with_reducible exact H) | (have H2_ := (Option.bind_some _ _).symm.trans H; rw [hy213]; with_reducible exact H2_) | (have H2_ := (Option.bind_some _ _).symm.trans H; with_reducible exact H2_) | with_reducible exact H | (rw [hy213]; exact H) | exact H
              have Ny213 := Am hy213
              clear hy213
              have H' := Am H
              clear H
              have p212 : 0 ≤ (x62_3 : Int) := of_decide_eq_true (by first | (with_reducible assumption) | assumption)
              have q212 : x62_3 < (t205.length : Int) := of_decide_eq_true (by first | (with_reducible assumption) | assumption)
              obtain ⟨ad212, e212, hx212_0⟩ := Kd.at_int (Kd.R_reads' HO_52.out).2.2 x62_3 p212 q212
              cases e212
              replace p212 := eq_true p212
              replace q212 := eq_true q212
              have hnb76 := NB211_196.out
              have hnc76 := NB196_211.out
              have hnb77 := NB211_197.out
              have hnc77 := NB197_211.out
              have hnb78 := NB211_198.out
              have hnc78 := NB198_211.out
              have hcz79_0 : wr.cell? ⟨gb211, 0, none⟩ = some (.slice (some ad212) t205.length co63) := (blk_cell BK211.out 0).trans rfl
              have hcz79_1 : wr.cell? ⟨gb211, 1, none⟩ = some (.slice Ao62 t208.length co62) := (blk_cell BK211.out 1).trans rfl
              have hcz79_2 : wr.cell? ⟨gb211, 2, none⟩ = some (u212002) := (blk_cell BK211.out 2).trans rfl
              have hfz79_0 := blk_frozen BK211.out 0
              have hfz79_1 := blk_frozen BK211.out 1
              have hfz79_2 := blk_frozen BK211.out 2
              go_wp2_with (first | ((with_reducible refine gate_dst (N := 69) rfl ?_); (try (refine gate_guard (by rfl) ?_; dsimp only)); refine Go.Proofs.YtgeplglggcoaiabMakec.R_makec (Kd.int .i64) _ 3 rfl (N := 69) rfl 36 _ _ rfl (t208.length : Int) rfl rfl Try.underlying36 (.int .i64 0) 8 info3 rfl (by decide) (by omega) 0 (ok := fun _ => True) (okp := fun _ => True) rfl (fun _ hk => hk) trivial (of_decide_eq_true (by first | (with_reducible assumption) | assumption)) (Nat.le_trans (Nat.mul_le_mul_right _ (of_decide_eq_true (by first | (with_reducible assumption) | assumption) : (t208.length : Int).toNat ≤ 35184372088832)) (by omega)) (Below.refl _ _) (Nat.le_refl _) ?_; intro v214 w80 ho81 hb hg_ hnew_; clear hg_ hnew_; (first | rw [← Ny213.out] at ho81 | (simp only [Int.reduceToNat] at ho81; rw [← Ny213.out] at ho81)); have n0_ := Am (Kd.R_elder' (Rl HO_52) (Kd.R_base ho81) hb); have n1_ := Am (Kd.R_elder' (Rl HO_57) (Kd.R_base ho81) hb); have n2_ := Am (Kd.S_elder' (Sl HO_212002) (Kd.R_base ho81) hb); have n3_ := Am (Kd.R_lower (Kd.R_new' (Kd.R_new' ho81 (Rb HO_52)) (Rb HO_57)) (below_size (by repeat first | exact Bl HB | refine Bp (below_set ?_ GE196.out) | refine Bp (below_set ?_ GE197.out) | refine Bp (below_set ?_ GE198.out) | refine Bp (below_set ?_ GE211.out)))); have n4_ := Am (blk_below (Kl BK196) hb); have n5_ := Am (blk_below (Kl BK197) hb); have n6_ := Am (blk_below (Kl BK198) hb); have n7_ := Am (blk_below (Kl BK211) hb); have n8_ := Am (below_step (by repeat first | exact Bl HB | refine Bp (below_set ?_ GE196.out) | refine Bp (below_set ?_ GE197.out) | refine Bp (below_set ?_ GE198.out) | refine Bp (below_set ?_ GE211.out)) hb); clear HO_52 HO_57 HO_212002 BK196 BK197 BK198 BK211 HB; have HO_52 := n0_; have HO_57 := n1_; have HO_212002 := n2_; have HO215 := n3_; have BK196 := n4_; have BK197 := n5_; have BK198 := n6_; have BK211 := n7_; have HB := n8_; clear n0_ n1_ n2_ n3_ n4_ n5_ n6_ n7_ n8_; clear hb ho81; have hcz82_0 : w80.cell? ⟨gb211, 0, none⟩ = some (.slice (some ad212) t205.length co63) := (blk_cell BK211.out 0).trans rfl; have hcz82_1 : w80.cell? ⟨gb211, 1, none⟩ = some (.slice Ao62 t208.length co62) := (blk_cell BK211.out 1).trans rfl; have hcz82_2 : w80.cell? ⟨gb211, 2, none⟩ = some (u212002) := (blk_cell BK211.out 2).trans rfl; have hfz82_0 := blk_frozen BK211.out 0; have hfz82_1 := blk_frozen BK211.out 1; have hfz82_2 := blk_frozen BK211.out 2))
              go_loopg [9, 73] k3 (fun kq v9 v73 w' => ∃ (x9_4 : List Int) (x73_4 : Int), v73 = .int .i64 x73_4 ∧ Aside0 (matrix_Merge.l1 kq (rd t205 x62_3) x9_4 t205 t208 (t205.length : Int) x62_3 (t208.length : Int) x73_4 l0_0 l0_1 l0_2 l1_0 l1_1 l1_2 x212002_3 = some (r1, r2, r3, r4)) ∧ Aside0 (kq ≤ k3) ∧ Aside0 (Kd.R (Kd.int .i64) 3 w' w.heap.size (fun k_ => some k_ ≠ ((.slice (some ad212) t205.length co63) : Value).ownBlock ∧ some k_ ≠ ((.slice Ao62 t208.length co62) : Value).ownBlock) v9 x9_4) ∧ Aside0 (Kd.R (Kd.int .i64) 3 w' w.heap.size (fun k_ => some k_ ≠ (v9 : Value).ownBlock ∧ some k_ ≠ ((.slice Ao62 t208.length co62) : Value).ownBlock) (.slice (some ad212) t205.length co63) t205) ∧ Aside0 (Kd.R (Kd.int .i64) 3 w' w.heap.size (fun k_ => some k_ ≠ (v9 : Value).ownBlock ∧ some k_ ≠ ((.slice (some ad212) t205.length co63) : Value).ownBlock) (.slice Ao62 t208.length co62) t208) ∧ Aside0 (Kd.S (Kd.slice 3 (Kd.int .i64)) 36 w' w.heap.size (fun k_ => some k_ ≠ (v9 : Value).ownBlock ∧ some k_ ≠ ((.slice (some ad212) t205.length co63) : Value).ownBlock ∧ some k_ ≠ ((.slice Ao62 t208.length co62) : Value).ownBlock) u212002 x212002_3) ∧ Aside0 (w'.heap[gb196]? = some (.cells #[(.slice A0_0 l0_0.length c0_0), (.slice A0_1 l0_1.length c0_1), (.slice A0_2 l0_2.length c0_2)] 39 (0, 0))) ∧ Aside0 (w'.heap[gb197]? = some (.cells #[(.slice A1_0 l1_0.length c1_0), (.slice A1_1 l1_1.length c1_1), (.slice A1_2 l1_2.length c1_2)] 39 (0, 0))) ∧ Aside0 (w'.heap[gb198]? = some (.cells #[(.slice none 0 0), (.slice none 0 0), (.slice none 0 0)] 39 (0, 0))) ∧ Aside0 (w'.heap[gb211]? = some (.cells #[(.slice (some ad212) t205.length co63), (.slice Ao62 t208.length co62), u212002] 39 (0, 0))) ∧ Aside0 (Below w.heap.size w w'))
              case atStart => exact ⟨(y213), (0), (by first | rfl | (simp; done) | (simp [*]; done)), H', ⟨Nat.le_refl _⟩, ⟨Rm (Kd.R_mono HO215.out (fun _ hk => ⟨hk.1.2, hk.2⟩))⟩, ⟨Rm (Kd.R_mono HO_52.out (fun _ hk => ⟨hk.2, hk.1⟩))⟩, ⟨Rm (Kd.R_mono HO_57.out (fun _ hk => ⟨hk.2, hk.1⟩))⟩, ⟨Sm (Kd.S_mono HO_212002.out (fun _ hk => ⟨hk.2, ⟨hk.1.1, hk.1.2⟩⟩))⟩, ⟨Kl BK196⟩, ⟨Kl BK197⟩, ⟨Kl BK198⟩, ⟨Kl BK211⟩, ⟨by repeat first | exact Bl HB | refine Bp (below_set ?_ GE196.out) | refine Bp (below_set ?_ GE197.out) | refine Bp (below_set ?_ GE198.out) | refine Bp (below_set ?_ GE211.out)⟩⟩
              case round =>
               clear H'
               try clear c1
               try clear p2
               try clear q2
               try clear hx2
               try clear c4
               try clear c5
               try clear c6
               try clear c7
               try clear p21
               try clear q21
               try clear hx21
               try clear c42
               try clear c49
               try clear c50
               try clear c51
               try clear c67
               try clear c68
               try clear c69
               try clear c71
               try clear c71b0
               try clear c72
               try clear c72b0
               try clear c73
               try clear c73b0
               try clear c74
               try clear c74b0
               try clear c74b1
               try clear c75
               try clear c75b0
               try clear c75b1
               try clear c76
               try clear c77
               try clear c78
               try clear hcz52_0
               try clear hcz52_1
               try clear hcz52_2
               try clear hcz70_0
               try clear hcz70_1
               try clear hcz70_2
               try clear hcz79_0
               try clear hcz79_1
               try clear hcz79_2
               try clear hcz82_0
               try clear hcz82_1
               try clear hcz82_2
               try clear hfz40_1
               try clear hfz40_2
               try clear hfz42_0
               try clear hfz42_1
               try clear hfz42_2
               try clear hfz45_0
               try clear hfz45_1
               try clear hfz45_2
               try clear hfz48_0
               try clear hfz48_1
               try clear hfz48_2
               try clear hfz52_0
               try clear hfz52_1
               try clear hfz52_2
               try clear hfz70_0
               try clear hfz70_1
               try clear hfz70_2
               try clear hfz79_0
               try clear hfz79_1
               try clear hfz79_2
               try clear hfz82_0
               try clear hfz82_1
               try clear hfz82_2
               try clear hx212_0
               try clear p2
               try clear p212
               try clear q212
               obtain ⟨x9_4, x73_4, rfl, HA, HK4, HO_9, HO_52, HO_57, HO_212002, BK196, BK197, BK198, BK211, HB⟩ := hrel
               cases gk with
               | zero => exact absurd HA.out (by simp [matrix_Merge.l1])
               | succ k4 =>
                have H := HA.out
                clear HA
                simp only [matrix_Merge.l1] at H
                by_cases c83 : x73_4 < (t208.length : Int)
                ·rw [if_pos c83] at H
                 have c83b0 : decide (x73_4 < (t208.length : Int)) = true := decide_eq_true c83
                 clear c83
                 by_cases c84 : 0 ≤ x73_4
                 ·rw [if_pos c84] at H
                  have c84b0 : decide (0 ≤ x73_4) = true := decide_eq_true c84
                  clear c84
                  by_cases c85 : x73_4 < (t208.length : Int)
                  ·rw [if_pos c85] at H
                   have c85b0 : decide (x73_4 < (t208.length : Int)) = true := decide_eq_true c85
                   clear c85
                   replace H := Option.bind_eq_some_iff.mp H
                   obtain ⟨⟨t220, t221⟩, A860, H⟩ := H
                   replace H : ((matrix_cell.f k4 l1_0 l1_1 l1_2 (rd t205 x62_3) (rd t208 x73_4)).bind fun bt222 => (if t221 = true then (if bt222.2 = true then (matrix_Merge.j4 k4 (rd t205 x62_3) x9_4 t220 t221 bt222.1 t205 t208 (t205.length : Int) x62_3 (t208.length : Int) x73_4 (t220 != bt222.1) l0_0 l0_1 l0_2 l1_0 l1_1 l1_2 t205 t208 x212002_3) else (matrix_Merge.j4 k4 (rd t205 x62_3) x9_4 t220 t221 bt222.1 t205 t208 (t205.length : Int) x62_3 (t208.length : Int) x73_4 false l0_0 l0_1 l0_2 l1_0 l1_1 l1_2 t205 t208 x212002_3)) else (matrix_Merge.j4 k4 (rd t205 x62_3) x9_4 t220 t221 bt222.1 t205 t208 (t205.length : Int) x62_3 (t208.length : Int) x73_4 false l0_0 l0_1 l0_2 l1_0 l1_1 l1_2 t205 t208 x212002_3))) = some (r1, r2, r3, r4) := H
                   have A86 := Am A860
                   clear A860
                   replace H := Option.bind_eq_some_iff.mp H
                   obtain ⟨⟨t222, t223⟩, A870, H⟩ := H
                   replace H : (if t221 = true then (if t223 = true then (matrix_Merge.j4 k4 (rd t205 x62_3) x9_4 t220 t221 t222 t205 t208 (t205.length : Int) x62_3 (t208.length : Int) x73_4 (t220 != t222) l0_0 l0_1 l0_2 l1_0 l1_1 l1_2 t205 t208 x212002_3) else (matrix_Merge.j4 k4 (rd t205 x62_3) x9_4 t220 t221 t222 t205 t208 (t205.length : Int) x62_3 (t208.length : Int) x73_4 false l0_0 l0_1 l0_2 l1_0 l1_1 l1_2 t205 t208 x212002_3)) else (matrix_Merge.j4 k4 (rd t205 x62_3) x9_4 t220 t221 t222 t205 t208 (t205.length : Int) x62_3 (t208.length : Int) x73_4 false l0_0 l0_1 l0_2 l1_0 l1_1 l1_2 t205 t208 x212002_3)) = some (r1, r2, r3, r4) := H
                   have A87 := Am A870
                   clear A870
                   have HC88 := Am H
                   clear H
                   have p219 : 0 ≤ (x73_4 : Int) := of_decide_eq_true (by first | (with_reducible assumption) | assumption)
                   have q219 : x73_4 < (t208.length : Int) := of_decide_eq_true (by first | (with_reducible assumption) | assumption)
                   obtain ⟨ad219, e219, hx219_0⟩ := Kd.at_int (Kd.R_reads' HO_57.out).2.2 x73_4 p219 q219
                   cases e219
                   replace p219 := eq_true p219
                   replace q219 := eq_true q219
                   have hnb89 := NB196_197.out
                   have hnc89 := NB197_196.out
                   have hnb90 := NB196_198.out
                   have hnc90 := NB198_196.out
                   have hnb91 := NB196_211.out
                   have hnc91 := NB211_196.out
                   have hcz92_0 : wr.cell? ⟨gb196, 0, none⟩ = some (.slice A0_0 l0_0.length c0_0) := (blk_cell BK196.out 0).trans rfl
                   have hcz92_1 : wr.cell? ⟨gb196, 1, none⟩ = some (.slice A0_1 l0_1.length c0_1) := (blk_cell BK196.out 1).trans rfl
                   have hcz92_2 : wr.cell? ⟨gb196, 2, none⟩ = some (.slice A0_2 l0_2.length c0_2) := (blk_cell BK196.out 2).trans rfl
                   have hfz92_0 := blk_frozen BK196.out 0
                   have hfz92_1 := blk_frozen BK196.out 1
                   have hfz92_2 := blk_frozen BK196.out 2
                   go_upto_region 15 with (first | ((with_reducible refine gate_callee (f := 43) rfl ?_); refine goesL_ (some 81) rfl rfl Try.func43 (by kernel_rfl) rfl #[.agg #[.slice A0_0 l0_0.length c0_0, .slice A0_1 l0_1.length c0_1, .slice A0_2 l0_2.length c0_2], .int .i64 (rd t205 x62_3), .int .i64 (rd t208 x73_4)] rfl (by (try simp only [List.map_toArray, List.map_cons, List.map_nil]); first | done | rfl | (simp only [List.length_drop, List.length_take]; rfl)) ?_; (with_reducible refine (matrix_cell.calls k4 _ _ l0_0 _ _ l0_1 _ _ l0_2 (rd t205 x62_3) (rd t208 x73_4) t220 t221 _ ?side1 ?side2 ?side3 ?side4 ?side5 ?side6 A86.out).mono ?_); (case side1 => repeat (first | exact (Kd.C_below HR0_0.out HB.out) | (with_reducible refine Kd.C_alloc ?_ _) | (with_reducible refine Kd.C_drewN ?_ _) | (with_reducible refine Kd.C_drew ?_))); (case side2 => exact HC0_0.out); (case side3 => repeat (first | exact (Kd.C_below HR0_1.out HB.out) | (with_reducible refine Kd.C_alloc ?_ _) | (with_reducible refine Kd.C_drewN ?_ _) | (with_reducible refine Kd.C_drew ?_))); (case side4 => exact HC0_1.out); (case side5 => repeat (first | exact (Kd.C_below HR0_2.out HB.out) | (with_reducible refine Kd.C_alloc ?_ _) | (with_reducible refine Kd.C_drewN ?_ _) | (with_reducible refine Kd.C_drew ?_))); (case side6 => exact HC0_2.out); rintro e w93 ⟨rfl, hb⟩; refine ⟨_, rfl, ?_⟩; have n0_ := Am (Kd.R_below (Rl HO_9) hb); have n1_ := Am (Kd.R_below (Rl HO_52) hb); have n2_ := Am (Kd.R_below (Rl HO_57) hb); have n3_ := Am (Kd.S_below (Sl HO_212002) hb); have n4_ := Am (blk_below (Kl BK196) hb); have n5_ := Am (blk_below (Kl BK197) hb); have n6_ := Am (blk_below (Kl BK198) hb); have n7_ := Am (blk_below (Kl BK211) hb); have n8_ := Am (below_step (by repeat first | exact Bl HB | refine Bp (below_set ?_ GE196.out) | refine Bp (below_set ?_ GE197.out) | refine Bp (below_set ?_ GE198.out) | refine Bp (below_set ?_ GE211.out)) hb); clear HO_9 HO_52 HO_57 HO_212002 BK196 BK197 BK198 BK211 HB; have HO_9 := n0_; have HO_52 := n1_; have HO_57 := n2_; have HO_212002 := n3_; have BK196 := n4_; have BK197 := n5_; have BK198 := n6_; have BK211 := n7_; have HB := n8_; clear n0_ n1_ n2_ n3_ n4_ n5_ n6_ n7_ n8_; (try clear hb); (try clear hb2); (try clear hk); (try clear hi); have hnb94 := NB197_198.out; have hnc94 := NB198_197.out; have hnb95 := NB197_211.out; have hnc95 := NB211_197.out; have hcz96_0 : w93.cell? ⟨gb197, 0, none⟩ = some (.slice A1_0 l1_0.length c1_0) := (blk_cell BK197.out 0).trans rfl; have hcz96_1 : w93.cell? ⟨gb197, 1, none⟩ = some (.slice A1_1 l1_1.length c1_1) := (blk_cell BK197.out 1).trans rfl; have hcz96_2 : w93.cell? ⟨gb197, 2, none⟩ = some (.slice A1_2 l1_2.length c1_2) := (blk_cell BK197.out 2).trans rfl; have hfz96_0 := blk_frozen BK197.out 0; have hfz96_1 := blk_frozen BK197.out 1; have hfz96_2 := blk_frozen BK197.out 2) | ((with_reducible refine gate_callee (f := 43) rfl ?_); refine goesL_ (some 88) rfl rfl Try.func43 (by kernel_rfl) rfl #[.agg #[.slice A1_0 l1_0.length c1_0, .slice A1_1 l1_1.length c1_1, .slice A1_2 l1_2.length c1_2], .int .i64 (rd t205 x62_3), .int .i64 (rd t208 x73_4)] rfl (by (try simp only [List.map_toArray, List.map_cons, List.map_nil]); first | done | rfl | (simp only [List.length_drop, List.length_take]; rfl)) ?_; (with_reducible refine (matrix_cell.calls k4 _ _ l1_0 _ _ l1_1 _ _ l1_2 (rd t205 x62_3) (rd t208 x73_4) t222 t223 _ ?side1 ?side2 ?side3 ?side4 ?side5 ?side6 A87.out).mono ?_); (case side1 => repeat (first | exact (Kd.C_below HR1_0.out HB.out) | (with_reducible refine Kd.C_alloc ?_ _) | (with_reducible refine Kd.C_drewN ?_ _) | (with_reducible refine Kd.C_drew ?_))); (case side2 => exact HC1_0.out); (case side3 => repeat (first | exact (Kd.C_below HR1_1.out HB.out) | (with_reducible refine Kd.C_alloc ?_ _) | (with_reducible refine Kd.C_drewN ?_ _) | (with_reducible refine Kd.C_drew ?_))); (case side4 => exact HC1_1.out); (case side5 => repeat (first | exact (Kd.C_below HR1_2.out HB.out) | (with_reducible refine Kd.C_alloc ?_ _) | (with_reducible refine Kd.C_drewN ?_ _) | (with_reducible refine Kd.C_drew ?_))); (case side6 => exact HC1_2.out); rintro e w97 ⟨rfl, hb⟩; refine ⟨_, rfl, ?_⟩; have n0_ := Am (Kd.R_below (Rl HO_9) hb); have n1_ := Am (Kd.R_below (Rl HO_52) hb); have n2_ := Am (Kd.R_below (Rl HO_57) hb); have n3_ := Am (Kd.S_below (Sl HO_212002) hb); have n4_ := Am (blk_below (Kl BK196) hb); have n5_ := Am (blk_below (Kl BK197) hb); have n6_ := Am (blk_below (Kl BK198) hb); have n7_ := Am (blk_below (Kl BK211) hb); have n8_ := Am (below_step (by repeat first | exact Bl HB | refine Bp (below_set ?_ GE196.out) | refine Bp (below_set ?_ GE197.out) | refine Bp (below_set ?_ GE198.out) | refine Bp (below_set ?_ GE211.out)) hb); clear HO_9 HO_52 HO_57 HO_212002 BK196 BK197 BK198 BK211 HB; have HO_9 := n0_; have HO_52 := n1_; have HO_57 := n2_; have HO_212002 := n3_; have BK196 := n4_; have BK197 := n5_; have BK198 := n6_; have BK211 := n7_; have HB := n8_; clear n0_ n1_ n2_ n3_ n4_ n5_ n6_ n7_ n8_; (try clear hb); (try clear hb2); (try clear hk); (try clear hi)))
                   (try simp only [Act.put, List.setIfInBounds_toArray, List.set_cons_zero, List.set_cons_succ])
                   go_cut [99] (fun v99 wc => ∃ (kq : Nat) (x99_87 : Bool), v99 = .bool x99_87 ∧ Aside0 (matrix_Merge.j4 kq (rd t205 x62_3) x9_4 t220 t221 t222 t205 t208 (t205.length : Int) x62_3 (t208.length : Int) x73_4 x99_87 l0_0 l0_1 l0_2 l1_0 l1_1 l1_2 t205 t208 x212002_3 = some (r1, r2, r3, r4)) ∧ Aside0 (kq ≤ k4) ∧ Aside0 (Kd.R (Kd.int .i64) 3 wc w.heap.size (fun k_ => some k_ ≠ ((.slice (some ad212) t205.length co63) : Value).ownBlock ∧ some k_ ≠ ((.slice (some ad219) t208.length co62) : Value).ownBlock ∧ some k_ ≠ ((.slice (some ad212) t205.length co63) : Value).ownBlock ∧ some k_ ≠ ((.slice (some ad219) t208.length co62) : Value).ownBlock) u9 x9_4) ∧ Aside0 (Kd.R (Kd.int .i64) 3 wc w.heap.size (fun k_ => some k_ ≠ (u9 : Value).ownBlock ∧ some k_ ≠ ((.slice (some ad219) t208.length co62) : Value).ownBlock ∧ some k_ ≠ ((.slice (some ad219) t208.length co62) : Value).ownBlock) (.slice (some ad212) t205.length co63) t205) ∧ Aside0 (Kd.R (Kd.int .i64) 3 wc w.heap.size (fun k_ => some k_ ≠ (u9 : Value).ownBlock ∧ some k_ ≠ ((.slice (some ad212) t205.length co63) : Value).ownBlock ∧ some k_ ≠ ((.slice (some ad212) t205.length co63) : Value).ownBlock) (.slice (some ad219) t208.length co62) t208) ∧ Aside0 (Kd.R (Kd.int .i64) 3 wc w.heap.size (fun k_ => some k_ ≠ (u9 : Value).ownBlock ∧ some k_ ≠ ((.slice (some ad219) t208.length co62) : Value).ownBlock ∧ some k_ ≠ ((.slice (some ad219) t208.length co62) : Value).ownBlock) (.slice (some ad212) t205.length co63) t205) ∧ Aside0 (Kd.R (Kd.int .i64) 3 wc w.heap.size (fun k_ => some k_ ≠ (u9 : Value).ownBlock ∧ some k_ ≠ ((.slice (some ad212) t205.length co63) : Value).ownBlock ∧ some k_ ≠ ((.slice (some ad212) t205.length co63) : Value).ownBlock) (.slice (some ad219) t208.length co62) t208) ∧ Aside0 (Kd.S (Kd.slice 3 (Kd.int .i64)) 36 wc w.heap.size (fun k_ => some k_ ≠ (u9 : Value).ownBlock ∧ some k_ ≠ ((.slice (some ad212) t205.length co63) : Value).ownBlock ∧ some k_ ≠ ((.slice (some ad219) t208.length co62) : Value).ownBlock ∧ some k_ ≠ ((.slice (some ad212) t205.length co63) : Value).ownBlock ∧ some k_ ≠ ((.slice (some ad219) t208.length co62) : Value).ownBlock) u212002 x212002_3) ∧ Aside0 (wc.heap[gb196]? = some (.cells #[(.slice A0_0 l0_0.length c0_0), (.slice A0_1 l0_1.length c0_1), (.slice A0_2 l0_2.length c0_2)] 39 (0, 0))) ∧ Aside0 (wc.heap[gb197]? = some (.cells #[(.slice A1_0 l1_0.length c1_0), (.slice A1_1 l1_1.length c1_1), (.slice A1_2 l1_2.length c1_2)] 39 (0, 0))) ∧ Aside0 (wc.heap[gb198]? = some (.cells #[(.slice none 0 0), (.slice none 0 0), (.slice none 0 0)] 39 (0, 0))) ∧ Aside0 (wc.heap[gb211]? = some (.cells #[(.slice (some ad212) t205.length co63), (.slice (some ad219) t208.length co62), u212002] 39 (0, 0))) ∧ Aside0 (Below w.heap.size w wc))
                   case first =>
                    have H := HC88.out
                    clear HC88
                    by_cases c98 : t221 = true
                    ·subst c98
                     have H1 : (if t223 = true then (matrix_Merge.j4 k4 (rd t205 x62_3) x9_4 t220 true t222 t205 t208 (t205.length : Int) x62_3 (t208.length : Int) x73_4 (t220 != t222) l0_0 l0_1 l0_2 l1_0 l1_1 l1_2 t205 t208 x212002_3) else (matrix_Merge.j4 k4 (rd t205 x62_3) x9_4 t220 true t222 t205 t208 (t205.length : Int) x62_3 (t208.length : Int) x73_4 false l0_0 l0_1 l0_2 l1_0 l1_1 l1_2 t205 t208 x212002_3)) = some (r1, r2, r3, r4) := by rw [if_pos rfl] at H; exact H
                     clear H
                     have H := H1
                     clear H1
                     by_cases c99 : t223 = true
                     ·subst c99
                      have H1 : (matrix_Merge.j4 k4 (rd t205 x62_3) x9_4 t220 true t222 t205 t208 (t205.length : Int) x62_3 (t208.length : Int) x73_4 (t220 != t222) l0_0 l0_1 l0_2 l1_0 l1_1 l1_2 t205 t208 x212002_3) = some (r1, r2, r3, r4) := by rw [if_pos rfl] at H; exact H
                      clear H
                      have H := H1
                      clear H1
                      have H' := Am H
                      clear H
                      go_wp2
                      go_meet
                      case rel => exact ⟨_, ((t220 != t222)), (by first | rfl | (simp; done) | (simp [*]; done)), H', ⟨by have := HJ2.out; have := HJ24.out; have := HK3.out; have := HK4.out; first | omega | exact Nat.le_refl _⟩, ⟨Rm (Kd.R_mono HO_9.out (fun _ hk => ⟨hk.1, ⟨hk.2, ⟨hk.1, hk.2⟩⟩⟩))⟩, ⟨Rm (Kd.R_mono HO_52.out (fun _ hk => ⟨hk.1, ⟨hk.2, hk.2⟩⟩))⟩, ⟨Rm (Kd.R_mono HO_57.out (fun _ hk => ⟨hk.1, ⟨hk.2, hk.2⟩⟩))⟩, ⟨Rm (Kd.R_mono HO_52.out (fun _ hk => ⟨hk.1, ⟨hk.2, hk.2⟩⟩))⟩, ⟨Rm (Kd.R_mono HO_57.out (fun _ hk => ⟨hk.1, ⟨hk.2, hk.2⟩⟩))⟩, ⟨Sm (Kd.S_mono HO_212002.out (fun _ hk => ⟨hk.1, ⟨hk.2.1, ⟨hk.2.2, ⟨hk.2.1, hk.2.2⟩⟩⟩⟩))⟩, ⟨Kl BK196⟩, ⟨Kl BK197⟩, ⟨Kl BK198⟩, ⟨Kl BK211⟩, ⟨by repeat first | exact Bl HB | refine Bp (below_set ?_ GE196.out) | refine Bp (below_set ?_ GE197.out) | refine Bp (below_set ?_ GE198.out) | refine Bp (below_set ?_ GE211.out)⟩⟩
                     ·replace c99 := Bool.eq_false_iff.mpr c99
                      subst c99
                      have H1 : (matrix_Merge.j4 k4 (rd t205 x62_3) x9_4 t220 true t222 t205 t208 (t205.length : Int) x62_3 (t208.length : Int) x73_4 false l0_0 l0_1 l0_2 l1_0 l1_1 l1_2 t205 t208 x212002_3) = some (r1, r2, r3, r4) := by rw [if_neg (show ¬ (false = true) by decide)] at H; exact H
                      clear H
                      have H := H1
                      clear H1
                      have H' := Am H
                      clear H
                      go_wp2
                      go_meet
                      case rel => exact ⟨_, (false), (by first | rfl | (simp; done) | (simp [*]; done)), H', ⟨by have := HJ2.out; have := HJ24.out; have := HK3.out; have := HK4.out; first | omega | exact Nat.le_refl _⟩, ⟨Rm (Kd.R_mono HO_9.out (fun _ hk => ⟨hk.1, ⟨hk.2, ⟨hk.1, hk.2⟩⟩⟩))⟩, ⟨Rm (Kd.R_mono HO_52.out (fun _ hk => ⟨hk.1, ⟨hk.2, hk.2⟩⟩))⟩, ⟨Rm (Kd.R_mono HO_57.out (fun _ hk => ⟨hk.1, ⟨hk.2, hk.2⟩⟩))⟩, ⟨Rm (Kd.R_mono HO_52.out (fun _ hk => ⟨hk.1, ⟨hk.2, hk.2⟩⟩))⟩, ⟨Rm (Kd.R_mono HO_57.out (fun _ hk => ⟨hk.1, ⟨hk.2, hk.2⟩⟩))⟩, ⟨Sm (Kd.S_mono HO_212002.out (fun _ hk => ⟨hk.1, ⟨hk.2.1, ⟨hk.2.2, ⟨hk.2.1, hk.2.2⟩⟩⟩⟩))⟩, ⟨Kl BK196⟩, ⟨Kl BK197⟩, ⟨Kl BK198⟩, ⟨Kl BK211⟩, ⟨by repeat first | exact Bl HB | refine Bp (below_set ?_ GE196.out) | refine Bp (below_set ?_ GE197.out) | refine Bp (below_set ?_ GE198.out) | refine Bp (below_set ?_ GE211.out)⟩⟩
                    ·replace c98 := Bool.eq_false_iff.mpr c98
                     subst c98
                     have H1 : (matrix_Merge.j4 k4 (rd t205 x62_3) x9_4 t220 false t222 t205 t208 (t205.length : Int) x62_3 (t208.length : Int) x73_4 false l0_0 l0_1 l0_2 l1_0 l1_1 l1_2 t205 t208 x212002_3) = some (r1, r2, r3, r4) := by rw [if_neg (show ¬ (false = true) by decide)] at H; exact H
                     clear H
                     have H := H1
                     clear H1
                     have H' := Am H
                     clear H
                     go_wp2
                     go_meet
                     case rel => exact ⟨_, (false), (by first | rfl | (simp; done) | (simp [*]; done)), H', ⟨by have := HJ2.out; have := HJ24.out; have := HK3.out; have := HK4.out; first | omega | exact Nat.le_refl _⟩, ⟨Rm (Kd.R_mono HO_9.out (fun _ hk => ⟨hk.1, ⟨hk.2, ⟨hk.1, hk.2⟩⟩⟩))⟩, ⟨Rm (Kd.R_mono HO_52.out (fun _ hk => ⟨hk.1, ⟨hk.2, hk.2⟩⟩))⟩, ⟨Rm (Kd.R_mono HO_57.out (fun _ hk => ⟨hk.1, ⟨hk.2, hk.2⟩⟩))⟩, ⟨Rm (Kd.R_mono HO_52.out (fun _ hk => ⟨hk.1, ⟨hk.2, hk.2⟩⟩))⟩, ⟨Rm (Kd.R_mono HO_57.out (fun _ hk => ⟨hk.1, ⟨hk.2, hk.2⟩⟩))⟩, ⟨Sm (Kd.S_mono HO_212002.out (fun _ hk => ⟨hk.1, ⟨hk.2.1, ⟨hk.2.2, ⟨hk.2.1, hk.2.2⟩⟩⟩⟩))⟩, ⟨Kl BK196⟩, ⟨Kl BK197⟩, ⟨Kl BK198⟩, ⟨Kl BK211⟩, ⟨by repeat first | exact Bl HB | refine Bp (below_set ?_ GE196.out) | refine Bp (below_set ?_ GE197.out) | refine Bp (below_set ?_ GE198.out) | refine Bp (below_set ?_ GE211.out)⟩⟩
                   case rest =>
                    clear HC88
                    try clear c1
                    try clear p2
                    try clear q2
                    try clear hx2
                    try clear c4
                    try clear c5
                    try clear c6
                    try clear c7
                    try clear c8
                    try clear c9
                    try clear p21
                    try clear q21
                    try clear hx21
                    try clear c42
                    try clear c43
                    try clear c49
                    try clear c50
                    try clear c51
                    try clear c67
                    try clear c68
                    try clear c69
                    try clear c71
                    try clear c71b0
                    try clear c72
                    try clear c72b0
                    try clear c73
                    try clear c73b0
                    try clear c74
                    try clear c74b0
                    try clear c74b1
                    try clear c75
                    try clear c75b0
                    try clear c75b1
                    try clear c76
                    try clear c77
                    try clear c78
                    try clear c83
                    try clear c83b0
                    try clear c84
                    try clear c84b0
                    try clear c85
                    try clear c85b0
                    try clear c89
                    try clear c90
                    try clear c91
                    try clear c94
                    try clear c95
                    try clear c98
                    try clear c99
                    try clear hcz52_0
                    try clear hcz52_1
                    try clear hcz52_2
                    try clear hcz70_0
                    try clear hcz70_1
                    try clear hcz70_2
                    try clear hcz79_0
                    try clear hcz79_1
                    try clear hcz79_2
                    try clear hcz82_0
                    try clear hcz82_1
                    try clear hcz82_2
                    try clear hcz92_0
                    try clear hcz92_1
                    try clear hcz92_2
                    try clear hcz96_0
                    try clear hcz96_1
                    try clear hcz96_2
                    try clear hfz40_1
                    try clear hfz40_2
                    try clear hfz42_0
                    try clear hfz42_1
                    try clear hfz42_2
                    try clear hfz45_0
                    try clear hfz45_1
                    try clear hfz45_2
                    try clear hfz48_0
                    try clear hfz48_1
                    try clear hfz48_2
                    try clear hfz52_0
                    try clear hfz52_1
                    try clear hfz52_2
                    try clear hfz70_0
                    try clear hfz70_1
                    try clear hfz70_2
                    try clear hfz79_0
                    try clear hfz79_1
                    try clear hfz79_2
                    try clear hfz82_0
                    try clear hfz82_1
                    try clear hfz82_2
                    try clear hfz92_0
                    try clear hfz92_1
                    try clear hfz92_2
                    try clear hfz96_0
                    try clear hfz96_1
                    try clear hfz96_2
                    try clear hx212_0
                    try clear hx219_0
                    try clear p2
                    try clear p21
                    try clear p212
                    try clear p219
                    try clear q2
                    try clear q21
                    try clear q212
                    try clear q219
                    obtain ⟨kq, x99_87, rfl, HA, HJ87, HO_9, HO_52, HO_57, HO_212000, HO_212001, HO_212002, BK196, BK197, BK198, BK211, HB⟩ := hcut
                    cases kq with
                    | zero => exact absurd HA.out (by simp [matrix_Merge.j4])
                    | succ kj87 =>
                     have H := HA.out
                     clear HA
                     simp only [matrix_Merge.j4] at H
                     by_cases c100 : x99_87 = true
                     ·subst c100
                      have H1 : (some (([] : List Int), ([] : List Int), ([] : List (List Int)), 11)) = some (r1, r2, r3, r4) := by rw [if_pos rfl] at H; exact H
                      clear H
                      have H := H1
                      clear H1
                      simp only [Option.some.injEq, Prod.mk.injEq] at H
                      obtain ⟨rfl, rfl, rfl, rfl⟩ := H
                      have hnb101 := NB198_196.out
                      have hnc101 := NB196_198.out
                      have hnb102 := NB198_197.out
                      have hnc102 := NB197_198.out
                      have hnb103 := NB198_211.out
                      have hnc103 := NB211_198.out
                      have hcz104_0 : wc.cell? ⟨gb198, 0, none⟩ = some (.slice none 0 0) := (blk_cell BK198.out 0).trans rfl
                      have hcz104_1 : wc.cell? ⟨gb198, 1, none⟩ = some (.slice none 0 0) := (blk_cell BK198.out 1).trans rfl
                      have hcz104_2 : wc.cell? ⟨gb198, 2, none⟩ = some (.slice none 0 0) := (blk_cell BK198.out 2).trans rfl
                      have hfz104_0 := blk_frozen BK198.out 0
                      have hfz104_1 := blk_frozen BK198.out 1
                      have hfz104_2 := blk_frozen BK198.out 2
                      go_wp2
                      refine bodyPost_ret (results_ct rfl _ _ gb198 39 #[.slice none 0 0, .slice none 0 0, .slice none 0 0] (0, 0) _ rfl (by refine Kp ?_; refine blk_put (cs := #[.slice none 0 0, .slice none 0 0, .slice none 0 0]) ?_ 2 _ rfl; refine Kp ?_; refine blk_put (cs := #[.slice none 0 0, .slice none 0 0, .slice none 0 0]) ?_ 1 _ rfl; refine Kp ?_; refine blk_put (cs := #[.slice none 0 0, .slice none 0 0, .slice none 0 0]) ?_ 0 _ rfl; refine Kp ?_; exact BK198.out) Try.underlying39 rfl (by kernel_rfl)) rfl ?_
                      exact ⟨_, _, _, by first | rfl | (simp [errW_none, errW_some] <;> rfl) | (simp [*, errW_none, errW_some] <;> rfl), by first | exact Kd.R_nil _ _ _ _ _ | exact Kd.N_nil _ _ _ _ _ | exact Kd.V_nil _ _ _ _ _ | exact Kd.Q_nil _ _ _ _ _ | exact Kd.S_nil _ _ _ _ _, by first | exact Kd.R_nil _ _ _ _ _ | exact Kd.N_nil _ _ _ _ _ | exact Kd.V_nil _ _ _ _ _ | exact Kd.Q_nil _ _ _ _ _ | exact Kd.S_nil _ _ _ _ _, by first | exact Kd.S_nil _ _ _ _ _ | exact Kd.N_nil _ _ _ _ _ | exact Kd.V_nil _ _ _ _ _ | exact Kd.Q_nil _ _ _ _ _ | exact Kd.R_nil _ _ _ _ _, by repeat first | exact Bl HB | refine Bp (below_set ?_ GE196.out) | refine Bp (below_set ?_ GE197.out) | refine Bp (below_set ?_ GE198.out) | refine Bp (below_set ?_ GE211.out)⟩
                     ·replace c100 := Bool.eq_false_iff.mpr c100
                      subst c100
                      have H1 : (if t221 = true then (if x9_4.length < 17592186044416 then (matrix_Merge.l1 kj87 (rd t205 x62_3) (x9_4 ++ [t220]) t205 t208 (t205.length : Int) x62_3 (t208.length : Int) (wrap64 (x73_4 + 1)) l0_0 l0_1 l0_2 l1_0 l1_1 l1_2 x212002_3) else (none)) else (if x9_4.length < 17592186044416 then (matrix_Merge.l1 kj87 (rd t205 x62_3) (x9_4 ++ [t222]) t205 t208 (t205.length : Int) x62_3 (t208.length : Int) (wrap64 (x73_4 + 1)) l0_0 l0_1 l0_2 l1_0 l1_1 l1_2 x212002_3) else (none))) = some (r1, r2, r3, r4) := by rw [if_neg (show ¬ (false = true) by decide)] at H; exact H
                      clear H
                      have H := H1
                      clear H1
                      by_cases c105 : t221 = true
                      ·subst c105
                       have H1 : (if x9_4.length < 17592186044416 then (matrix_Merge.l1 kj87 (rd t205 x62_3) (x9_4 ++ [t220]) t205 t208 (t205.length : Int) x62_3 (t208.length : Int) (wrap64 (x73_4 + 1)) l0_0 l0_1 l0_2 l1_0 l1_1 l1_2 x212002_3) else (none)) = some (r1, r2, r3, r4) := by rw [if_pos rfl] at H; exact H
                       clear H
                       have H := H1
                       clear H1
                       by_cases c106 : x9_4.length < 17592186044416
                       ·rw [if_pos c106] at H
                        have LMc106 := Am c106
                        clear c106
                        obtain ⟨y224, hy224⟩ : ∃ y_ : List Int, y_ = (x9_4 ++ [t220]) := ⟨_, rfl⟩
                        replace H : (matrix_Merge.l1 kj87 (rd t205 x62_3) y224 t205 t208 (t205.length : Int) x62_3 (t208.length : Int) (wrap64 (x73_4 + 1)) l0_0 l0_1 l0_2 l1_0 l1_1 l1_2 x212002_3) = some (r1, r2, r3, r4) := by first | (rw [hy224]; with_reducible exact H) | (have H2_ := (Option.bind_some _ _).symm.trans H; rw [hy224]; with_reducible exact H2_) | (have H2_ := (Option.bind_some _ _).symm.trans H; with_reducible exact H2_) | with_reducible exact H | (rw [hy224]; exact H) | exact H
                        have Ny224 := Am hy224
                        clear hy224
                        have H' := Am H
                        clear H
                        go_wp2_with (first | ((with_reducible refine gate_builtin (b := .append) (xs := #[.tmp 104, .tmp 106]) rfl ?_); (try (refine gate_guard (by rfl) ?_; dsimp only)); at_builtin; refine Kd.R_append (Kd.int .i64) (w0 := w) w.heap.size rfl (.tmp 104) (.tmp 106) 36 3 (.int .i64 0) 8 rfl Try.underlying36 info3 rfl (by decide) (by omega) u9 x9_4 t220 [.int .i64 t220] (fun k_ => some k_ ≠ (.slice (some ad212) t205.length co63 : Value).ownBlock ∧ some k_ ≠ (.slice (some ad219) t208.length co62 : Value).ownBlock ∧ some k_ ≠ (.slice (some ad212) t205.length co63 : Value).ownBlock ∧ some k_ ≠ (.slice (some ad219) t208.length co62 : Value).ownBlock) (fun _ => False) rfl rfl ?aP (fun _ hk => hk.elim) ?aF ?aO ?aB ?aS ?aL ?_; (case aP => exact rfl); (case aB => exact (by repeat first | exact Bl HB | refine Bp (below_set ?_ GE196.out) | refine Bp (below_set ?_ GE197.out) | refine Bp (below_set ?_ GE198.out) | refine Bp (below_set ?_ GE211.out))); (case aF => exact (fun k_ hk => ⟨Kd.fresh' (Rb HO_52) k_ hk, Kd.fresh' (Rb HO_57) k_ hk, Kd.fresh' (Rb HO_212000) k_ hk, Kd.fresh' (Rb HO_212001) k_ hk⟩)); (case aO => exact (Rl HO_9)); (case aS => exact (below_size (by repeat first | exact Bl HB | refine Bp (below_set ?_ GE196.out) | refine Bp (below_set ?_ GE197.out) | refine Bp (below_set ?_ GE198.out) | refine Bp (below_set ?_ GE211.out)))); (case aL => have := LMc106.out; omega); intro v225 w107 ho hb hg hat; rw [← Ny224.out] at ho; have n0_ := Am (Kd.R_after (ok := (fun k_ => some k_ ≠ (.slice (some ad219) t208.length co62 : Value).ownBlock ∧ some k_ ≠ (.slice (some ad219) t208.length co62 : Value).ownBlock)) (Rm (Kd.R_mono HO_52.out (fun _ hk => ⟨⟨hk.2.1, hk.2.2⟩, hk.1⟩))) hg hat); have n1_ := Am (Kd.R_after (ok := (fun k_ => some k_ ≠ (.slice (some ad212) t205.length co63 : Value).ownBlock ∧ some k_ ≠ (.slice (some ad212) t205.length co63 : Value).ownBlock)) (Rm (Kd.R_mono HO_57.out (fun _ hk => ⟨⟨hk.2.1, hk.2.2⟩, hk.1⟩))) hg hat); have n2_ := Am (Kd.R_after (ok := (fun k_ => some k_ ≠ (.slice (some ad219) t208.length co62 : Value).ownBlock ∧ some k_ ≠ (.slice (some ad219) t208.length co62 : Value).ownBlock)) (Rm (Kd.R_mono HO_212000.out (fun _ hk => ⟨⟨hk.2.1, hk.2.2⟩, hk.1⟩))) hg hat); have n3_ := Am (Kd.R_after (ok := (fun k_ => some k_ ≠ (.slice (some ad212) t205.length co63 : Value).ownBlock ∧ some k_ ≠ (.slice (some ad212) t205.length co63 : Value).ownBlock)) (Rm (Kd.R_mono HO_212001.out (fun _ hk => ⟨⟨hk.2.1, hk.2.2⟩, hk.1⟩))) hg hat); have n4_ := Am (Kd.S_after (ok := (fun k_ => some k_ ≠ (.slice (some ad212) t205.length co63 : Value).ownBlock ∧ some k_ ≠ (.slice (some ad219) t208.length co62 : Value).ownBlock ∧ some k_ ≠ (.slice (some ad212) t205.length co63 : Value).ownBlock ∧ some k_ ≠ (.slice (some ad219) t208.length co62 : Value).ownBlock)) (Sm (Kd.S_mono HO_212002.out (fun _ hk => ⟨⟨hk.2.1, ⟨hk.2.2.1, ⟨hk.2.2.2.1, hk.2.2.2.2⟩⟩⟩, hk.1⟩))) hg hat); have n5_ := Am (blk_grown (Kl BK196) hg (Kd.R_ne HO_9.out BK196.out (by decide))); have n6_ := Am (blk_grown (Kl BK197) hg (Kd.R_ne HO_9.out BK197.out (by decide))); have n7_ := Am (blk_grown (Kl BK198) hg (Kd.R_ne HO_9.out BK198.out (by decide))); have n8_ := Am (blk_grown (Kl BK211) hg (Kd.R_ne HO_9.out BK211.out (by decide))); have n9_ := Am (hb); have n10_ := Am (ho); clear HO_52 HO_57 HO_212000 HO_212001 HO_212002 BK196 BK197 BK198 BK211 HB HO_9; have HO_52 := n0_; have HO_57 := n1_; have HO_212000 := n2_; have HO_212001 := n3_; have HO_212002 := n4_; have BK196 := n5_; have BK197 := n6_; have BK198 := n7_; have BK211 := n8_; have HB := n9_; have HO226 := n10_; clear n0_ n1_ n2_ n3_ n4_ n5_ n6_ n7_ n8_ n9_ n10_; clear ho hb hg hat))
                        go_roundg kj87
                        case measure => have := HJ2.out; have := HJ24.out; have := HK3.out; have := HK4.out; have := HJ87.out; omega
                        case rel => exact ⟨(y224), (wrap64 (x73_4 + 1)), (by first | rfl | (simp; done) | (simp [*]; done)), H', ⟨by have := HJ2.out; have := HJ24.out; have := HK3.out; have := HK4.out; have := HJ87.out; omega⟩, ⟨Rm (Kd.R_mono HO226.out (fun _ hk => ⟨hk.1, hk.2.1⟩))⟩, ⟨Rm (Kd.R_mono HO_52.out (fun _ hk => ⟨hk.2, hk.1.1⟩))⟩, ⟨Rm (Kd.R_mono HO_57.out (fun _ hk => ⟨hk.2, hk.1.1⟩))⟩, ⟨Sm (Kd.S_mono HO_212002.out (fun _ hk => ⟨hk.2, ⟨hk.1.1, hk.1.2.1⟩⟩))⟩, ⟨Kl BK196⟩, ⟨Kl BK197⟩, ⟨Kl BK198⟩, ⟨Kl BK211⟩, ⟨by repeat first | exact Bl HB | refine Bp (below_set ?_ GE196.out) | refine Bp (below_set ?_ GE197.out) | refine Bp (below_set ?_ GE198.out) | refine Bp (below_set ?_ GE211.out)⟩⟩
                       ·rw [if_neg c106] at H
                        exact absurd H (by simp)
                      ·replace c105 := Bool.eq_false_iff.mpr c105
                       subst c105
                       have H1 : (if x9_4.length < 17592186044416 then (matrix_Merge.l1 kj87 (rd t205 x62_3) (x9_4 ++ [t222]) t205 t208 (t205.length : Int) x62_3 (t208.length : Int) (wrap64 (x73_4 + 1)) l0_0 l0_1 l0_2 l1_0 l1_1 l1_2 x212002_3) else (none)) = some (r1, r2, r3, r4) := by rw [if_neg (show ¬ (false = true) by decide)] at H; exact H
                       clear H
                       have H := H1
                       clear H1
                       by_cases c108 : x9_4.length < 17592186044416
                       ·rw [if_pos c108] at H
                        have LMc108 := Am c108
                        clear c108
                        obtain ⟨y227, hy227⟩ : ∃ y_ : List Int, y_ = (x9_4 ++ [t222]) := ⟨_, rfl⟩
                        replace H : (matrix_Merge.l1 kj87 (rd t205 x62_3) y227 t205 t208 (t205.length : Int) x62_3 (t208.length : Int) (wrap64 (x73_4 + 1)) l0_0 l0_1 l0_2 l1_0 l1_1 l1_2 x212002_3) = some (r1, r2, r3, r4) := by first | (rw [hy227]; with_reducible exact H) | (have H2_ := (Option.bind_some _ _).symm.trans H; rw [hy227]; with_reducible exact H2_) | (have H2_ := (Option.bind_some _ _).symm.trans H; with_reducible exact H2_) | with_reducible exact H | (rw [hy227]; exact H) | exact H
                        have Ny227 := Am hy227
                        clear hy227
                        have H' := Am H
                        clear H
                        go_wp2_with (first | ((with_reducible refine gate_builtin (b := .append) (xs := #[.tmp 104, .tmp 106]) rfl ?_); (try (refine gate_guard (by rfl) ?_; dsimp only)); at_builtin; refine Kd.R_append (Kd.int .i64) (w0 := w) w.heap.size rfl (.tmp 104) (.tmp 106) 36 3 (.int .i64 0) 8 rfl Try.underlying36 info3 rfl (by decide) (by omega) u9 x9_4 t222 [.int .i64 t222] (fun k_ => some k_ ≠ (.slice (some ad212) t205.length co63 : Value).ownBlock ∧ some k_ ≠ (.slice (some ad219) t208.length co62 : Value).ownBlock ∧ some k_ ≠ (.slice (some ad212) t205.length co63 : Value).ownBlock ∧ some k_ ≠ (.slice (some ad219) t208.length co62 : Value).ownBlock) (fun _ => False) rfl rfl ?aP (fun _ hk => hk.elim) ?aF ?aO ?aB ?aS ?aL ?_; (case aP => exact rfl); (case aB => exact (by repeat first | exact Bl HB | refine Bp (below_set ?_ GE196.out) | refine Bp (below_set ?_ GE197.out) | refine Bp (below_set ?_ GE198.out) | refine Bp (below_set ?_ GE211.out))); (case aF => exact (fun k_ hk => ⟨Kd.fresh' (Rb HO_52) k_ hk, Kd.fresh' (Rb HO_57) k_ hk, Kd.fresh' (Rb HO_212000) k_ hk, Kd.fresh' (Rb HO_212001) k_ hk⟩)); (case aO => exact (Rl HO_9)); (case aS => exact (below_size (by repeat first | exact Bl HB | refine Bp (below_set ?_ GE196.out) | refine Bp (below_set ?_ GE197.out) | refine Bp (below_set ?_ GE198.out) | refine Bp (below_set ?_ GE211.out)))); (case aL => have := LMc108.out; omega); intro v228 w109 ho hb hg hat; rw [← Ny227.out] at ho; have n0_ := Am (Kd.R_after (ok := (fun k_ => some k_ ≠ (.slice (some ad219) t208.length co62 : Value).ownBlock ∧ some k_ ≠ (.slice (some ad219) t208.length co62 : Value).ownBlock)) (Rm (Kd.R_mono HO_52.out (fun _ hk => ⟨⟨hk.2.1, hk.2.2⟩, hk.1⟩))) hg hat); have n1_ := Am (Kd.R_after (ok := (fun k_ => some k_ ≠ (.slice (some ad212) t205.length co63 : Value).ownBlock ∧ some k_ ≠ (.slice (some ad212) t205.length co63 : Value).ownBlock)) (Rm (Kd.R_mono HO_57.out (fun _ hk => ⟨⟨hk.2.1, hk.2.2⟩, hk.1⟩))) hg hat); have n2_ := Am (Kd.R_after (ok := (fun k_ => some k_ ≠ (.slice (some ad219) t208.length co62 : Value).ownBlock ∧ some k_ ≠ (.slice (some ad219) t208.length co62 : Value).ownBlock)) (Rm (Kd.R_mono HO_212000.out (fun _ hk => ⟨⟨hk.2.1, hk.2.2⟩, hk.1⟩))) hg hat); have n3_ := Am (Kd.R_after (ok := (fun k_ => some k_ ≠ (.slice (some ad212) t205.length co63 : Value).ownBlock ∧ some k_ ≠ (.slice (some ad212) t205.length co63 : Value).ownBlock)) (Rm (Kd.R_mono HO_212001.out (fun _ hk => ⟨⟨hk.2.1, hk.2.2⟩, hk.1⟩))) hg hat); have n4_ := Am (Kd.S_after (ok := (fun k_ => some k_ ≠ (.slice (some ad212) t205.length co63 : Value).ownBlock ∧ some k_ ≠ (.slice (some ad219) t208.length co62 : Value).ownBlock ∧ some k_ ≠ (.slice (some ad212) t205.length co63 : Value).ownBlock ∧ some k_ ≠ (.slice (some ad219) t208.length co62 : Value).ownBlock)) (Sm (Kd.S_mono HO_212002.out (fun _ hk => ⟨⟨hk.2.1, ⟨hk.2.2.1, ⟨hk.2.2.2.1, hk.2.2.2.2⟩⟩⟩, hk.1⟩))) hg hat); have n5_ := Am (blk_grown (Kl BK196) hg (Kd.R_ne HO_9.out BK196.out (by decide))); have n6_ := Am (blk_grown (Kl BK197) hg (Kd.R_ne HO_9.out BK197.out (by decide))); have n7_ := Am (blk_grown (Kl BK198) hg (Kd.R_ne HO_9.out BK198.out (by decide))); have n8_ := Am (blk_grown (Kl BK211) hg (Kd.R_ne HO_9.out BK211.out (by decide))); have n9_ := Am (hb); have n10_ := Am (ho); clear HO_52 HO_57 HO_212000 HO_212001 HO_212002 BK196 BK197 BK198 BK211 HB HO_9; have HO_52 := n0_; have HO_57 := n1_; have HO_212000 := n2_; have HO_212001 := n3_; have HO_212002 := n4_; have BK196 := n5_; have BK197 := n6_; have BK198 := n7_; have BK211 := n8_; have HB := n9_; have HO229 := n10_; clear n0_ n1_ n2_ n3_ n4_ n5_ n6_ n7_ n8_ n9_ n10_; clear ho hb hg hat))
                        go_roundg kj87
                        case measure => have := HJ2.out; have := HJ24.out; have := HK3.out; have := HK4.out; have := HJ87.out; omega
                        case rel => exact ⟨(y227), (wrap64 (x73_4 + 1)), (by first | rfl | (simp; done) | (simp [*]; done)), H', ⟨by have := HJ2.out; have := HJ24.out; have := HK3.out; have := HK4.out; have := HJ87.out; omega⟩, ⟨Rm (Kd.R_mono HO229.out (fun _ hk => ⟨hk.1, hk.2.1⟩))⟩, ⟨Rm (Kd.R_mono HO_52.out (fun _ hk => ⟨hk.2, hk.1.1⟩))⟩, ⟨Rm (Kd.R_mono HO_57.out (fun _ hk => ⟨hk.2, hk.1.1⟩))⟩, ⟨Sm (Kd.S_mono HO_212002.out (fun _ hk => ⟨hk.2, ⟨hk.1.1, hk.1.2.1⟩⟩))⟩, ⟨Kl BK196⟩, ⟨Kl BK197⟩, ⟨Kl BK198⟩, ⟨Kl BK211⟩, ⟨by repeat first | exact Bl HB | refine Bp (below_set ?_ GE196.out) | refine Bp (below_set ?_ GE197.out) | refine Bp (below_set ?_ GE198.out) | refine Bp (below_set ?_ GE211.out)⟩⟩
                       ·rw [if_neg c108] at H
                        exact absurd H (by simp)
                  ·rw [if_neg c85] at H
                   exact absurd H (by simp)
                 ·rw [if_neg c84] at H
                  exact absurd H (by simp)
                ·rw [if_neg c83] at H
                 have c83b0 : decide (x73_4 < (t208.length : Int)) = false := decide_eq_false c83
                 clear c83
                 by_cases c110 : x212002_3.length < 5864062014805
                 ·rw [if_pos c110] at H
                  have LMc110 := Am c110
                  clear c110
                  obtain ⟨y216, hy216⟩ : ∃ y_ : List (List Int), y_ = (x212002_3 ++ [x9_4]) := ⟨_, rfl⟩
                  replace H : (matrix_Merge.l0 k4 t205 t208 (t205.length : Int) (wrap64 (x62_3 + 1)) l0_0 l0_1 l0_2 l1_0 l1_1 l1_2 y216) = some (r1, r2, r3, r4) := by first | (rw [hy216]; with_reducible exact H) | (have H2_ := (Option.bind_some _ _).symm.trans H; rw [hy216]; with_reducible exact H2_) | (have H2_ := (Option.bind_some _ _).symm.trans H; with_reducible exact H2_) | with_reducible exact H | (rw [hy216]; exact H) | exact H
                  have Ny216 := Am hy216
                  clear hy216
                  have H' := Am H
                  clear H
                  have hnb111 := NB211_196.out
                  have hnc111 := NB196_211.out
                  have hnb112 := NB211_197.out
                  have hnc112 := NB197_211.out
                  have hnb113 := NB211_198.out
                  have hnc113 := NB198_211.out
                  have hcz114_0 : wr.cell? ⟨gb211, 0, none⟩ = some (.slice (some ad212) t205.length co63) := (blk_cell BK211.out 0).trans rfl
                  have hcz114_1 : wr.cell? ⟨gb211, 1, none⟩ = some (.slice Ao62 t208.length co62) := (blk_cell BK211.out 1).trans rfl
                  have hcz114_2 : wr.cell? ⟨gb211, 2, none⟩ = some (u212002) := (blk_cell BK211.out 2).trans rfl
                  have hfz114_0 := blk_frozen BK211.out 0
                  have hfz114_1 := blk_frozen BK211.out 1
                  have hfz114_2 := blk_frozen BK211.out 2
                  obtain ⟨Ao116, co116, eo116⟩ := Kd.R_slice HO_9.out
                  subst eo116
                  go_wp2_with (first | ((with_reducible refine gate_builtin (b := .append) (xs := #[.tmp 110, .tmp 112]) rfl ?_); (try (refine gate_guard (by rfl) ?_; dsimp only)); at_builtin; refine Kd.S_append (Kd.slice 3 (Kd.int .i64)) (w0 := w) w.heap.size rfl (.tmp 110) (.tmp 112) 37 36 (.slice none 0 0) 24 rfl Try.underlying37 info36 rfl (by decide) (by omega) u212002 x212002_3 x9_4 [.slice Ao116 x9_4.length co116] (fun k_ => some k_ ≠ (.slice (some ad212) t205.length co63 : Value).ownBlock ∧ some k_ ≠ (.slice Ao62 t208.length co62 : Value).ownBlock) (fun k_ => some k_ = (.slice Ao116 x9_4.length co116 : Value).ownBlock) rfl rfl ?aP (fun k_ hk_ => ((Kd.R_mono (ok' := fun k_ => ((fun k_ => some k_ ≠ (.slice (some ad212) t205.length co63 : Value).ownBlock ∧ some k_ ≠ (.slice Ao62 t208.length co62 : Value).ownBlock)) k_ ∧ some k_ ≠ (u212002 : Value).ownBlock) (Kd.R_apart' (HO_9.out) (Kd.S_typed HO_212002.out) (by decide)) (fun k_ hk => ⟨⟨hk.1.1, hk.1.2⟩, hk.2⟩))).1 k_ hk_.symm) ?aF ?aO ?aB ?aS ?aL ?_; (case aP => exact Kd.M_row (Kd.R_mono (Kd.R_tight rfl (Kd.R_mono (ok' := fun k_ => ((fun k_ => some k_ ≠ (.slice (some ad212) t205.length co63 : Value).ownBlock ∧ some k_ ≠ (.slice Ao62 t208.length co62 : Value).ownBlock)) k_ ∧ some k_ ≠ (u212002 : Value).ownBlock) (Kd.R_apart' (HO_9.out) (Kd.S_typed HO_212002.out) (by decide)) (fun k_ hk => ⟨⟨hk.1.1, hk.1.2⟩, hk.2⟩))) (fun _ h_ => h_))); (case aB => exact (by repeat first | exact Bl HB | refine Bp (below_set ?_ GE196.out) | refine Bp (below_set ?_ GE197.out) | refine Bp (below_set ?_ GE198.out) | refine Bp (below_set ?_ GE211.out))); (case aF => exact (fun k_ hk => ⟨Kd.fresh' (Rb HO_52) k_ hk, Kd.fresh' (Rb HO_57) k_ hk⟩)); (case aO => exact (Sm (Kd.S_mono HO_212002.out (fun k_ hk => ⟨⟨hk.2.1, hk.2.2⟩, fun e_ => hk.1 e_⟩)))); (case aS => exact (below_size (by repeat first | exact Bl HB | refine Bp (below_set ?_ GE196.out) | refine Bp (below_set ?_ GE197.out) | refine Bp (below_set ?_ GE198.out) | refine Bp (below_set ?_ GE211.out)))); (case aL => have := LMc110.out; omega); intro v217 w115 ho hb hg hat; rw [← Ny216.out] at ho; have n0_ := Am (Kd.R_over' (Rl HO_52) (Kd.S_typed (Sl HO_212002)) (by decide) hg); have n1_ := Am (Kd.R_over' (Rl HO_57) (Kd.S_typed (Sl HO_212002)) (by decide) hg); have n2_ := Am (blk_grown (Kl BK196) hg (Kd.S_ne HO_212002.out BK196.out (by decide))); have n3_ := Am (blk_grown (Kl BK197) hg (Kd.S_ne HO_212002.out BK197.out (by decide))); have n4_ := Am (blk_grown (Kl BK198) hg (Kd.S_ne HO_212002.out BK198.out (by decide))); have n5_ := Am (blk_grown (Kl BK211) hg (Kd.S_ne HO_212002.out BK211.out (by decide))); have n6_ := Am (hb); have n7_ := Am (ho); clear HO_52 HO_57 BK196 BK197 BK198 BK211 HB HO_212002 HO_9; have HO_52 := n0_; have HO_57 := n1_; have BK196 := n2_; have BK197 := n3_; have BK198 := n4_; have BK211 := n5_; have HB := n6_; have HO218 := n7_; clear n0_ n1_ n2_ n3_ n4_ n5_ n6_ n7_; clear ho hb hg hat; obtain ⟨Ao117, co117, eo117⟩ := Kd.S_slice HO218.out; subst eo117; have hcz118_0 : w115.cell? ⟨gb211, 0, none⟩ = some (.slice (some ad212) t205.length co63) := (blk_cell BK211.out 0).trans rfl; have hcz118_1 : w115.cell? ⟨gb211, 1, none⟩ = some (.slice Ao62 t208.length co62) := (blk_cell BK211.out 1).trans rfl; have hcz118_2 : w115.cell? ⟨gb211, 2, none⟩ = some (u212002) := (blk_cell BK211.out 2).trans rfl; have hfz118_0 := blk_frozen BK211.out 0; have hfz118_1 := blk_frozen BK211.out 1; have hfz118_2 := blk_frozen BK211.out 2))
                  go_roundg k4
                  case measure => have := HJ2.out; have := HJ24.out; have := HK3.out; have := HK4.out; omega
                  case rel => exact ⟨(wrap64 (x62_3 + 1)), (y216), (.slice Ao117 y216.length co117), (by first | rfl | (simp; done) | (simp [*]; done)), H', ⟨by have := HJ2.out; have := HJ24.out; have := HK3.out; have := HK4.out; omega⟩, ⟨Rm (Kd.R_mono (Kd.R_far (p := ⟨gb211, 2, none⟩) (Kd.R_types HO_52.out BK211.out (by decide)) (fun _ hk => hk.2) (.slice Ao117 y216.length co117)) (fun _ hk => hk.1.2))⟩, ⟨Rm (Kd.R_mono (Kd.R_far (p := ⟨gb211, 2, none⟩) (Kd.R_types HO_57.out BK211.out (by decide)) (fun _ hk => hk.2) (.slice Ao117 y216.length co117)) (fun _ hk => hk.1.2))⟩, ⟨Sm (Kd.S_mono (Kd.S_far (p := ⟨gb211, 2, none⟩) (Kd.S_types HO218.out BK211.out (by decide)) (fun _ hk => hk.2) (.slice Ao117 y216.length co117)) (fun _ hk => ⟨hk.1.1, hk.1.2⟩))⟩, ⟨by refine Kp ?_; refine blk_far ?_ NB196_211.out _; refine Kp ?_; exact BK196.out⟩, ⟨by refine Kp ?_; refine blk_far ?_ NB197_211.out _; refine Kp ?_; exact BK197.out⟩, ⟨by refine Kp ?_; refine blk_far ?_ NB198_211.out _; refine Kp ?_; exact BK198.out⟩, ⟨by refine Kp ?_; refine blk_put (cs := #[.slice (some ad212) t205.length co63, .slice Ao62 t208.length co62, u212002]) ?_ 2 _ rfl; refine Kp ?_; exact BK211.out⟩, ⟨by repeat first | exact Bl HB | refine Bp (below_set ?_ GE196.out) | refine Bp (below_set ?_ GE197.out) | refine Bp (below_set ?_ GE198.out) | refine Bp (below_set ?_ GE211.out)⟩⟩
                 ·rw [if_neg c110] at H
                  exact absurd H (by simp)
             ·rw [if_neg c75] at H
              exact absurd H (by simp)
            ·rw [if_neg c74] at H
             exact absurd H (by simp)
           ·rw [if_neg c73] at H
            exact absurd H (by simp)
          ·rw [if_neg c72] at H
           exact absurd H (by simp)
         ·rw [if_neg c71] at H
          have c71b0 : decide (x62_3 < (t205.length : Int)) = false := decide_eq_false c71
          clear c71
          by_cases c119 : (t205.length : Int) > 200
          ·rw [if_pos c119] at H
           have c119b0 : decide (200 < (t205.length : Int)) = true := decide_eq_true c119
           have c119b1 : decide (200 < t205.length) = true := decide_eq_true (by omega)
           clear c119
           simp only [Option.some.injEq, Prod.mk.injEq] at H
           obtain ⟨rfl, rfl, rfl, rfl⟩ := H
           have hnb120 := NB211_196.out
           have hnc120 := NB196_211.out
           have hnb121 := NB211_197.out
           have hnc121 := NB197_211.out
           have hnb122 := NB211_198.out
           have hnc122 := NB198_211.out
           have hcz123_0 : wr.cell? ⟨gb211, 0, none⟩ = some (.slice Ao63 t205.length co63) := (blk_cell BK211.out 0).trans rfl
           have hcz123_1 : wr.cell? ⟨gb211, 1, none⟩ = some (.slice Ao62 t208.length co62) := (blk_cell BK211.out 1).trans rfl
           have hcz123_2 : wr.cell? ⟨gb211, 2, none⟩ = some (u212002) := (blk_cell BK211.out 2).trans rfl
           have hfz123_0 := blk_frozen BK211.out 0
           have hfz123_1 := blk_frozen BK211.out 1
           have hfz123_2 := blk_frozen BK211.out 2
           have hnb124 := NB198_196.out
           have hnc124 := NB196_198.out
           have hnb125 := NB198_197.out
           have hnc125 := NB197_198.out
           have hcz126_0 : wr.cell? ⟨gb198, 0, none⟩ = some (.slice none 0 0) := (blk_cell BK198.out 0).trans rfl
           have hcz126_1 : wr.cell? ⟨gb198, 1, none⟩ = some (.slice none 0 0) := (blk_cell BK198.out 1).trans rfl
           have hcz126_2 : wr.cell? ⟨gb198, 2, none⟩ = some (.slice none 0 0) := (blk_cell BK198.out 2).trans rfl
           have hfz126_0 := blk_frozen BK198.out 0
           have hfz126_1 := blk_frozen BK198.out 1
           have hfz126_2 := blk_frozen BK198.out 2
           go_wp2
           refine bodyPost_ret (results_ct rfl _ _ gb198 39 #[.slice none 0 0, .slice none 0 0, .slice none 0 0] (0, 0) _ rfl (by refine Kp ?_; refine blk_put (cs := #[.slice none 0 0, .slice none 0 0, .slice none 0 0]) ?_ 2 _ rfl; refine Kp ?_; refine blk_put (cs := #[.slice none 0 0, .slice none 0 0, .slice none 0 0]) ?_ 1 _ rfl; refine Kp ?_; refine blk_put (cs := #[.slice none 0 0, .slice none 0 0, .slice none 0 0]) ?_ 0 _ rfl; refine Kp ?_; exact BK198.out) Try.underlying39 rfl (by kernel_rfl)) rfl ?_
           exact ⟨_, _, _, by first | rfl | (simp [errW_none, errW_some] <;> rfl) | (simp [*, errW_none, errW_some] <;> rfl), by first | exact Kd.R_nil _ _ _ _ _ | exact Kd.N_nil _ _ _ _ _ | exact Kd.V_nil _ _ _ _ _ | exact Kd.Q_nil _ _ _ _ _ | exact Kd.S_nil _ _ _ _ _, by first | exact Kd.R_nil _ _ _ _ _ | exact Kd.N_nil _ _ _ _ _ | exact Kd.V_nil _ _ _ _ _ | exact Kd.Q_nil _ _ _ _ _ | exact Kd.S_nil _ _ _ _ _, by first | exact Kd.S_nil _ _ _ _ _ | exact Kd.N_nil _ _ _ _ _ | exact Kd.V_nil _ _ _ _ _ | exact Kd.Q_nil _ _ _ _ _ | exact Kd.R_nil _ _ _ _ _, by repeat first | exact Bl HB | refine Bp (below_set ?_ GE196.out) | refine Bp (below_set ?_ GE197.out) | refine Bp (below_set ?_ GE198.out) | refine Bp (below_set ?_ GE211.out)⟩
          ·rw [if_neg c119] at H
           have c119b0 : decide (200 < (t205.length : Int)) = false := decide_eq_false c119
           have c119b1 : decide (200 < t205.length) = false := decide_eq_false (by omega)
           clear c119
           by_cases c127 : (t208.length : Int) > 60
           ·rw [if_pos c127] at H
            have c127b0 : decide (60 < (t208.length : Int)) = true := decide_eq_true c127
            have c127b1 : decide (60 < t208.length) = true := decide_eq_true (by omega)
            clear c127
            simp only [Option.some.injEq, Prod.mk.injEq] at H
            obtain ⟨rfl, rfl, rfl, rfl⟩ := H
            have hnb128 := NB211_196.out
            have hnc128 := NB196_211.out
            have hnb129 := NB211_197.out
            have hnc129 := NB197_211.out
            have hnb130 := NB211_198.out
            have hnc130 := NB198_211.out
            have hcz131_0 : wr.cell? ⟨gb211, 0, none⟩ = some (.slice Ao63 t205.length co63) := (blk_cell BK211.out 0).trans rfl
            have hcz131_1 : wr.cell? ⟨gb211, 1, none⟩ = some (.slice Ao62 t208.length co62) := (blk_cell BK211.out 1).trans rfl
            have hcz131_2 : wr.cell? ⟨gb211, 2, none⟩ = some (u212002) := (blk_cell BK211.out 2).trans rfl
            have hfz131_0 := blk_frozen BK211.out 0
            have hfz131_1 := blk_frozen BK211.out 1
            have hfz131_2 := blk_frozen BK211.out 2
            have hnb132 := NB198_196.out
            have hnc132 := NB196_198.out
            have hnb133 := NB198_197.out
            have hnc133 := NB197_198.out
            have hcz134_0 : wr.cell? ⟨gb198, 0, none⟩ = some (.slice none 0 0) := (blk_cell BK198.out 0).trans rfl
            have hcz134_1 : wr.cell? ⟨gb198, 1, none⟩ = some (.slice none 0 0) := (blk_cell BK198.out 1).trans rfl
            have hcz134_2 : wr.cell? ⟨gb198, 2, none⟩ = some (.slice none 0 0) := (blk_cell BK198.out 2).trans rfl
            have hfz134_0 := blk_frozen BK198.out 0
            have hfz134_1 := blk_frozen BK198.out 1
            have hfz134_2 := blk_frozen BK198.out 2
            go_wp2
            refine bodyPost_ret (results_ct rfl _ _ gb198 39 #[.slice none 0 0, .slice none 0 0, .slice none 0 0] (0, 0) _ rfl (by refine Kp ?_; refine blk_put (cs := #[.slice none 0 0, .slice none 0 0, .slice none 0 0]) ?_ 2 _ rfl; refine Kp ?_; refine blk_put (cs := #[.slice none 0 0, .slice none 0 0, .slice none 0 0]) ?_ 1 _ rfl; refine Kp ?_; refine blk_put (cs := #[.slice none 0 0, .slice none 0 0, .slice none 0 0]) ?_ 0 _ rfl; refine Kp ?_; exact BK198.out) Try.underlying39 rfl (by kernel_rfl)) rfl ?_
            exact ⟨_, _, _, by first | rfl | (simp [errW_none, errW_some] <;> rfl) | (simp [*, errW_none, errW_some] <;> rfl), by first | exact Kd.R_nil _ _ _ _ _ | exact Kd.N_nil _ _ _ _ _ | exact Kd.V_nil _ _ _ _ _ | exact Kd.Q_nil _ _ _ _ _ | exact Kd.S_nil _ _ _ _ _, by first | exact Kd.R_nil _ _ _ _ _ | exact Kd.N_nil _ _ _ _ _ | exact Kd.V_nil _ _ _ _ _ | exact Kd.Q_nil _ _ _ _ _ | exact Kd.S_nil _ _ _ _ _, by first | exact Kd.S_nil _ _ _ _ _ | exact Kd.N_nil _ _ _ _ _ | exact Kd.V_nil _ _ _ _ _ | exact Kd.Q_nil _ _ _ _ _ | exact Kd.R_nil _ _ _ _ _, by repeat first | exact Bl HB | refine Bp (below_set ?_ GE196.out) | refine Bp (below_set ?_ GE197.out) | refine Bp (below_set ?_ GE198.out) | refine Bp (below_set ?_ GE211.out)⟩
           ·rw [if_neg c127] at H
            have c127b0 : decide (60 < (t208.length : Int)) = false := decide_eq_false c127
            have c127b1 : decide (60 < t208.length) = false := decide_eq_false (by omega)
            clear c127
            simp only [Option.some.injEq, Prod.mk.injEq] at H
            obtain ⟨rfl, rfl, rfl, rfl⟩ := H
            have hnb135 := NB211_196.out
            have hnc135 := NB196_211.out
            have hnb136 := NB211_197.out
            have hnc136 := NB197_211.out
            have hnb137 := NB211_198.out
            have hnc137 := NB198_211.out
            have hcz138_0 : wr.cell? ⟨gb211, 0, none⟩ = some (.slice Ao63 t205.length co63) := (blk_cell BK211.out 0).trans rfl
            have hcz138_1 : wr.cell? ⟨gb211, 1, none⟩ = some (.slice Ao62 t208.length co62) := (blk_cell BK211.out 1).trans rfl
            have hcz138_2 : wr.cell? ⟨gb211, 2, none⟩ = some (u212002) := (blk_cell BK211.out 2).trans rfl
            have hfz138_0 := blk_frozen BK211.out 0
            have hfz138_1 := blk_frozen BK211.out 1
            have hfz138_2 := blk_frozen BK211.out 2
            have hnb139 := NB198_196.out
            have hnc139 := NB196_198.out
            have hnb140 := NB198_197.out
            have hnc140 := NB197_198.out
            have hcz141_0 : wr.cell? ⟨gb198, 0, none⟩ = some (.slice none 0 0) := (blk_cell BK198.out 0).trans rfl
            have hcz141_1 : wr.cell? ⟨gb198, 1, none⟩ = some (.slice none 0 0) := (blk_cell BK198.out 1).trans rfl
            have hcz141_2 : wr.cell? ⟨gb198, 2, none⟩ = some (.slice none 0 0) := (blk_cell BK198.out 2).trans rfl
            have hfz141_0 := blk_frozen BK198.out 0
            have hfz141_1 := blk_frozen BK198.out 1
            have hfz141_2 := blk_frozen BK198.out 2
            obtain ⟨Ao142, co142, eo142⟩ := Kd.S_slice HO_212002.out
            subst eo142
            go_wp2
            refine bodyPost_ret (results_ct rfl _ _ gb198 39 #[.slice Ao63 t205.length co63, .slice Ao62 t208.length co62, .slice Ao142 x212002_3.length co142] (0, 0) _ rfl (by refine Kp ?_; refine blk_put (cs := #[.slice Ao63 t205.length co63, .slice Ao62 t208.length co62, .slice none 0 0]) ?_ 2 _ rfl; refine Kp ?_; refine blk_put (cs := #[.slice Ao63 t205.length co63, .slice none 0 0, .slice none 0 0]) ?_ 1 _ rfl; refine Kp ?_; refine blk_put (cs := #[.slice none 0 0, .slice none 0 0, .slice none 0 0]) ?_ 0 _ rfl; refine Kp ?_; exact BK198.out) Try.underlying39 rfl (by kernel_rfl)) rfl ?_
            exact ⟨_, _, _, by first | rfl | (simp [errW_none, errW_some] <;> rfl) | (simp [*, errW_none, errW_some] <;> rfl), Rm (Kd.R_mono (Kd.R_far (p := ⟨gb198, 2, none⟩) (Kd.R_far (p := ⟨gb198, 1, none⟩) (Kd.R_far (p := ⟨gb198, 0, none⟩) (Kd.R_types HO_52.out BK198.out (by decide)) (fun _ hk => hk.2) (.slice Ao63 t205.length co63)) (fun _ hk => hk.2) (.slice Ao62 t208.length co62)) (fun _ hk => hk.2) (.slice Ao142 x212002_3.length co142)) (fun _ hk => hk.1)), Rm (Kd.R_mono (Kd.R_far (p := ⟨gb198, 2, none⟩) (Kd.R_far (p := ⟨gb198, 1, none⟩) (Kd.R_far (p := ⟨gb198, 0, none⟩) (Kd.R_types HO_57.out BK198.out (by decide)) (fun _ hk => hk.2) (.slice Ao63 t205.length co63)) (fun _ hk => hk.2) (.slice Ao62 t208.length co62)) (fun _ hk => hk.2) (.slice Ao142 x212002_3.length co142)) (fun _ hk => hk.1)), Sm (Kd.S_mono (Kd.S_far (p := ⟨gb198, 2, none⟩) (Kd.S_far (p := ⟨gb198, 1, none⟩) (Kd.S_far (p := ⟨gb198, 0, none⟩) (Kd.S_types HO_212002.out BK198.out (by decide)) (fun _ hk => hk.2) (.slice Ao63 t205.length co63)) (fun _ hk => hk.2) (.slice Ao62 t208.length co62)) (fun _ hk => hk.2) (.slice Ao142 x212002_3.length co142)) (fun _ hk => ⟨hk.1.1, hk.1.2⟩)), by repeat first | exact Bl HB | refine Bp (below_set ?_ GE196.out) | refine Bp (below_set ?_ GE197.out) | refine Bp (below_set ?_ GE198.out) | refine Bp (below_set ?_ GE211.out)⟩

end Go.Proofs.Ytgeplglggcoaiab.Matrix
