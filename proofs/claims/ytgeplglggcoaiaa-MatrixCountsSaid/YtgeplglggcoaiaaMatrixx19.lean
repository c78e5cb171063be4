/- Lean functions and walks for Go functions of this seat, written by this claim's own program (wip/tools/xprint.py) over the kit's print. -/
import Derived.Test.YtgeplglggcoaiaaMatrixx0
import Derived.Test.YtgeplglggcoaiaaMatrixx1
import Derived.Test.YtgeplglggcoaiaaMatrixx2
import Derived.Test.YtgeplglggcoaiaaMatrixx12
import Derived.Test.YtgeplglggcoaiaaMatrixx18
namespace Go.Proofs.Ytgeplglggcoaiaa.Matrix
open Go.RowKit Go.Sort Go.Proofs.YtgeplglggcoaiaaMakec Go.Proofs.YtgeplglggcoaiaaW.PrintWords Go.Proofs.YtgeplglggcoaiaaW.PrintLast Go.Proofs.YtgeplglggcoaiaaW.PrintMore
attribute [local go_sem] max2_int min2_int max_two min_two max_three min_three max_four min_four   -- for this text's walks alone
set_option linter.unusedVariables false
set_option linter.unusedSimpArgs false

/-! ### matrix_Merge: function 43 -/
mutual
def matrix_Merge.j0 : Nat → Bool → List Int → List Int → List (List Int) → List Int → List Int → List (List Int) → Option (List Int × List Int × (List (List Int)) × Int)
 | 0, _, _, _, _, _, _, _ => none
 | k + 1, x23, x185000, x185001, x185002, x186000, x186001, x186002 => if x23 = true then (some (([] : List Int), ([] : List Int), ([] : List (List Int)), 1)) else ((matrix_rising_int.f k x185000 1).bind fun t189 => (if t189 = true then ((matrix_rising_int.f k x185001 1).bind fun t190 => (if t190 = true then ((matrix_rising_int.f k x186000 1).bind fun t191 => (if t191 = true then ((matrix_rising_int.f k x186001 1).bind fun t192 => (matrix_Merge.j1 k (!t192) x185000 x185001 x185002 x186000 x186001 x186002)) else (matrix_Merge.j1 k true x185000 x185001 x185002 x186000 x186001 x186002))) else (matrix_Merge.j1 k true x185000 x185001 x185002 x186000 x186001 x186002))) else (matrix_Merge.j1 k true x185000 x185001 x185002 x186000 x186001 x186002)))
def matrix_Merge.j1 : Nat → Bool → List Int → List Int → List (List Int) → List Int → List Int → List (List Int) → Option (List Int × List Int × (List (List Int)) × Int)
 | 0, _, _, _, _, _, _, _ => none
 | k + 1, x46, x185000, x185001, x185002, x186000, x186001, x186002 => if x46 = true then (some (([] : List Int), ([] : List Int), ([] : List (List Int)), 23)) else ((matrix_merged_int.f k x185000 x186000).bind fun t193 => ((matrix_merged_int.f k x185001 x186001).bind fun t196 => (matrix_Merge.l0 k t193 t196 (t193.length : Int) 0 x185000 x185001 x185002 x186000 x186001 x186002 ([] : List (List Int)))))
def matrix_Merge.l0 : Nat → List Int → List Int → Int → Int → List Int → List Int → List (List Int) → List Int → List Int → List (List Int) → List (List Int) → Option (List Int × List Int × (List (List Int)) × Int)
 | 0, _, _, _, _, _, _, _, _, _, _, _ => none
 | k + 1, x52, x57, x61, x62, x185000, x185001, x185002, x186000, x186001, x186002, x200002 => if x62 < x61 then (if 0 ≤ x62 then (if x62 < (x52.length : Int) then (if 0 ≤ (x57.length : Int) then (if ((x57.length : Int) : Int).toNat ≤ 35184372088832 then (matrix_Merge.l1 k (rd x52 x62) (([] : List Int)) x52 x57 x61 x62 (x57.length : Int) 0 x185000 x185001 x185002 x186000 x186001 x186002 x200002) else (none)) else (none)) else (none)) else (none)) else (if (x52.length : Int) > 200 then (some (([] : List Int), ([] : List Int), ([] : List (List Int)), 5)) else (if (x57.length : Int) > 60 then (some (([] : List Int), ([] : List Int), ([] : List (List Int)), 5)) else (some (x52, x57, x200002, 0))))
def matrix_Merge.l1 : Nat → Int → List Int → List Int → List Int → Int → Int → Int → Int → List Int → List Int → List (List Int) → List Int → List Int → List (List Int) → List (List Int) → Option (List Int × List Int × (List (List Int)) × Int)
 | 0, _, _, _, _, _, _, _, _, _, _, _, _, _, _, _ => none
 | k + 1, x8, x9, x52, x57, x61, x62, x72, x73, x185000, x185001, x185002, x186000, x186001, x186002, x200002 => if x73 < x72 then (if 0 ≤ x73 then (if x73 < (x57.length : Int) then ((matrix_cell.f k x185000 x185001 x185002 x8 (rd x57 x73)).bind fun bt208 => ((matrix_cell.f k x186000 x186001 x186002 x8 (rd x57 x73)).bind fun bt210 => (if bt208.2 = true then (if bt210.2 = true then (matrix_Merge.j4 k x8 x9 bt208.1 bt208.2 bt210.1 x52 x57 x61 x62 x72 x73 (bt208.1 != bt210.1) x185000 x185001 x185002 x186000 x186001 x186002 x52 x57 x200002) else (matrix_Merge.j4 k x8 x9 bt208.1 bt208.2 bt210.1 x52 x57 x61 x62 x72 x73 false x185000 x185001 x185002 x186000 x186001 x186002 x52 x57 x200002)) else (matrix_Merge.j4 k x8 x9 bt208.1 bt208.2 bt210.1 x52 x57 x61 x62 x72 x73 false x185000 x185001 x185002 x186000 x186001 x186002 x52 x57 x200002)))) else (none)) else (none)) else (if x200002.length < 5864062014805 then (matrix_Merge.l0 k x52 x57 x61 (wrap64 (x62 + 1)) x185000 x185001 x185002 x186000 x186001 x186002 (x200002 ++ [x9])) else (none))
def matrix_Merge.j4 : Nat → Int → List Int → Int → Bool → Int → List Int → List Int → Int → Int → Int → Int → Bool → List Int → List Int → List (List Int) → List Int → List Int → List (List Int) → List Int → List Int → List (List Int) → Option (List Int × List Int × (List (List Int)) × Int)
 | 0, _, _, _, _, _, _, _, _, _, _, _, _, _, _, _, _, _, _, _, _, _ => none
 | k + 1, x8, x9, x12, x13, x14, x52, x57, x61, x62, x72, x73, x99, x185000, x185001, x185002, x186000, x186001, x186002, x200000, x200001, x200002 => if x99 = true then (some (([] : List Int), ([] : List Int), ([] : List (List Int)), 11)) else (if x13 = true then (if x9.length < 17592186044416 then (matrix_Merge.l1 k x8 (x9 ++ [x12]) x52 x57 x61 x62 x72 (wrap64 (x73 + 1)) x185000 x185001 x185002 x186000 x186001 x186002 x200002) else (none)) else (if x9.length < 17592186044416 then (matrix_Merge.l1 k x8 (x9 ++ [x14]) x52 x57 x61 x62 x72 (wrap64 (x73 + 1)) x185000 x185001 x185002 x186000 x186001 x186002 x200002) else (none)))
end
def matrix_Merge.f (k : Nat) (l0_0 : List Int) (l0_1 : List Int) (l0_2 : List (List Int)) (l1_0 : List Int) (l1_1 : List Int) (l1_2 : List (List Int)) : Option (List Int × List Int × (List (List Int)) × Int) := (matrix_shape.f k l0_0 l0_1 l0_2).bind fun t187 => (if t187 = true then ((matrix_shape.f k l1_0 l1_1 l1_2).bind fun t188 => (matrix_Merge.j0 k (!t188) l0_0 l0_1 l0_2 l1_0 l1_1 l1_2)) else (matrix_Merge.j0 k true l0_0 l0_1 l0_2 l1_0 l1_1 l1_2))
theorem matrix_Merge.mono_l : ∀ k, (∀ y0 y1 y2 y3 y4 y5 y6, LeO (matrix_Merge.j0 k y0 y1 y2 y3 y4 y5 y6) (matrix_Merge.j0 (k + 1) y0 y1 y2 y3 y4 y5 y6)) ∧ (∀ y0 y1 y2 y3 y4 y5 y6, LeO (matrix_Merge.j1 k y0 y1 y2 y3 y4 y5 y6) (matrix_Merge.j1 (k + 1) y0 y1 y2 y3 y4 y5 y6)) ∧ (∀ y0 y1 y2 y3 y4 y5 y6 y7 y8 y9 y10, LeO (matrix_Merge.l0 k y0 y1 y2 y3 y4 y5 y6 y7 y8 y9 y10) (matrix_Merge.l0 (k + 1) y0 y1 y2 y3 y4 y5 y6 y7 y8 y9 y10)) ∧ (∀ y0 y1 y2 y3 y4 y5 y6 y7 y8 y9 y10 y11 y12 y13 y14, LeO (matrix_Merge.l1 k y0 y1 y2 y3 y4 y5 y6 y7 y8 y9 y10 y11 y12 y13 y14) (matrix_Merge.l1 (k + 1) y0 y1 y2 y3 y4 y5 y6 y7 y8 y9 y10 y11 y12 y13 y14)) ∧ (∀ y0 y1 y2 y3 y4 y5 y6 y7 y8 y9 y10 y11 y12 y13 y14 y15 y16 y17 y18 y19 y20, LeO (matrix_Merge.j4 k y0 y1 y2 y3 y4 y5 y6 y7 y8 y9 y10 y11 y12 y13 y14 y15 y16 y17 y18 y19 y20) (matrix_Merge.j4 (k + 1) y0 y1 y2 y3 y4 y5 y6 y7 y8 y9 y10 y11 y12 y13 y14 y15 y16 y17 y18 y19 y20))
 | 0 => ⟨fun _ _ _ _ _ _ _ r h => by simp [matrix_Merge.j0] at h, fun _ _ _ _ _ _ _ r h => by simp [matrix_Merge.j1] at h, fun _ _ _ _ _ _ _ _ _ _ _ r h => by simp [matrix_Merge.l0] at h, fun _ _ _ _ _ _ _ _ _ _ _ _ _ _ _ r h => by simp [matrix_Merge.l1] at h, fun _ _ _ _ _ _ _ _ _ _ _ _ _ _ _ _ _ _ _ _ _ r h => by simp [matrix_Merge.j4] at h⟩
 | k + 1 => by
  obtain ⟨ih0, ih1, ih2, ih3, ih4⟩ := matrix_Merge.mono_l k
  refine ⟨?_, ?_, ?_, ?_, ?_⟩
  ·intro y0 y1 y2 y3 y4 y5 y6
   unfold matrix_Merge.j0
   repeat' first
   | (with_reducible exact ih0 _ _ _ _ _ _ _)
   | (with_reducible exact ih1 _ _ _ _ _ _ _)
   | (with_reducible exact ih2 _ _ _ _ _ _ _ _ _ _ _)
   | (with_reducible exact ih3 _ _ _ _ _ _ _ _ _ _ _ _ _ _ _)
   | (with_reducible exact ih4 _ _ _ _ _ _ _ _ _ _ _ _ _ _ _ _ _ _ _ _ _)
   | (with_reducible exact matrix_cell.mono _ _ _ _ _ _)
   | (with_reducible exact matrix_merged_int.mono _ _ _)
   | (with_reducible exact matrix_rising_int.mono _ _ _)
   | (with_reducible exact matrix_shape.mono _ _ _ _)
   | (with_reducible exact LeO.refl _)
   | (with_reducible exact LeO.none _)
   | (with_reducible refine LeO.ite ?_ ?_)
   | (with_reducible refine LeO.bind ?_ (fun _ => ?_))
   | exact ih0 _ _ _ _ _ _ _
   | exact ih1 _ _ _ _ _ _ _
   | exact ih2 _ _ _ _ _ _ _ _ _ _ _
   | exact ih3 _ _ _ _ _ _ _ _ _ _ _ _ _ _ _
   | exact ih4 _ _ _ _ _ _ _ _ _ _ _ _ _ _ _ _ _ _ _ _ _
   | exact matrix_cell.mono _ _ _ _ _ _
   | exact matrix_merged_int.mono _ _ _
   | exact matrix_rising_int.mono _ _ _
   | exact matrix_shape.mono _ _ _ _
   | exact LeO.none _
   | refine LeO.ite ?_ ?_
   | refine LeO.bind ?_ (fun _ => ?_)
  ·intro y0 y1 y2 y3 y4 y5 y6
   unfold matrix_Merge.j1
   repeat' first
   | (with_reducible exact ih0 _ _ _ _ _ _ _)
   | (with_reducible exact ih1 _ _ _ _ _ _ _)
   | (with_reducible exact ih2 _ _ _ _ _ _ _ _ _ _ _)
   | (with_reducible exact ih3 _ _ _ _ _ _ _ _ _ _ _ _ _ _ _)
   | (with_reducible exact ih4 _ _ _ _ _ _ _ _ _ _ _ _ _ _ _ _ _ _ _ _ _)
   | (with_reducible exact matrix_cell.mono _ _ _ _ _ _)
   | (with_reducible exact matrix_merged_int.mono _ _ _)
   | (with_reducible exact matrix_rising_int.mono _ _ _)
   | (with_reducible exact matrix_shape.mono _ _ _ _)
   | (with_reducible exact LeO.refl _)
   | (with_reducible exact LeO.none _)
   | (with_reducible refine LeO.ite ?_ ?_)
   | (with_reducible refine LeO.bind ?_ (fun _ => ?_))
   | exact ih0 _ _ _ _ _ _ _
   | exact ih1 _ _ _ _ _ _ _
   | exact ih2 _ _ _ _ _ _ _ _ _ _ _
   | exact ih3 _ _ _ _ _ _ _ _ _ _ _ _ _ _ _
   | exact ih4 _ _ _ _ _ _ _ _ _ _ _ _ _ _ _ _ _ _ _ _ _
   | exact matrix_cell.mono _ _ _ _ _ _
   | exact matrix_merged_int.mono _ _ _
   | exact matrix_rising_int.mono _ _ _
   | exact matrix_shape.mono _ _ _ _
   | exact LeO.none _
   | refine LeO.ite ?_ ?_
   | refine LeO.bind ?_ (fun _ => ?_)
  ·intro y0 y1 y2 y3 y4 y5 y6 y7 y8 y9 y10
   unfold matrix_Merge.l0
   repeat' first
   | (with_reducible exact ih0 _ _ _ _ _ _ _)
   | (with_reducible exact ih1 _ _ _ _ _ _ _)
   | (with_reducible exact ih2 _ _ _ _ _ _ _ _ _ _ _)
   | (with_reducible exact ih3 _ _ _ _ _ _ _ _ _ _ _ _ _ _ _)
   | (with_reducible exact ih4 _ _ _ _ _ _ _ _ _ _ _ _ _ _ _ _ _ _ _ _ _)
   | (with_reducible exact matrix_cell.mono _ _ _ _ _ _)
   | (with_reducible exact matrix_merged_int.mono _ _ _)
   | (with_reducible exact matrix_rising_int.mono _ _ _)
   | (with_reducible exact matrix_shape.mono _ _ _ _)
   | (with_reducible exact LeO.refl _)
   | (with_reducible exact LeO.none _)
   | (with_reducible refine LeO.ite ?_ ?_)
   | (with_reducible refine LeO.bind ?_ (fun _ => ?_))
   | exact ih0 _ _ _ _ _ _ _
   | exact ih1 _ _ _ _ _ _ _
   | exact ih2 _ _ _ _ _ _ _ _ _ _ _
   | exact ih3 _ _ _ _ _ _ _ _ _ _ _ _ _ _ _
   | exact ih4 _ _ _ _ _ _ _ _ _ _ _ _ _ _ _ _ _ _ _ _ _
   | exact matrix_cell.mono _ _ _ _ _ _
   | exact matrix_merged_int.mono _ _ _
   | exact matrix_rising_int.mono _ _ _
   | exact matrix_shape.mono _ _ _ _
   | exact LeO.none _
   | refine LeO.ite ?_ ?_
   | refine LeO.bind ?_ (fun _ => ?_)
  ·intro y0 y1 y2 y3 y4 y5 y6 y7 y8 y9 y10 y11 y12 y13 y14
   unfold matrix_Merge.l1
   repeat' first
   | (with_reducible exact ih0 _ _ _ _ _ _ _)
   | (with_reducible exact ih1 _ _ _ _ _ _ _)
   | (with_reducible exact ih2 _ _ _ _ _ _ _ _ _ _ _)
   | (with_reducible exact ih3 _ _ _ _ _ _ _ _ _ _ _ _ _ _ _)
   | (with_reducible exact ih4 _ _ _ _ _ _ _ _ _ _ _ _ _ _ _ _ _ _ _ _ _)
   | (with_reducible exact matrix_cell.mono _ _ _ _ _ _)
   | (with_reducible exact matrix_merged_int.mono _ _ _)
   | (with_reducible exact matrix_rising_int.mono _ _ _)
   | (with_reducible exact matrix_shape.mono _ _ _ _)
   | (with_reducible exact LeO.refl _)
   | (with_reducible exact LeO.none _)
   | (with_reducible refine LeO.ite ?_ ?_)
   | (with_reducible refine LeO.bind ?_ (fun _ => ?_))
   | exact ih0 _ _ _ _ _ _ _
   | exact ih1 _ _ _ _ _ _ _
   | exact ih2 _ _ _ _ _ _ _ _ _ _ _
   | exact ih3 _ _ _ _ _ _ _ _ _ _ _ _ _ _ _
   | exact ih4 _ _ _ _ _ _ _ _ _ _ _ _ _ _ _ _ _ _ _ _ _
   | exact matrix_cell.mono _ _ _ _ _ _
   | exact matrix_merged_int.mono _ _ _
   | exact matrix_rising_int.mono _ _ _
   | exact matrix_shape.mono _ _ _ _
   | exact LeO.none _
   | refine LeO.ite ?_ ?_
   | refine LeO.bind ?_ (fun _ => ?_)
  ·intro y0 y1 y2 y3 y4 y5 y6 y7 y8 y9 y10 y11 y12 y13 y14 y15 y16 y17 y18 y19 y20
   unfold matrix_Merge.j4
   repeat' first
   | (with_reducible exact ih0 _ _ _ _ _ _ _)
   | (with_reducible exact ih1 _ _ _ _ _ _ _)
   | (with_reducible exact ih2 _ _ _ _ _ _ _ _ _ _ _)
   | (with_reducible exact ih3 _ _ _ _ _ _ _ _ _ _ _ _ _ _ _)
   | (with_reducible exact ih4 _ _ _ _ _ _ _ _ _ _ _ _ _ _ _ _ _ _ _ _ _)
   | (with_reducible exact matrix_cell.mono _ _ _ _ _ _)
   | (with_reducible exact matrix_merged_int.mono _ _ _)
   | (with_reducible exact matrix_rising_int.mono _ _ _)
   | (with_reducible exact matrix_shape.mono _ _ _ _)
   | (with_reducible exact LeO.refl _)
   | (with_reducible exact LeO.none _)
   | (with_reducible refine LeO.ite ?_ ?_)
   | (with_reducible refine LeO.bind ?_ (fun _ => ?_))
   | exact ih0 _ _ _ _ _ _ _
   | exact ih1 _ _ _ _ _ _ _
   | exact ih2 _ _ _ _ _ _ _ _ _ _ _
   | exact ih3 _ _ _ _ _ _ _ _ _ _ _ _ _ _ _
   | exact ih4 _ _ _ _ _ _ _ _ _ _ _ _ _ _ _ _ _ _ _ _ _
   | exact matrix_cell.mono _ _ _ _ _ _
   | exact matrix_merged_int.mono _ _ _
   | exact matrix_rising_int.mono _ _ _
   | exact matrix_shape.mono _ _ _ _
   | exact LeO.none _
   | refine LeO.ite ?_ ?_
   | refine LeO.bind ?_ (fun _ => ?_)
theorem matrix_Merge.mono : ∀ a0 a1 a2 a3 a4 a5 k, LeO (matrix_Merge.f k a0 a1 a2 a3 a4 a5) (matrix_Merge.f (k + 1) a0 a1 a2 a3 a4 a5) := by
 intro a0 a1 a2 a3 a4 a5 k
 obtain ⟨ih0, ih1, ih2, ih3, ih4⟩ := matrix_Merge.mono_l k
 unfold matrix_Merge.f
 repeat' first
   | (with_reducible exact ih0 _ _ _ _ _ _ _)
   | (with_reducible exact ih1 _ _ _ _ _ _ _)
   | (with_reducible exact ih2 _ _ _ _ _ _ _ _ _ _ _)
   | (with_reducible exact ih3 _ _ _ _ _ _ _ _ _ _ _ _ _ _ _)
   | (with_reducible exact ih4 _ _ _ _ _ _ _ _ _ _ _ _ _ _ _ _ _ _ _ _ _)
   | (with_reducible exact matrix_cell.mono _ _ _ _ _ _)
   | (with_reducible exact matrix_merged_int.mono _ _ _)
   | (with_reducible exact matrix_rising_int.mono _ _ _)
   | (with_reducible exact matrix_shape.mono _ _ _ _)
   | (with_reducible exact LeO.refl _)
   | (with_reducible exact LeO.none _)
   | (with_reducible refine LeO.ite ?_ ?_)
   | (with_reducible refine LeO.bind ?_ (fun _ => ?_))
   | exact ih0 _ _ _ _ _ _ _
   | exact ih1 _ _ _ _ _ _ _
   | exact ih2 _ _ _ _ _ _ _ _ _ _ _
   | exact ih3 _ _ _ _ _ _ _ _ _ _ _ _ _ _ _
   | exact ih4 _ _ _ _ _ _ _ _ _ _ _ _ _ _ _ _ _ _ _ _ _
   | exact matrix_cell.mono _ _ _ _ _ _
   | exact matrix_merged_int.mono _ _ _
   | exact matrix_rising_int.mono _ _ _
   | exact matrix_shape.mono _ _ _ _
   | exact LeO.none _
   | refine LeO.ite ?_ ?_
   | refine LeO.bind ?_ (fun _ => ?_)
def matrix_Merge.T5 : Bool × List (List Nat × List Nat) := (true, [([], []), ([0], [0]), ([], []), ([2], [2]), ([1, 3], [1, 3]), ([], []), ([5], [5]), ([], []), ([7], [7]), ([6, 8, 4], [6, 8]), ([4, 9], [4, 9]), ([], []), ([11, 10, 9, 0, 1, 2, 3, 4, 5, 6, 7, 8, 9, 10, 11], [10, 11])])
def matrix_Merge.B5 : List Nat := [0, 1, 0, 4, 15, 0, 32, 0, 128, 511, 1023, 0, 4095]
theorem matrix_Merge.tab5 : rtab .any (opsOf Try.f43 5) = matrix_Merge.T5 := by kernel_rfl
theorem matrix_Merge.bits5 : waitsOk matrix_Merge.T5.2 matrix_Merge.B5 = true := by kernel_rfl
set_option maxHeartbeats 8000000 in
set_option maxRecDepth 100000 in
theorem matrix_Merge.calls (k : Nat) (A0_0 : Option Addr) (c0_0 : Nat) (l0_0 : List Int) (A0_1 : Option Addr) (c0_1 : Nat) (l0_1 : List Int) (A0_2 : Option Addr) (c0_2 : Nat) (l0_2 : List (List Int)) (A1_0 : Option Addr) (c1_0 : Nat) (l1_0 : List Int) (A1_1 : Option Addr) (c1_1 : Nat) (l1_1 : List Int) (A1_2 : Option Addr) (c1_2 : Nat) (l1_2 : List (List Int)) (r1 : List Int) (r2 : List Int) (r3 : List (List Int)) (r4 : Int) (w : World) (hr0_0 : Kd.C (Kd.int .i64) w A0_0 l0_0.length l0_0) (hc0_0 : l0_0.length ≤ c0_0) (hr0_1 : Kd.C (Kd.int .i64) w A0_1 l0_1.length l0_1) (hc0_1 : l0_1.length ≤ c0_1) (hr0_2 : Kd.C (Kd.slice 3 (Kd.int .i64)) w A0_2 l0_2.length l0_2) (hc0_2 : l0_2.length ≤ c0_2) (hr1_0 : Kd.C (Kd.int .i64) w A1_0 l1_0.length l1_0) (hc1_0 : l1_0.length ≤ c1_0) (hr1_1 : Kd.C (Kd.int .i64) w A1_1 l1_1.length l1_1) (hc1_1 : l1_1.length ≤ c1_1) (hr1_2 : Kd.C (Kd.slice 3 (Kd.int .i64)) w A1_2 l1_2.length l1_2) (hc1_2 : l1_2.length ≤ c1_2) (h : matrix_Merge.f k l0_0 l0_1 l0_2 l1_0 l1_1 l1_2 = some (r1, r2, r3, r4)) :
  Calls Try.prog 43 #[.agg #[.slice A0_0 l0_0.length c0_0, .slice A0_1 l0_1.length c0_1, .slice A0_2 l0_2.length c0_2], .agg #[.slice A1_0 l1_0.length c1_0, .slice A1_1 l1_1.length c1_1, .slice A1_2 l1_2.length c1_2]] w fun e w' => ∃ v0_ v1_ v2_ : Value, e = .returned (.tuple #[.agg #[v0_, v1_, v2_], .int .i64 r4]) ∧ Kd.R (Kd.int .i64) 3 w' w.heap.size (fun k_ => some k_ ≠ (v1_ : Value).ownBlock) v0_ r1 ∧ Kd.R (Kd.int .i64) 3 w' w.heap.size (fun k_ => some k_ ≠ (v0_ : Value).ownBlock) v1_ r2 ∧ Kd.S (Kd.slice 3 (Kd.int .i64)) 34 w' w.heap.size (fun k_ => some k_ ≠ (v0_ : Value).ownBlock ∧ some k_ ≠ (v1_ : Value).ownBlock) v2_ r3 ∧ Below w.heap.size w w' := by
 have hu53 := Try.underlying53
 have HR0_0 := Am hr0_0
 have HC0_0 := Am hc0_0
 clear hr0_0 hc0_0
 have HR0_1 := Am hr0_1
 have HC0_1 := Am hc0_1
 clear hr0_1 hc0_1
 have HR0_2 := Am hr0_2
 have HC0_2 := Am hc0_2
 clear hr0_2 hc0_2
 have HR1_0 := Am hr1_0
 have HC1_0 := Am hc1_0
 clear hr1_0 hc1_0
 have HR1_1 := Am hr1_1
 have HC1_1 := Am hc1_1
 clear hr1_1 hc1_1
 have HR1_2 := Am hr1_2
 have HC1_2 := Am hc1_2
 clear hr1_2 hc1_2
 have HB := Am (Below.refl w.heap.size w)
 have H : ((matrix_shape.f k l0_0 l0_1 l0_2).bind fun t187 => (if t187 = true then ((matrix_shape.f k l1_0 l1_1 l1_2).bind fun t188 => (matrix_Merge.j0 k (!t188) l0_0 l0_1 l0_2 l1_0 l1_1 l1_2)) else (matrix_Merge.j0 k true l0_0 l0_1 l0_2 l1_0 l1_1 l1_2))) = some (r1, r2, r3, r4) := h
 clear h
 have HC3 := Am H
 clear H
 go_enter Try.func43, Try.ntmps43
 go_upto_region 1 with (first | ((with_reducible refine gate_dst (N := 2) rfl ?_); (try (refine gate_guard (by rfl) ?_; dsimp only)); refine box_event ?hg (N := 2) ?hd (cs := #[.slice A0_0 l0_0.length c0_0, .slice A0_1 l0_1.length c0_1, .slice A0_2 l0_2.length c0_2]) (t := 53) ?hr ?_; (case hd => rfl); (case hg => rfl); (case hr => first | (go_simp; done) | (go_simp; rfl)); intro gb184 hg w4 hbox hb; have n0_ := Am (below_step (Bl HB) hb); have n1_ := Am (hbox); have n2_ := Am ((by rw [hg]; exact (below_size (Bl HB)) : w.heap.size ≤ gb184)); have n3_ := Am ((by rw [hg]; exact (below_size (Bl HB)) : w.heap.size ≤ gb184)); clear HB; have HB := n0_; have BK184 := n1_; have GW184 := n2_; have GE184 := n3_; clear n0_ n1_ n2_ n3_; clear hb hbox hg) | ((with_reducible refine gate_dst (N := 3) rfl ?_); (try (refine gate_guard (by rfl) ?_; dsimp only)); refine box_event ?hg (N := 3) ?hd (cs := #[.slice A1_0 l1_0.length c1_0, .slice A1_1 l1_1.length c1_1, .slice A1_2 l1_2.length c1_2]) (t := 53) ?hr ?_; (case hd => rfl); (case hg => rfl); (case hr => first | (go_simp; done) | (go_simp; rfl)); intro gb185 hg w5 hbox hb; have n0_ := Am (blk_below (Kl BK184) hb); have n1_ := Am (below_step (by repeat first | exact Bl HB | refine Bp (below_set ?_ GE184.out)) hb); have n2_ := Am (hbox); have n3_ := Am ((by rw [hg]; exact (below_size (by repeat first | exact Bl HB | refine Bp (below_set ?_ GE184.out))) : w.heap.size ≤ gb185)); have n4_ := Am ((by rw [hg]; exact (below_size (by repeat first | exact Bl HB | refine Bp (below_set ?_ GE184.out))) : w.heap.size ≤ gb185)); have n5_ := Am ((by rw [hg]; exact Nat.ne_of_lt (blk_lt (Kl BK184)) : gb184 ≠ gb185)); have n6_ := Am ((by rw [hg]; exact Nat.ne_of_gt (blk_lt (Kl BK184)) : gb185 ≠ gb184)); clear BK184 HB; have BK184 := n0_; have HB := n1_; have BK185 := n2_; have GW185 := n3_; have GE185 := n4_; have NB184_185 := n5_; have NB185_184 := n6_; clear n0_ n1_ n2_ n3_ n4_ n5_ n6_; clear hb hbox hg) | ((with_reducible refine gate_dst (N := 4) rfl ?_); (try (refine gate_guard (by rfl) ?_; dsimp only)); refine box_event ?hg (N := 4) ?hd (cs := #[.slice none 0 0, .slice none 0 0, .slice none 0 0]) (t := 53) ?hr ?_; (case hd => rfl); (case hg => rfl); (case hr => first | (go_simp; done) | (go_simp; rfl)); intro gb186 hg w6 hbox hb; have n0_ := Am (blk_below (Kl BK184) hb); have n1_ := Am (blk_below (Kl BK185) hb); have n2_ := Am (below_step (by repeat first | exact Bl HB | refine Bp (below_set ?_ GE184.out) | refine Bp (below_set ?_ GE185.out)) hb); have n3_ := Am (hbox); have n4_ := Am ((by rw [hg]; exact (below_size (by repeat first | exact Bl HB | refine Bp (below_set ?_ GE184.out) | refine Bp (below_set ?_ GE185.out))) : w.heap.size ≤ gb186)); have n5_ := Am ((by rw [hg]; exact (below_size (by repeat first | exact Bl HB | refine Bp (below_set ?_ GE184.out) | refine Bp (below_set ?_ GE185.out))) : w.heap.size ≤ gb186)); have n6_ := Am ((by rw [hg]; exact Nat.ne_of_lt (blk_lt (Kl BK184)) : gb184 ≠ gb186)); have n7_ := Am ((by rw [hg]; exact Nat.ne_of_gt (blk_lt (Kl BK184)) : gb186 ≠ gb184)); have n8_ := Am ((by rw [hg]; exact Nat.ne_of_lt (blk_lt (Kl BK185)) : gb185 ≠ gb186)); have n9_ := Am ((by rw [hg]; exact Nat.ne_of_gt (blk_lt (Kl BK185)) : gb186 ≠ gb185)); clear BK184 BK185 HB; have BK184 := n0_; have BK185 := n1_; have HB := n2_; have BK186 := n3_; have GW186 := n4_; have GE186 := n5_; have NB184_186 := n6_; have NB186_184 := n7_; have NB185_186 := n8_; have NB186_185 := n9_; clear n0_ n1_ n2_ n3_ n4_ n5_ n6_ n7_ n8_ n9_; clear hb hbox hg))
 (try simp only [Act.put, List.setIfInBounds_toArray, List.set_cons_zero, List.set_cons_succ])
 go_cut [23] (fun v23 wc => ∃ (kq : Nat) (x23_2 : Bool), v23 = .bool x23_2 ∧ Aside0 (matrix_Merge.j0 kq x23_2 l0_0 l0_1 l0_2 l1_0 l1_1 l1_2 = some (r1, r2, r3, r4)) ∧ Aside0 (kq ≤ k) ∧ Aside0 (wc.heap[gb184]? = some (.cells #[(.slice A0_0 l0_0.length c0_0), (.slice A0_1 l0_1.length c0_1), (.slice A0_2 l0_2.length c0_2)] 53 (0, 0))) ∧ Aside0 (wc.heap[gb185]? = some (.cells #[(.slice A1_0 l1_0.length c1_0), (.slice A1_1 l1_1.length c1_1), (.slice A1_2 l1_2.length c1_2)] 53 (0, 0))) ∧ Aside0 (wc.heap[gb186]? = some (.cells #[(.slice none 0 0), (.slice none 0 0), (.slice none 0 0)] 53 (0, 0))) ∧ Aside0 (Below w.heap.size w wc))
 case first =>
  have H := HC3.out
  clear HC3
  replace H := Option.bind_eq_some_iff.mp H
  obtain ⟨t187, A70, H⟩ := H
  replace H : (if t187 = true then ((matrix_shape.f k l1_0 l1_1 l1_2).bind fun t188 => (matrix_Merge.j0 k (!t188) l0_0 l0_1 l0_2 l1_0 l1_1 l1_2)) else (matrix_Merge.j0 k true l0_0 l0_1 l0_2 l1_0 l1_1 l1_2)) = some (r1, r2, r3, r4) := H
  have A7 := Am A70
  clear A70
  by_cases c8 : t187 = true
  ·subst c8
   have H1 : ((matrix_shape.f k l1_0 l1_1 l1_2).bind fun t188 => (matrix_Merge.j0 k (!t188) l0_0 l0_1 l0_2 l1_0 l1_1 l1_2)) = some (r1, r2, r3, r4) := by rw [if_pos rfl] at H; exact H
   clear H
   have H := H1
   clear H1
   replace H := Option.bind_eq_some_iff.mp H
   obtain ⟨t188, A90, H⟩ := H
   replace H : (matrix_Merge.j0 k (!t188) l0_0 l0_1 l0_2 l1_0 l1_1 l1_2) = some (r1, r2, r3, r4) := H
   have A9 := Am A90
   clear A90
   have H' := Am H
   clear H
   have hnb10 := NB184_185.out
   have hnc10 := NB185_184.out
   have hnb11 := NB184_186.out
   have hnc11 := NB186_184.out
   have hcz12_0 : w6.cell? ⟨gb184, 0, none⟩ = some (.slice A0_0 l0_0.length c0_0) := (blk_cell BK184.out 0).trans rfl
   have hcz12_1 : w6.cell? ⟨gb184, 1, none⟩ = some (.slice A0_1 l0_1.length c0_1) := (blk_cell BK184.out 1).trans rfl
   have hcz12_2 : w6.cell? ⟨gb184, 2, none⟩ = some (.slice A0_2 l0_2.length c0_2) := (blk_cell BK184.out 2).trans rfl
   have hfz12_0 := blk_frozen BK184.out 0
   have hfz12_1 := blk_frozen BK184.out 1
   have hfz12_2 := blk_frozen BK184.out 2
   go_wp2_with (first | ((with_reducible refine gate_callee (f := 69) rfl ?_); refine goesL_ (some 17) rfl rfl Try.func69 (by kernel_rfl) rfl #[.agg #[.slice A0_0 l0_0.length c0_0, .slice A0_1 l0_1.length c0_1, .slice A0_2 l0_2.length c0_2]] rfl (by (try simp only [List.map_toArray, List.map_cons, List.map_nil]); first | done | rfl | (simp only [List.length_drop, List.length_take]; rfl)) ?_; (with_reducible refine (matrix_shape.calls k _ _ l0_0 _ _ l0_1 _ _ l0_2 true _ ?side1 ?side2 ?side3 ?side4 ?side5 ?side6 A7.out).mono ?_); (case side1 => repeat (first | exact (Kd.C_below HR0_0.out HB.out) | (with_reducible refine Kd.C_alloc ?_ _) | (with_reducible refine Kd.C_drewN ?_ _) | (with_reducible refine Kd.C_drew ?_))); (case side2 => exact HC0_0.out); (case side3 => repeat (first | exact (Kd.C_below HR0_1.out HB.out) | (with_reducible refine Kd.C_alloc ?_ _) | (with_reducible refine Kd.C_drewN ?_ _) | (with_reducible refine Kd.C_drew ?_))); (case side4 => exact HC0_1.out); (case side5 => repeat (first | exact (Kd.C_below HR0_2.out HB.out) | (with_reducible refine Kd.C_alloc ?_ _) | (with_reducible refine Kd.C_drewN ?_ _) | (with_reducible refine Kd.C_drew ?_))); (case side6 => exact HC0_2.out); rintro e w13 ⟨rfl, hb⟩; refine ⟨_, rfl, ?_⟩; have n0_ := Am (blk_below (Kl BK184) hb); have n1_ := Am (blk_below (Kl BK185) hb); have n2_ := Am (blk_below (Kl BK186) hb); have n3_ := Am (below_step (by repeat first | exact Bl HB | refine Bp (below_set ?_ GE184.out) | refine Bp (below_set ?_ GE185.out) | refine Bp (below_set ?_ GE186.out)) hb); clear BK184 BK185 BK186 HB; have BK184 := n0_; have BK185 := n1_; have BK186 := n2_; have HB := n3_; clear n0_ n1_ n2_ n3_; (try clear hb); (try clear hb2); (try clear hk); (try clear hi); have hnb14 := NB185_186.out; have hnc14 := NB186_185.out; have hcz15_0 : w13.cell? ⟨gb185, 0, none⟩ = some (.slice A1_0 l1_0.length c1_0) := (blk_cell BK185.out 0).trans rfl; have hcz15_1 : w13.cell? ⟨gb185, 1, none⟩ = some (.slice A1_1 l1_1.length c1_1) := (blk_cell BK185.out 1).trans rfl; have hcz15_2 : w13.cell? ⟨gb185, 2, none⟩ = some (.slice A1_2 l1_2.length c1_2) := (blk_cell BK185.out 2).trans rfl; have hfz15_0 := blk_frozen BK185.out 0; have hfz15_1 := blk_frozen BK185.out 1; have hfz15_2 := blk_frozen BK185.out 2) | (go_at_call 69; (with_reducible refine (matrix_shape.calls k _ _ l1_0 _ _ l1_1 _ _ l1_2 t188 _ ?side1 ?side2 ?side3 ?side4 ?side5 ?side6 A9.out).mono ?_); (case side1 => repeat (first | exact (Kd.C_below HR1_0.out HB.out) | (with_reducible refine Kd.C_alloc ?_ _) | (with_reducible refine Kd.C_drewN ?_ _) | (with_reducible refine Kd.C_drew ?_))); (case side2 => exact HC1_0.out); (case side3 => repeat (first | exact (Kd.C_below HR1_1.out HB.out) | (with_reducible refine Kd.C_alloc ?_ _) | (with_reducible refine Kd.C_drewN ?_ _) | (with_reducible refine Kd.C_drew ?_))); (case side4 => exact HC1_1.out); (case side5 => repeat (first | exact (Kd.C_below HR1_2.out HB.out) | (with_reducible refine Kd.C_alloc ?_ _) | (with_reducible refine Kd.C_drewN ?_ _) | (with_reducible refine Kd.C_drew ?_))); (case side6 => exact HC1_2.out); rintro e w16 ⟨rfl, hb⟩; have n0_ := Am (blk_below (Kl BK184) hb); have n1_ := Am (blk_below (Kl BK185) hb); have n2_ := Am (blk_below (Kl BK186) hb); have n3_ := Am (below_step (by repeat first | exact Bl HB | refine Bp (below_set ?_ GE184.out) | refine Bp (below_set ?_ GE185.out) | refine Bp (below_set ?_ GE186.out)) hb); clear BK184 BK185 BK186 HB; have BK184 := n0_; have BK185 := n1_; have BK186 := n2_; have HB := n3_; clear n0_ n1_ n2_ n3_; (try clear hb); (try clear hb2); (try clear hk); (try clear hi)))
   go_meet
   case rel => exact ⟨_, (!t188), (by first | rfl | (simp; done) | (simp [*]; done)), H', ⟨by first | omega | exact Nat.le_refl _⟩, ⟨Kl BK184⟩, ⟨Kl BK185⟩, ⟨Kl BK186⟩, ⟨by repeat first | exact Bl HB | refine Bp (below_set ?_ GE184.out) | refine Bp (below_set ?_ GE185.out) | refine Bp (below_set ?_ GE186.out)⟩⟩
  ·replace c8 := Bool.eq_false_iff.mpr c8
   subst c8
   have H1 : (matrix_Merge.j0 k true l0_0 l0_1 l0_2 l1_0 l1_1 l1_2) = some (r1, r2, r3, r4) := by rw [if_neg (show ¬ (false = true) by decide)] at H; exact H
   clear H
   have H := H1
   clear H1
   have H' := Am H
   clear H
   have hnb17 := NB184_185.out
   have hnc17 := NB185_184.out
   have hnb18 := NB184_186.out
   have hnc18 := NB186_184.out
   have hcz19_0 : w6.cell? ⟨gb184, 0, none⟩ = some (.slice A0_0 l0_0.length c0_0) := (blk_cell BK184.out 0).trans rfl
   have hcz19_1 : w6.cell? ⟨gb184, 1, none⟩ = some (.slice A0_1 l0_1.length c0_1) := (blk_cell BK184.out 1).trans rfl
   have hcz19_2 : w6.cell? ⟨gb184, 2, none⟩ = some (.slice A0_2 l0_2.length c0_2) := (blk_cell BK184.out 2).trans rfl
   have hfz19_0 := blk_frozen BK184.out 0
   have hfz19_1 := blk_frozen BK184.out 1
   have hfz19_2 := blk_frozen BK184.out 2
   go_wp2_with (first | ((with_reducible refine gate_callee (f := 69) rfl ?_); refine goesL_ (some 17) rfl rfl Try.func69 (by kernel_rfl) rfl #[.agg #[.slice A0_0 l0_0.length c0_0, .slice A0_1 l0_1.length c0_1, .slice A0_2 l0_2.length c0_2]] rfl (by (try simp only [List.map_toArray, List.map_cons, List.map_nil]); first | done | rfl | (simp only [List.length_drop, List.length_take]; rfl)) ?_; (with_reducible refine (matrix_shape.calls k _ _ l0_0 _ _ l0_1 _ _ l0_2 false _ ?side1 ?side2 ?side3 ?side4 ?side5 ?side6 A7.out).mono ?_); (case side1 => repeat (first | exact (Kd.C_below HR0_0.out HB.out) | (with_reducible refine Kd.C_alloc ?_ _) | (with_reducible refine Kd.C_drewN ?_ _) | (with_reducible refine Kd.C_drew ?_))); (case side2 => exact HC0_0.out); (case side3 => repeat (first | exact (Kd.C_below HR0_1.out HB.out) | (with_reducible refine Kd.C_alloc ?_ _) | (with_reducible refine Kd.C_drewN ?_ _) | (with_reducible refine Kd.C_drew ?_))); (case side4 => exact HC0_1.out); (case side5 => repeat (first | exact (Kd.C_below HR0_2.out HB.out) | (with_reducible refine Kd.C_alloc ?_ _) | (with_reducible refine Kd.C_drewN ?_ _) | (with_reducible refine Kd.C_drew ?_))); (case side6 => exact HC0_2.out); rintro e w20 ⟨rfl, hb⟩; refine ⟨_, rfl, ?_⟩; have n0_ := Am (blk_below (Kl BK184) hb); have n1_ := Am (blk_below (Kl BK185) hb); have n2_ := Am (blk_below (Kl BK186) hb); have n3_ := Am (below_step (by repeat first | exact Bl HB | refine Bp (below_set ?_ GE184.out) | refine Bp (below_set ?_ GE185.out) | refine Bp (below_set ?_ GE186.out)) hb); clear BK184 BK185 BK186 HB; have BK184 := n0_; have BK185 := n1_; have BK186 := n2_; have HB := n3_; clear n0_ n1_ n2_ n3_; (try clear hb); (try clear hb2); (try clear hk); (try clear hi)))
   go_meet
   case rel => exact ⟨_, (true), (by first | rfl | (simp; done) | (simp [*]; done)), H', ⟨by first | omega | exact Nat.le_refl _⟩, ⟨Kl BK184⟩, ⟨Kl BK185⟩, ⟨Kl BK186⟩, ⟨by repeat first | exact Bl HB | refine Bp (below_set ?_ GE184.out) | refine Bp (below_set ?_ GE185.out) | refine Bp (below_set ?_ GE186.out)⟩⟩
 case rest =>
  clear HC3
  try clear c1
  try clear p2
  try clear c4
  try clear c6
  try clear c8
  try clear c10
  try clear c11
  try clear c14
  try clear c17
  try clear c18
  try clear hcz12_0
  try clear hcz12_1
  try clear hcz12_2
  try clear hcz15_0
  try clear hcz15_1
  try clear hcz15_2
  try clear hcz19_0
  try clear hcz19_1
  try clear hcz19_2
  try clear hfz12_0
  try clear hfz12_1
  try clear hfz12_2
  try clear hfz15_0
  try clear hfz15_1
  try clear hfz15_2
  try clear hfz19_0
  try clear hfz19_1
  try clear hfz19_2
  obtain ⟨kq, x23_2, rfl, HA, HJ2, BK184, BK185, BK186, HB⟩ := hcut
  cases kq with
  | zero => exact absurd HA.out (by simp [matrix_Merge.j0])
  | succ kj2 =>
   have H := HA.out
   clear HA
   simp only [matrix_Merge.j0] at H
   by_cases c21 : x23_2 = true
   ·subst c21
    have H1 : (some (([] : List Int), ([] : List Int), ([] : List (List Int)), 1)) = some (r1, r2, r3, r4) := by rw [if_pos rfl] at H; exact H
    clear H
    have H := H1
    clear H1
    simp only [Option.some.injEq, Prod.mk.injEq] at H
    obtain ⟨rfl, rfl, rfl, rfl⟩ := H
    have hnb22 := NB186_184.out
    have hnc22 := NB184_186.out
    have hnb23 := NB186_185.out
    have hnc23 := NB185_186.out
    have hcz24_0 : wc.cell? ⟨gb186, 0, none⟩ = some (.slice none 0 0) := (blk_cell BK186.out 0).trans rfl
    have hcz24_1 : wc.cell? ⟨gb186, 1, none⟩ = some (.slice none 0 0) := (blk_cell BK186.out 1).trans rfl
    have hcz24_2 : wc.cell? ⟨gb186, 2, none⟩ = some (.slice none 0 0) := (blk_cell BK186.out 2).trans rfl
    have hfz24_0 := blk_frozen BK186.out 0
    have hfz24_1 := blk_frozen BK186.out 1
    have hfz24_2 := blk_frozen BK186.out 2
    go_wp2
    refine bodyPost_ret (results_ct rfl _ _ gb186 53 #[.slice none 0 0, .slice none 0 0, .slice none 0 0] (0, 0) _ rfl (by refine Kp ?_; refine blk_put (cs := #[.slice none 0 0, .slice none 0 0, .slice none 0 0]) ?_ 2 _ rfl; refine Kp ?_; refine blk_put (cs := #[.slice none 0 0, .slice none 0 0, .slice none 0 0]) ?_ 1 _ rfl; refine Kp ?_; refine blk_put (cs := #[.slice none 0 0, .slice none 0 0, .slice none 0 0]) ?_ 0 _ rfl; refine Kp ?_; exact BK186.out) Try.underlying53 rfl (by kernel_rfl)) rfl ?_
    exact ⟨_, _, _, by first | rfl | (simp [errW_none, errW_some] <;> rfl) | (simp [*, errW_none, errW_some] <;> rfl), by first | exact Kd.R_nil _ _ _ _ _ | exact Kd.N_nil _ _ _ _ _ | exact Kd.V_nil _ _ _ _ _ | exact Kd.Q_nil _ _ _ _ _ | exact Kd.S_nil _ _ _ _ _, by first | exact Kd.R_nil _ _ _ _ _ | exact Kd.N_nil _ _ _ _ _ | exact Kd.V_nil _ _ _ _ _ | exact Kd.Q_nil _ _ _ _ _ | exact Kd.S_nil _ _ _ _ _, by first | exact Kd.S_nil _ _ _ _ _ | exact Kd.N_nil _ _ _ _ _ | exact Kd.V_nil _ _ _ _ _ | exact Kd.Q_nil _ _ _ _ _ | exact Kd.R_nil _ _ _ _ _, by repeat first | exact Bl HB | refine Bp (below_set ?_ GE184.out) | refine Bp (below_set ?_ GE185.out) | refine Bp (below_set ?_ GE186.out)⟩
   ·replace c21 := Bool.eq_false_iff.mpr c21
    subst c21
    have H1 : ((matrix_rising_int.f kj2 l0_0 1).bind fun t189 => (if t189 = true then ((matrix_rising_int.f kj2 l0_1 1).bind fun t190 => (if t190 = true then ((matrix_rising_int.f kj2 l1_0 1).bind fun t191 => (if t191 = true then ((matrix_rising_int.f kj2 l1_1 1).bind fun t192 => (matrix_Merge.j1 kj2 (!t192) l0_0 l0_1 l0_2 l1_0 l1_1 l1_2)) else (matrix_Merge.j1 kj2 true l0_0 l0_1 l0_2 l1_0 l1_1 l1_2))) else (matrix_Merge.j1 kj2 true l0_0 l0_1 l0_2 l1_0 l1_1 l1_2))) else (matrix_Merge.j1 kj2 true l0_0 l0_1 l0_2 l1_0 l1_1 l1_2))) = some (r1, r2, r3, r4) := by rw [if_neg (show ¬ (false = true) by decide)] at H; exact H
    clear H
    have H := H1
    clear H1
    have HC25 := Am H
    clear H
    go_upto_region 3 with (fail)
    go_cut [46] (fun v46 wc => ∃ (kq : Nat) (x46_24 : Bool), v46 = .bool x46_24 ∧ Aside0 (matrix_Merge.j1 kq x46_24 l0_0 l0_1 l0_2 l1_0 l1_1 l1_2 = some (r1, r2, r3, r4)) ∧ Aside0 (kq ≤ kj2) ∧ Aside0 (wc.heap[gb184]? = some (.cells #[(.slice A0_0 l0_0.length c0_0), (.slice A0_1 l0_1.length c0_1), (.slice A0_2 l0_2.length c0_2)] 53 (0, 0))) ∧ Aside0 (wc.heap[gb185]? = some (.cells #[(.slice A1_0 l1_0.length c1_0), (.slice A1_1 l1_1.length c1_1), (.slice A1_2 l1_2.length c1_2)] 53 (0, 0))) ∧ Aside0 (wc.heap[gb186]? = some (.cells #[(.slice none 0 0), (.slice none 0 0), (.slice none 0 0)] 53 (0, 0))) ∧ Aside0 (Below w.heap.size w wc))
    case first =>
     have H := HC25.out
     clear HC25
     replace H := Option.bind_eq_some_iff.mp H
     obtain ⟨t189, A260, H⟩ := H
     replace H : (if t189 = true then ((matrix_rising_int.f kj2 l0_1 1).bind fun t190 => (if t190 = true then ((matrix_rising_int.f kj2 l1_0 1).bind fun t191 => (if t191 = true then ((matrix_rising_int.f kj2 l1_1 1).bind fun t192 => (matrix_Merge.j1 kj2 (!t192) l0_0 l0_1 l0_2 l1_0 l1_1 l1_2)) else (matrix_Merge.j1 kj2 true l0_0 l0_1 l0_2 l1_0 l1_1 l1_2))) else (matrix_Merge.j1 kj2 true l0_0 l0_1 l0_2 l1_0 l1_1 l1_2))) else (matrix_Merge.j1 kj2 true l0_0 l0_1 l0_2 l1_0 l1_1 l1_2)) = some (r1, r2, r3, r4) := H
     have A26 := Am A260
     clear A260
     by_cases c27 : t189 = true
     ·subst c27
      have H1 : ((matrix_rising_int.f kj2 l0_1 1).bind fun t190 => (if t190 = true then ((matrix_rising_int.f kj2 l1_0 1).bind fun t191 => (if t191 = true then ((matrix_rising_int.f kj2 l1_1 1).bind fun t192 => (matrix_Merge.j1 kj2 (!t192) l0_0 l0_1 l0_2 l1_0 l1_1 l1_2)) else (matrix_Merge.j1 kj2 true l0_0 l0_1 l0_2 l1_0 l1_1 l1_2))) else (matrix_Merge.j1 kj2 true l0_0 l0_1 l0_2 l1_0 l1_1 l1_2))) = some (r1, r2, r3, r4) := by rw [if_pos rfl] at H; exact H
      clear H
      have H := H1
      clear H1
      replace H := Option.bind_eq_some_iff.mp H
      obtain ⟨t190, A280, H⟩ := H
      replace H : (if t190 = true then ((matrix_rising_int.f kj2 l1_0 1).bind fun t191 => (if t191 = true then ((matrix_rising_int.f kj2 l1_1 1).bind fun t192 => (matrix_Merge.j1 kj2 (!t192) l0_0 l0_1 l0_2 l1_0 l1_1 l1_2)) else (matrix_Merge.j1 kj2 true l0_0 l0_1 l0_2 l1_0 l1_1 l1_2))) else (matrix_Merge.j1 kj2 true l0_0 l0_1 l0_2 l1_0 l1_1 l1_2)) = some (r1, r2, r3, r4) := H
      have A28 := Am A280
      clear A280
      by_cases c29 : t190 = true
      ·subst c29
       have H1 : ((matrix_rising_int.f kj2 l1_0 1).bind fun t191 => (if t191 = true then ((matrix_rising_int.f kj2 l1_1 1).bind fun t192 => (matrix_Merge.j1 kj2 (!t192) l0_0 l0_1 l0_2 l1_0 l1_1 l1_2)) else (matrix_Merge.j1 kj2 true l0_0 l0_1 l0_2 l1_0 l1_1 l1_2))) = some (r1, r2, r3, r4) := by rw [if_pos rfl] at H; exact H
       clear H
       have H := H1
       clear H1
       replace H := Option.bind_eq_some_iff.mp H
       obtain ⟨t191, A300, H⟩ := H
       replace H : (if t191 = true then ((matrix_rising_int.f kj2 l1_1 1).bind fun t192 => (matrix_Merge.j1 kj2 (!t192) l0_0 l0_1 l0_2 l1_0 l1_1 l1_2)) else (matrix_Merge.j1 kj2 true l0_0 l0_1 l0_2 l1_0 l1_1 l1_2)) = some (r1, r2, r3, r4) := H
       have A30 := Am A300
       clear A300
       by_cases c31 : t191 = true
       ·subst c31
        have H1 : ((matrix_rising_int.f kj2 l1_1 1).bind fun t192 => (matrix_Merge.j1 kj2 (!t192) l0_0 l0_1 l0_2 l1_0 l1_1 l1_2)) = some (r1, r2, r3, r4) := by rw [if_pos rfl] at H; exact H
        clear H
        have H := H1
        clear H1
        replace H := Option.bind_eq_some_iff.mp H
        obtain ⟨t192, A320, H⟩ := H
        replace H : (matrix_Merge.j1 kj2 (!t192) l0_0 l0_1 l0_2 l1_0 l1_1 l1_2) = some (r1, r2, r3, r4) := H
        have A32 := Am A320
        clear A320
        have H' := Am H
        clear H
        have hnb33 := NB184_185.out
        have hnc33 := NB185_184.out
        have hnb34 := NB184_186.out
        have hnc34 := NB186_184.out
        have hcz35_0 : wc.cell? ⟨gb184, 0, none⟩ = some (.slice A0_0 l0_0.length c0_0) := (blk_cell BK184.out 0).trans rfl
        have hcz35_1 : wc.cell? ⟨gb184, 1, none⟩ = some (.slice A0_1 l0_1.length c0_1) := (blk_cell BK184.out 1).trans rfl
        have hcz35_2 : wc.cell? ⟨gb184, 2, none⟩ = some (.slice A0_2 l0_2.length c0_2) := (blk_cell BK184.out 2).trans rfl
        have hfz35_0 := blk_frozen BK184.out 0
        have hfz35_1 := blk_frozen BK184.out 1
        have hfz35_2 := blk_frozen BK184.out 2
        go_wp2_with (first | ((with_reducible refine gate_callee (f := 68) rfl ?_); refine goesL_ (some 27) rfl rfl Try.func68 (by kernel_rfl) rfl #[.slice A0_0 l0_0.length c0_0, .int .i64 1] rfl (by (try simp only [List.map_toArray, List.map_cons, List.map_nil]); first | done | rfl | (simp only [List.length_drop, List.length_take]; rfl)) ?_; (with_reducible refine (matrix_rising_int.calls kj2 _ _ l0_0 1 true _ ?side1 ?side2 A26.out).mono ?_); (case side1 => repeat (first | exact (Kd.C_below HR0_0.out HB.out) | (with_reducible refine Kd.C_alloc ?_ _) | (with_reducible refine Kd.C_drewN ?_ _) | (with_reducible refine Kd.C_drew ?_))); (case side2 => exact HC0_0.out); rintro e w' ⟨rfl, ⟨nd, rfl⟩⟩; refine ⟨_, rfl, ?_⟩) | (go_at_call 68; (with_reducible refine (matrix_rising_int.calls kj2 _ _ l0_1 1 true _ ?side1 ?side2 A28.out).mono ?_); (case side1 => repeat (first | exact (Kd.C_below HR0_1.out (by repeat first | exact Bl HB | refine Bp (below_set ?_ GE184.out) | refine Bp (below_set ?_ GE185.out) | refine Bp (below_set ?_ GE186.out))) | (with_reducible refine Kd.C_alloc ?_ _) | (with_reducible refine Kd.C_drewN ?_ _) | (with_reducible refine Kd.C_drew ?_))); (case side2 => exact HC0_1.out); rintro e w' ⟨rfl, ⟨nd, rfl⟩⟩; have hnb36 := NB185_186.out; have hnc36 := NB186_185.out; have hcz37_0 : wc.cell? ⟨gb185, 0, none⟩ = some (.slice A1_0 l1_0.length c1_0) := (blk_cell BK185.out 0).trans rfl; have hcz37_1 : wc.cell? ⟨gb185, 1, none⟩ = some (.slice A1_1 l1_1.length c1_1) := (blk_cell BK185.out 1).trans rfl; have hcz37_2 : wc.cell? ⟨gb185, 2, none⟩ = some (.slice A1_2 l1_2.length c1_2) := (blk_cell BK185.out 2).trans rfl; have hfz37_0 := blk_frozen BK185.out 0; have hfz37_1 := blk_frozen BK185.out 1; have hfz37_2 := blk_frozen BK185.out 2) | (go_at_call 68; (with_reducible refine (matrix_rising_int.calls kj2 _ _ l1_0 1 true _ ?side1 ?side2 A30.out).mono ?_); (case side1 => repeat (first | exact (Kd.C_below HR1_0.out (by repeat first | exact Bl HB | refine Bp (below_set ?_ GE184.out) | refine Bp (below_set ?_ GE185.out) | refine Bp (below_set ?_ GE186.out))) | (with_reducible refine Kd.C_alloc ?_ _) | (with_reducible refine Kd.C_drewN ?_ _) | (with_reducible refine Kd.C_drew ?_))); (case side2 => exact HC1_0.out); rintro e w' ⟨rfl, ⟨nd, rfl⟩⟩) | (go_at_call 68; (with_reducible refine (matrix_rising_int.calls kj2 _ _ l1_1 1 t192 _ ?side1 ?side2 A32.out).mono ?_); (case side1 => repeat (first | exact (Kd.C_below HR1_1.out (by repeat first | exact Bl HB | refine Bp (below_set ?_ GE184.out) | refine Bp (below_set ?_ GE185.out) | refine Bp (below_set ?_ GE186.out))) | (with_reducible refine Kd.C_alloc ?_ _) | (with_reducible refine Kd.C_drewN ?_ _) | (with_reducible refine Kd.C_drew ?_))); (case side2 => exact HC1_1.out); rintro e w' ⟨rfl, ⟨nd, rfl⟩⟩))
        go_meet
        case rel => exact ⟨_, (!t192), (by first | rfl | (simp; done) | (simp [*]; done)), H', ⟨by have := HJ2.out; first | omega | exact Nat.le_refl _⟩, ⟨Kl BK184⟩, ⟨Kl BK185⟩, ⟨Kl BK186⟩, ⟨by repeat first | exact Bl HB | refine Bp (below_set ?_ GE184.out) | refine Bp (below_set ?_ GE185.out) | refine Bp (below_set ?_ GE186.out)⟩⟩
       ·replace c31 := Bool.eq_false_iff.mpr c31
        subst c31
        have H1 : (matrix_Merge.j1 kj2 true l0_0 l0_1 l0_2 l1_0 l1_1 l1_2) = some (r1, r2, r3, r4) := by rw [if_neg (show ¬ (false = true) by decide)] at H; exact H
        clear H
        have H := H1
        clear H1
        have H' := Am H
        clear H
        have hnb38 := NB184_185.out
        have hnc38 := NB185_184.out
        have hnb39 := NB184_186.out
        have hnc39 := NB186_184.out
        have hcz40_0 : wc.cell? ⟨gb184, 0, none⟩ = some (.slice A0_0 l0_0.length c0_0) := (blk_cell BK184.out 0).trans rfl
        have hcz40_1 : wc.cell? ⟨gb184, 1, none⟩ = some (.slice A0_1 l0_1.length c0_1) := (blk_cell BK184.out 1).trans rfl
        have hcz40_2 : wc.cell? ⟨gb184, 2, none⟩ = some (.slice A0_2 l0_2.length c0_2) := (blk_cell BK184.out 2).trans rfl
        have hfz40_0 := blk_frozen BK184.out 0
        have hfz40_1 := blk_frozen BK184.out 1
        have hfz40_2 := blk_frozen BK184.out 2
        go_wp2_with (first | ((with_reducible refine gate_callee (f := 68) rfl ?_); refine goesL_ (some 27) rfl rfl Try.func68 (by kernel_rfl) rfl #[.slice A0_0 l0_0.length c0_0, .int .i64 1] rfl (by (try simp only [List.map_toArray, List.map_cons, List.map_nil]); first | done | rfl | (simp only [List.length_drop, List.length_take]; rfl)) ?_; (with_reducible refine (matrix_rising_int.calls kj2 _ _ l0_0 1 true _ ?side1 ?side2 A26.out).mono ?_); (case side1 => repeat (first | exact (Kd.C_below HR0_0.out HB.out) | (with_reducible refine Kd.C_alloc ?_ _) | (with_reducible refine Kd.C_drewN ?_ _) | (with_reducible refine Kd.C_drew ?_))); (case side2 => exact HC0_0.out); rintro e w' ⟨rfl, ⟨nd, rfl⟩⟩; refine ⟨_, rfl, ?_⟩) | (go_at_call 68; (with_reducible refine (matrix_rising_int.calls kj2 _ _ l0_1 1 true _ ?side1 ?side2 A28.out).mono ?_); (case side1 => repeat (first | exact (Kd.C_below HR0_1.out (by repeat first | exact Bl HB | refine Bp (below_set ?_ GE184.out) | refine Bp (below_set ?_ GE185.out) | refine Bp (below_set ?_ GE186.out))) | (with_reducible refine Kd.C_alloc ?_ _) | (with_reducible refine Kd.C_drewN ?_ _) | (with_reducible refine Kd.C_drew ?_))); (case side2 => exact HC0_1.out); rintro e w' ⟨rfl, ⟨nd, rfl⟩⟩; have hnb41 := NB185_186.out; have hnc41 := NB186_185.out; have hcz42_0 : wc.cell? ⟨gb185, 0, none⟩ = some (.slice A1_0 l1_0.length c1_0) := (blk_cell BK185.out 0).trans rfl; have hcz42_1 : wc.cell? ⟨gb185, 1, none⟩ = some (.slice A1_1 l1_1.length c1_1) := (blk_cell BK185.out 1).trans rfl; have hcz42_2 : wc.cell? ⟨gb185, 2, none⟩ = some (.slice A1_2 l1_2.length c1_2) := (blk_cell BK185.out 2).trans rfl; have hfz42_0 := blk_frozen BK185.out 0; have hfz42_1 := blk_frozen BK185.out 1; have hfz42_2 := blk_frozen BK185.out 2) | (go_at_call 68; (with_reducible refine (matrix_rising_int.calls kj2 _ _ l1_0 1 false _ ?side1 ?side2 A30.out).mono ?_); (case side1 => repeat (first | exact (Kd.C_below HR1_0.out (by repeat first | exact Bl HB | refine Bp (below_set ?_ GE184.out) | refine Bp (below_set ?_ GE185.out) | refine Bp (below_set ?_ GE186.out))) | (with_reducible refine Kd.C_alloc ?_ _) | (with_reducible refine Kd.C_drewN ?_ _) | (with_reducible refine Kd.C_drew ?_))); (case side2 => exact HC1_0.out); rintro e w' ⟨rfl, ⟨nd, rfl⟩⟩))
        go_meet
        case rel => exact ⟨_, (true), (by first | rfl | (simp; done) | (simp [*]; done)), H', ⟨by have := HJ2.out; first | omega | exact Nat.le_refl _⟩, ⟨Kl BK184⟩, ⟨Kl BK185⟩, ⟨Kl BK186⟩, ⟨by repeat first | exact Bl HB | refine Bp (below_set ?_ GE184.out) | refine Bp (below_set ?_ GE185.out) | refine Bp (below_set ?_ GE186.out)⟩⟩
      ·replace c29 := Bool.eq_false_iff.mpr c29
       subst c29
       have H1 : (matrix_Merge.j1 kj2 true l0_0 l0_1 l0_2 l1_0 l1_1 l1_2) = some (r1, r2, r3, r4) := by rw [if_neg (show ¬ (false = true) by decide)] at H; exact H
       clear H
       have H := H1
       clear H1
       have H' := Am H
       clear H
       have hnb43 := NB184_185.out
       have hnc43 := NB185_184.out
       have hnb44 := NB184_186.out
       have hnc44 := NB186_184.out
       have hcz45_0 : wc.cell? ⟨gb184, 0, none⟩ = some (.slice A0_0 l0_0.length c0_0) := (blk_cell BK184.out 0).trans rfl
       have hcz45_1 : wc.cell? ⟨gb184, 1, none⟩ = some (.slice A0_1 l0_1.length c0_1) := (blk_cell BK184.out 1).trans rfl
       have hcz45_2 : wc.cell? ⟨gb184, 2, none⟩ = some (.slice A0_2 l0_2.length c0_2) := (blk_cell BK184.out 2).trans rfl
       have hfz45_0 := blk_frozen BK184.out 0
       have hfz45_1 := blk_frozen BK184.out 1
       have hfz45_2 := blk_frozen BK184.out 2
       go_wp2_with (first | ((with_reducible refine gate_callee (f := 68) rfl ?_); refine goesL_ (some 27) rfl rfl Try.func68 (by kernel_rfl) rfl #[.slice A0_0 l0_0.length c0_0, .int .i64 1] rfl (by (try simp only [List.map_toArray, List.map_cons, List.map_nil]); first | done | rfl | (simp only [List.length_drop, List.length_take]; rfl)) ?_; (with_reducible refine (matrix_rising_int.calls kj2 _ _ l0_0 1 true _ ?side1 ?side2 A26.out).mono ?_); (case side1 => repeat (first | exact (Kd.C_below HR0_0.out HB.out) | (with_reducible refine Kd.C_alloc ?_ _) | (with_reducible refine Kd.C_drewN ?_ _) | (with_reducible refine Kd.C_drew ?_))); (case side2 => exact HC0_0.out); rintro e w' ⟨rfl, ⟨nd, rfl⟩⟩; refine ⟨_, rfl, ?_⟩) | (go_at_call 68; (with_reducible refine (matrix_rising_int.calls kj2 _ _ l0_1 1 false _ ?side1 ?side2 A28.out).mono ?_); (case side1 => repeat (first | exact (Kd.C_below HR0_1.out (by repeat first | exact Bl HB | refine Bp (below_set ?_ GE184.out) | refine Bp (below_set ?_ GE185.out) | refine Bp (below_set ?_ GE186.out))) | (with_reducible refine Kd.C_alloc ?_ _) | (with_reducible refine Kd.C_drewN ?_ _) | (with_reducible refine Kd.C_drew ?_))); (case side2 => exact HC0_1.out); rintro e w' ⟨rfl, ⟨nd, rfl⟩⟩))
       go_meet
       case rel => exact ⟨_, (true), (by first | rfl | (simp; done) | (simp [*]; done)), H', ⟨by have := HJ2.out; first | omega | exact Nat.le_refl _⟩, ⟨Kl BK184⟩, ⟨Kl BK185⟩, ⟨Kl BK186⟩, ⟨by repeat first | exact Bl HB | refine Bp (below_set ?_ GE184.out) | refine Bp (below_set ?_ GE185.out) | refine Bp (below_set ?_ GE186.out)⟩⟩
     ·replace c27 := Bool.eq_false_iff.mpr c27
      subst c27
      have H1 : (matrix_Merge.j1 kj2 true l0_0 l0_1 l0_2 l1_0 l1_1 l1_2) = some (r1, r2, r3, r4) := by rw [if_neg (show ¬ (false = true) by decide)] at H; exact H
      clear H
      have H := H1
      clear H1
      have H' := Am H
      clear H
      have hnb46 := NB184_185.out
      have hnc46 := NB185_184.out
      have hnb47 := NB184_186.out
      have hnc47 := NB186_184.out
      have hcz48_0 : wc.cell? ⟨gb184, 0, none⟩ = some (.slice A0_0 l0_0.length c0_0) := (blk_cell BK184.out 0).trans rfl
      have hcz48_1 : wc.cell? ⟨gb184, 1, none⟩ = some (.slice A0_1 l0_1.length c0_1) := (blk_cell BK184.out 1).trans rfl
      have hcz48_2 : wc.cell? ⟨gb184, 2, none⟩ = some (.slice A0_2 l0_2.length c0_2) := (blk_cell BK184.out 2).trans rfl
      have hfz48_0 := blk_frozen BK184.out 0
      have hfz48_1 := blk_frozen BK184.out 1
      have hfz48_2 := blk_frozen BK184.out 2
      go_wp2_with (first | ((with_reducible refine gate_callee (f := 68) rfl ?_); refine goesL_ (some 27) rfl rfl Try.func68 (by kernel_rfl) rfl #[.slice A0_0 l0_0.length c0_0, .int .i64 1] rfl (by (try simp only [List.map_toArray, List.map_cons, List.map_nil]); first | done | rfl | (simp only [List.length_drop, List.length_take]; rfl)) ?_; (with_reducible refine (matrix_rising_int.calls kj2 _ _ l0_0 1 false _ ?side1 ?side2 A26.out).mono ?_); (case side1 => repeat (first | exact (Kd.C_below HR0_0.out HB.out) | (with_reducible refine Kd.C_alloc ?_ _) | (with_reducible refine Kd.C_drewN ?_ _) | (with_reducible refine Kd.C_drew ?_))); (case side2 => exact HC0_0.out); rintro e w' ⟨rfl, ⟨nd, rfl⟩⟩; refine ⟨_, rfl, ?_⟩))
      go_meet
      case rel => exact ⟨_, (true), (by first | rfl | (simp; done) | (simp [*]; done)), H', ⟨by have := HJ2.out; first | omega | exact Nat.le_refl _⟩, ⟨Kl BK184⟩, ⟨Kl BK185⟩, ⟨Kl BK186⟩, ⟨by repeat first | exact Bl HB | refine Bp (below_set ?_ GE184.out) | refine Bp (below_set ?_ GE185.out) | refine Bp (below_set ?_ GE186.out)⟩⟩
    case rest =>
     clear HC25
     try clear c1
     try clear c2
     try clear p2
     try clear c3
     try clear c4
     try clear c6
     try clear c8
     try clear c10
     try clear c11
     try clear c14
     try clear c17
     try clear c18
     try clear c21
     try clear c22
     try clear c23
     try clear c27
     try clear c29
     try clear c31
     try clear c33
     try clear c34
     try clear c36
     try clear c38
     try clear c39
     try clear c41
     try clear c43
     try clear c44
     try clear c46
     try clear c47
     try clear hcz12_0
     try clear hcz12_1
     try clear hcz12_2
     try clear hcz15_0
     try clear hcz15_1
     try clear hcz15_2
     try clear hcz19_0
     try clear hcz19_1
     try clear hcz19_2
     try clear hcz24_0
     try clear hcz24_1
     try clear hcz24_2
     try clear hcz35_0
     try clear hcz35_1
     try clear hcz35_2
     try clear hcz37_0
     try clear hcz37_1
     try clear hcz37_2
     try clear hcz40_0
     try clear hcz40_1
     try clear hcz40_2
     try clear hcz42_0
     try clear hcz42_1
     try clear hcz42_2
     try clear hcz45_0
     try clear hcz45_1
     try clear hcz45_2
     try clear hcz48_0
     try clear hcz48_1
     try clear hcz48_2
     try clear hfz12_0
     try clear hfz12_1
     try clear hfz12_2
     try clear hfz15_0
     try clear hfz15_1
     try clear hfz15_2
     try clear hfz19_0
     try clear hfz19_1
     try clear hfz19_2
     try clear hfz24_0
     try clear hfz24_1
     try clear hfz24_2
     try clear hfz35_0
     try clear hfz35_1
     try clear hfz35_2
     try clear hfz37_0
     try clear hfz37_1
     try clear hfz37_2
     try clear hfz40_0
     try clear hfz40_1
     try clear hfz40_2
     try clear hfz42_0
     try clear hfz42_1
     try clear hfz42_2
     try clear hfz45_0
     try clear hfz45_1
     try clear hfz45_2
     try clear hfz48_0
     try clear hfz48_1
     try clear hfz48_2
     try clear p2
     obtain ⟨kq, x46_24, rfl, HA, HJ24, BK184, BK185, BK186, HB⟩ := hcut
     cases kq with
     | zero => exact absurd HA.out (by simp [matrix_Merge.j1])
     | succ kj24 =>
      have H := HA.out
      clear HA
      simp only [matrix_Merge.j1] at H
      by_cases c49 : x46_24 = true
      ·subst c49
       have H1 : (some (([] : List Int), ([] : List Int), ([] : List (List Int)), 23)) = some (r1, r2, r3, r4) := by rw [if_pos rfl] at H; exact H
       clear H
       have H := H1
       clear H1
       simp only [Option.some.injEq, Prod.mk.injEq] at H
       obtain ⟨rfl, rfl, rfl, rfl⟩ := H
       have hnb50 := NB186_184.out
       have hnc50 := NB184_186.out
       have hnb51 := NB186_185.out
       have hnc51 := NB185_186.out
       have hcz52_0 : wc.cell? ⟨gb186, 0, none⟩ = some (.slice none 0 0) := (blk_cell BK186.out 0).trans rfl
       have hcz52_1 : wc.cell? ⟨gb186, 1, none⟩ = some (.slice none 0 0) := (blk_cell BK186.out 1).trans rfl
       have hcz52_2 : wc.cell? ⟨gb186, 2, none⟩ = some (.slice none 0 0) := (blk_cell BK186.out 2).trans rfl
       have hfz52_0 := blk_frozen BK186.out 0
       have hfz52_1 := blk_frozen BK186.out 1
       have hfz52_2 := blk_frozen BK186.out 2
       go_wp2
       refine bodyPost_ret (results_ct rfl _ _ gb186 53 #[.slice none 0 0, .slice none 0 0, .slice none 0 0] (0, 0) _ rfl (by refine Kp ?_; refine blk_put (cs := #[.slice none 0 0, .slice none 0 0, .slice none 0 0]) ?_ 2 _ rfl; refine Kp ?_; refine blk_put (cs := #[.slice none 0 0, .slice none 0 0, .slice none 0 0]) ?_ 1 _ rfl; refine Kp ?_; refine blk_put (cs := #[.slice none 0 0, .slice none 0 0, .slice none 0 0]) ?_ 0 _ rfl; refine Kp ?_; exact BK186.out) Try.underlying53 rfl (by kernel_rfl)) rfl ?_
       exact ⟨_, _, _, by first | rfl | (simp [errW_none, errW_some] <;> rfl) | (simp [*, errW_none, errW_some] <;> rfl), by first | exact Kd.R_nil _ _ _ _ _ | exact Kd.N_nil _ _ _ _ _ | exact Kd.V_nil _ _ _ _ _ | exact Kd.Q_nil _ _ _ _ _ | exact Kd.S_nil _ _ _ _ _, by first | exact Kd.R_nil _ _ _ _ _ | exact Kd.N_nil _ _ _ _ _ | exact Kd.V_nil _ _ _ _ _ | exact Kd.Q_nil _ _ _ _ _ | exact Kd.S_nil _ _ _ _ _, by first | exact Kd.S_nil _ _ _ _ _ | exact Kd.N_nil _ _ _ _ _ | exact Kd.V_nil _ _ _ _ _ | exact Kd.Q_nil _ _ _ _ _ | exact Kd.R_nil _ _ _ _ _, by repeat first | exact Bl HB | refine Bp (below_set ?_ GE184.out) | refine Bp (below_set ?_ GE185.out) | refine Bp (below_set ?_ GE186.out)⟩
      ·replace c49 := Bool.eq_false_iff.mpr c49
       subst c49
       have H1 : ((matrix_merged_int.f kj24 l0_0 l1_0).bind fun t193 => ((matrix_merged_int.f kj24 l0_1 l1_1).bind fun t196 => (matrix_Merge.l0 kj24 t193 t196 (t193.length : Int) 0 l0_0 l0_1 l0_2 l1_0 l1_1 l1_2 ([] : List (List Int))))) = some (r1, r2, r3, r4) := by rw [if_neg (show ¬ (false = true) by decide)] at H; exact H
       clear H
       have H := H1
       clear H1
       replace H := Option.bind_eq_some_iff.mp H
       obtain ⟨t193, A530, H⟩ := H
       replace H : ((matrix_merged_int.f kj24 l0_1 l1_1).bind fun t196 => (matrix_Merge.l0 kj24 t193 t196 (t193.length : Int) 0 l0_0 l0_1 l0_2 l1_0 l1_1 l1_2 ([] : List (List Int)))) = some (r1, r2, r3, r4) := H
       have A53 := Am A530
       clear A530
       replace H := Option.bind_eq_some_iff.mp H
       obtain ⟨t196, A540, H⟩ := H
       replace H : (matrix_Merge.l0 kj24 t193 t196 (t193.length : Int) 0 l0_0 l0_1 l0_2 l1_0 l1_1 l1_2 ([] : List (List Int))) = some (r1, r2, r3, r4) := H
       have A54 := Am A540
       clear A540
       have H' := Am H
       clear H
       try go_wp2
       have n0_ := Am (blk_drew BK184.out)
       have n1_ := Am (blk_drew BK185.out)
       have n2_ := Am (blk_drew BK186.out)
       have n3_ := Am (below_drew1 HB.out)
       clear BK184 BK185 BK186 HB
       have BK184 := n0_
       have BK185 := n1_
       have BK186 := n2_
       have HB := n3_
       clear n0_ n1_ n2_ n3_
       refine start_ (n := 13) (S := fun w' => w'.cell? ⟨gb184, 0, none⟩ = some (.slice A0_0 l0_0.length c0_0) ∧ w'.cell? ⟨gb184, 1, none⟩ = some (.slice A0_1 l0_1.length c0_1) ∧ w'.cell? ⟨gb184, 2, none⟩ = some (.slice A0_2 l0_2.length c0_2) ∧ w'.cell? ⟨gb185, 0, none⟩ = some (.slice A1_0 l1_0.length c1_0) ∧ w'.cell? ⟨gb185, 1, none⟩ = some (.slice A1_1 l1_1.length c1_1) ∧ w'.cell? ⟨gb185, 2, none⟩ = some (.slice A1_2 l1_2.length c1_2)) (ds := []) #[false, false, false, false, false, false, false, false, false, false, false, false, false] (by kernel_rfl) rfl rfl ⟨(blk_cell BK184.out 0).trans rfl, (blk_cell BK184.out 1).trans rfl, (blk_cell BK184.out 2).trans rfl, (blk_cell BK185.out 0).trans rfl, (blk_cell BK185.out 1).trans rfl, (blk_cell BK185.out 2).trans rfl⟩ (fun hHeld => ?_); refine with_tabW matrix_Merge.tab5 matrix_Merge.bits5 (fun HT_ HW_ => ?_)
       generalize wc.drew = w55 at BK184 BK185 BK186 HB hHeld ⊢
       refine pure_ (i := 0) (N := some 48) (v := ?_) (a' := ?_) #[true, false, false, false, false, false, false, false, false, false, false, false, false] rfl rfl (any_of HT_.out (by kernel_rfl)) (fun _ _ _ h => h) (Or.inl ⟨by rfl, ?_⟩) ?_ ?_
       rotate_left
       ·intro w'
        go_simp
        with_reducible rfl
       rotate_left
       ·simp only [Act.put, List.setIfInBounds_toArray, List.set_cons_zero, List.set_cons_succ, i64_w, i32_w]
        rfl
       refine pure_ (i := 2) (N := some 50) (v := ?_) (a' := ?_) #[true, false, true, false, false, false, false, false, false, false, false, false, false] rfl rfl (any_of HT_.out (by kernel_rfl)) (fun _ _ _ h => h) (Or.inl ⟨by rfl, ?_⟩) ?_ ?_
       rotate_left
       ·intro w'
        go_simp
        with_reducible rfl
       rotate_left
       ·simp only [Act.put, List.setIfInBounds_toArray, List.set_cons_zero, List.set_cons_succ, i64_w, i32_w]
        rfl
       refine pure_ (i := 5) (N := some 53) (v := ?_) (a' := ?_) #[true, false, true, false, false, true, false, false, false, false, false, false, false] rfl rfl (any_of HT_.out (by kernel_rfl)) (fun _ _ _ h => h) (Or.inl ⟨by rfl, ?_⟩) ?_ ?_
       rotate_left
       ·intro w'
        go_simp
        with_reducible rfl
       rotate_left
       ·simp only [Act.put, List.setIfInBounds_toArray, List.set_cons_zero, List.set_cons_succ, i64_w, i32_w]
        rfl
       refine pure_ (i := 7) (N := some 55) (v := ?_) (a' := ?_) #[true, false, true, false, false, true, false, true, false, false, false, false, false] rfl rfl (any_of HT_.out (by kernel_rfl)) (fun _ _ _ h => h) (Or.inl ⟨by rfl, ?_⟩) ?_ ?_
       rotate_left
       ·intro w'
        go_simp
        with_reducible rfl
       rotate_left
       ·simp only [Act.put, List.setIfInBounds_toArray, List.set_cons_zero, List.set_cons_succ, i64_w, i32_w]
        rfl
       refine take_ (i := 1) (N := some 49) (v := ?_) (a' := ?_) #[true, true, true, false, false, true, false, true, false, false, false, false, false] rfl rfl (take_ofW HT_.out HW_.out (by kernel_rfl)) (fun _ _ _ h => h) (Or.inl ⟨by rfl, ?_⟩) hHeld ?_ ?_
       rotate_left
       ·rintro w' ⟨s0, s1, s2, s3, s4, s5⟩
        go_simp
        with_reducible rfl
       rotate_left
       ·simp only [Act.put, List.setIfInBounds_toArray, List.set_cons_zero, List.set_cons_succ, i64_w, i32_w]
        rfl
       refine take_ (i := 3) (N := some 51) (v := ?_) (a' := ?_) #[true, true, true, true, false, true, false, true, false, false, false, false, false] rfl rfl (take_ofW HT_.out HW_.out (by kernel_rfl)) (fun _ _ _ h => h) (Or.inl ⟨by rfl, ?_⟩) hHeld ?_ ?_
       rotate_left
       ·rintro w' ⟨s0, s1, s2, s3, s4, s5⟩
        go_simp
        with_reducible rfl
       rotate_left
       ·simp only [Act.put, List.setIfInBounds_toArray, List.set_cons_zero, List.set_cons_succ, i64_w, i32_w]
        rfl
       refine take_ (i := 6) (N := some 54) (v := ?_) (a' := ?_) #[true, true, true, true, false, true, true, true, false, false, false, false, false] rfl rfl (take_ofW HT_.out HW_.out (by kernel_rfl)) (fun _ _ _ h => h) (Or.inl ⟨by rfl, ?_⟩) hHeld ?_ ?_
       rotate_left
       ·rintro w' ⟨s0, s1, s2, s3, s4, s5⟩
        go_simp
        with_reducible rfl
       rotate_left
       ·simp only [Act.put, List.setIfInBounds_toArray, List.set_cons_zero, List.set_cons_succ, i64_w, i32_w]
        rfl
       refine take_ (i := 8) (N := some 56) (v := ?_) (a' := ?_) #[true, true, true, true, false, true, true, true, true, false, false, false, false] rfl rfl (take_ofW HT_.out HW_.out (by kernel_rfl)) (fun _ _ _ h => h) (Or.inl ⟨by rfl, ?_⟩) hHeld ?_ ?_
       rotate_left
       ·rintro w' ⟨s0, s1, s2, s3, s4, s5⟩
        go_simp
        with_reducible rfl
       rotate_left
       ·simp only [Act.put, List.setIfInBounds_toArray, List.set_cons_zero, List.set_cons_succ, i64_w, i32_w]
        rfl
       refine join_ (σ := Value × Value × Nat) 1 #[true, true, true, true, true, true, true, true, true, true, true, true, false] (fun s_ => [(52, s_.1), (57, s_.2.1), (6, .pointer (some ⟨s_.2.2, 0, none⟩)), (58, .agg #[s_.1, s_.2.1, .slice none 0 0])]) (fun s_ w' => (w'.cell? ⟨gb184, 0, none⟩ = some (.slice A0_0 l0_0.length c0_0) ∧ w'.cell? ⟨gb184, 1, none⟩ = some (.slice A0_1 l0_1.length c0_1) ∧ w'.cell? ⟨gb184, 2, none⟩ = some (.slice A0_2 l0_2.length c0_2) ∧ w'.cell? ⟨gb185, 0, none⟩ = some (.slice A1_0 l1_0.length c1_0) ∧ w'.cell? ⟨gb185, 1, none⟩ = some (.slice A1_1 l1_1.length c1_1) ∧ w'.cell? ⟨gb185, 2, none⟩ = some (.slice A1_2 l1_2.length c1_2)) ∧ (Kd.R (Kd.int .i64) 3 w' w.heap.size (fun k_ => some k_ ≠ (s_.2.1 : Value).ownBlock) s_.1 t193) ∧ (Kd.R (Kd.int .i64) 3 w' w.heap.size (fun k_ => some k_ ≠ (s_.1 : Value).ownBlock) s_.2.1 t196) ∧ (w'.heap[gb184]? = some (.cells #[.slice A0_0 l0_0.length c0_0, .slice A0_1 l0_1.length c0_1, .slice A0_2 l0_2.length c0_2] 53 (0, 0))) ∧ (w'.heap[gb185]? = some (.cells #[.slice A1_0 l1_0.length c1_0, .slice A1_1 l1_1.length c1_1, .slice A1_2 l1_2.length c1_2] 53 (0, 0))) ∧ (w'.heap[gb186]? = some (.cells #[.slice none 0 0, .slice none 0 0, .slice none 0 0] 53 (0, 0))) ∧ (w'.heap[s_.2.2]? = some (.cells #[.slice none 0 0, .slice none 0 0, .slice none 0 0] 53 (0, 0))) ∧ (w.heap.size ≤ s_.2.2) ∧ (w.heap.size ≤ s_.2.2) ∧ (gb184 ≠ s_.2.2) ∧ (s_.2.2 ≠ gb184) ∧ (gb185 ≠ s_.2.2) ∧ (s_.2.2 ≠ gb185) ∧ (gb186 ≠ s_.2.2) ∧ (s_.2.2 ≠ gb186) ∧ (Below w.heap.size w w')) ?_ ?_
       rotate_left
       ·intro hCont
        refine two_ (i := 4) (j := 11) (Ni := some 52) (Nj := some 6) #[true, true, true, true, true, true, true, true, true, false, false, false, false] #[true, true, true, true, false, true, true, true, true, false, false, true, false] rfl rfl rfl rfl (two_of HT_.out (by kernel_rfl)) (by decide) (by decide) (fun K hK => ?_) (fun K hK => ?_)
        ·skip
         refine goes_ Try.func75 (by kernel_rfl) rfl #[.slice A0_0 l0_0.length c0_0, .slice A1_0 l1_0.length c1_0] (by rfl) rfl rfl (by (try simp only [List.map_toArray, List.map_cons, List.map_nil]); first | done | rfl | (simp only [List.length_drop, List.length_take]; rfl)) ?_
         with_reducible refine (matrix_merged_int.calls kj24 (fun k_ => k_ < w.heap.size) _ _ l0_0 (fun k_ => k_ < w.heap.size) _ _ l1_0 t193 _ ?side1 ?side2 A53.out).mono ?_
         (case side1 => exact Kd.V_mk HC0_0.out (Kd.F_below (Kd.C_F (Kd.heap_int .i64) HR0_0.out) (by repeat first | exact Bl HB | refine Bp (below_set ?_ GE184.out) | refine Bp (below_set ?_ GE185.out) | refine Bp (below_set ?_ GE186.out))))
         (case side2 => exact Kd.V_mk HC1_0.out (Kd.F_below (Kd.C_F (Kd.heap_int .i64) HR1_0.out) (by repeat first | exact Bl HB | refine Bp (below_set ?_ GE184.out) | refine Bp (below_set ?_ GE185.out) | refine Bp (below_set ?_ GE186.out))))
         rintro e w56 ⟨v194, rfl, ho0, hb⟩
         refine ⟨_, rfl, ?_⟩
         have n0_ := Am (Kd.R_lower (Kd.R_mono (ok' := fun k_ => True) ho0 (fun _ hk_ => trivial)) (below_size (by repeat first | exact Bl HB | refine Bp (below_set ?_ GE184.out) | refine Bp (below_set ?_ GE185.out) | refine Bp (below_set ?_ GE186.out))))
         have n1_ := Am (blk_below (Kl BK184) hb)
         have n2_ := Am (blk_below (Kl BK185) hb)
         have n3_ := Am (blk_below (Kl BK186) hb)
         have n4_ := Am (below_step (by repeat first | exact Bl HB | refine Bp (below_set ?_ GE184.out) | refine Bp (below_set ?_ GE185.out) | refine Bp (below_set ?_ GE186.out)) hb)
         clear BK184 BK185 BK186 HB
         have HO195 := n0_
         have BK184 := n1_
         have BK185 := n2_
         have BK186 := n3_
         have HB := n4_
         clear n0_ n1_ n2_ n3_ n4_
         (try clear hb)
         (try clear hb2)
         (try clear hk)
         (try clear hi)
         (try clear ho0)
         refine hK.out _ _ ⟨(blk_cell BK184.out 0).trans rfl, (blk_cell BK184.out 1).trans rfl, (blk_cell BK184.out 2).trans rfl, (blk_cell BK185.out 0).trans rfl, (blk_cell BK185.out 1).trans rfl, (blk_cell BK185.out 2).trans rfl⟩ (fun hHeld => ?_)
         clear hK K
         refine norm_ (a' := ?_) ?_ ?_
         rotate_left
         ·show Act.put _ (some 52) _ = _
          simp only [Act.put, List.setIfInBounds_toArray, List.set_cons_zero, List.set_cons_succ, i64_w, i32_w]
          rfl
         refine two_ (i := 9) (j := 11) (Ni := some 57) (Nj := some 6) #[true, true, true, true, true, true, true, true, true, true, false, false, false] #[true, true, true, true, true, true, true, true, true, false, false, true, false] rfl rfl rfl rfl (two_of HT_.out (by kernel_rfl)) (by decide) (by decide) (fun K hK => ?_) (fun K hK => ?_)
         ·skip
          refine goes_ Try.func75 (by kernel_rfl) rfl #[.slice A0_1 l0_1.length c0_1, .slice A1_1 l1_1.length c1_1] (by rfl) rfl rfl (by (try simp only [List.map_toArray, List.map_cons, List.map_nil]); first | done | rfl | (simp only [List.length_drop, List.length_take]; rfl)) ?_
          with_reducible refine (matrix_merged_int.calls kj24 (fun k_ => k_ < w.heap.size) _ _ l0_1 (fun k_ => k_ < w.heap.size) _ _ l1_1 t196 _ ?side1 ?side2 A54.out).mono ?_
          (case side1 => exact Kd.V_mk HC0_1.out (Kd.F_below (Kd.C_F (Kd.heap_int .i64) HR0_1.out) (by repeat first | exact Bl HB | refine Bp (below_set ?_ GE184.out) | refine Bp (below_set ?_ GE185.out) | refine Bp (below_set ?_ GE186.out))))
          (case side2 => exact Kd.V_mk HC1_1.out (Kd.F_below (Kd.C_F (Kd.heap_int .i64) HR1_1.out) (by repeat first | exact Bl HB | refine Bp (below_set ?_ GE184.out) | refine Bp (below_set ?_ GE185.out) | refine Bp (below_set ?_ GE186.out))))
          rintro e w57 ⟨v197, rfl, ho0, hb⟩
          refine ⟨_, rfl, ?_⟩
          have n0_ := Am (Kd.R_elder' (Rl HO195) (Kd.R_base ho0) hb)
          have n1_ := Am (Kd.R_lower (Kd.R_new' (Kd.R_mono (ok' := fun k_ => True) ho0 (fun _ hk_ => trivial)) (Rb HO195)) (below_size (by repeat first | exact Bl HB | refine Bp (below_set ?_ GE184.out) | refine Bp (below_set ?_ GE185.out) | refine Bp (below_set ?_ GE186.out))))
          have n2_ := Am (blk_below (Kl BK184) hb)
          have n3_ := Am (blk_below (Kl BK185) hb)
          have n4_ := Am (blk_below (Kl BK186) hb)
          have n5_ := Am (below_step (by repeat first | exact Bl HB | refine Bp (below_set ?_ GE184.out) | refine Bp (below_set ?_ GE185.out) | refine Bp (below_set ?_ GE186.out)) hb)
          clear HO195 BK184 BK185 BK186 HB
          have HO195 := n0_
          have HO198 := n1_
          have BK184 := n2_
          have BK185 := n3_
          have BK186 := n4_
          have HB := n5_
          clear n0_ n1_ n2_ n3_ n4_ n5_
          (try clear hb)
          (try clear hb2)
          (try clear hk)
          (try clear hi)
          (try clear ho0)
          obtain ⟨Ao58, co58, eo58⟩ := Kd.R_slice HO198.out
          (first | subst eo58 | (injection eo58 with f1_ f2_ f3_; have f4_ := f1_.symm; have f5_ := f3_.symm; clear f1_ f2_ f3_; subst f4_; subst f5_))
          obtain ⟨Ao59, co59, eo59⟩ := Kd.R_slice HO195.out
          (first | subst eo59 | (injection eo59 with f1_ f2_ f3_; have f4_ := f1_.symm; have f5_ := f3_.symm; clear f1_ f2_ f3_; subst f4_; subst f5_))
          refine hK.out _ _ ⟨(blk_cell BK184.out 0).trans rfl, (blk_cell BK184.out 1).trans rfl, (blk_cell BK184.out 2).trans rfl, (blk_cell BK185.out 0).trans rfl, (blk_cell BK185.out 1).trans rfl, (blk_cell BK185.out 2).trans rfl⟩ (fun hHeld => ?_)
          clear hK K
          refine norm_ (a' := ?_) ?_ ?_
          rotate_left
          ·show Act.put _ (some 57) _ = _
           simp only [Act.put, List.setIfInBounds_toArray, List.set_cons_zero, List.set_cons_succ, i64_w, i32_w]
           rfl
          refine pure_ (i := 10) (N := some 58) (v := ?_) (a' := ?_) #[true, true, true, true, true, true, true, true, true, true, true, false, false] rfl rfl (any_of HT_.out (by kernel_rfl)) (fun _ _ _ h => h) (Or.inl ⟨by rfl, ?_⟩) ?_ ?_
          rotate_left
          ·intro w'
           go_simp
           with_reducible rfl
          rotate_left
          ·simp only [Act.put, List.setIfInBounds_toArray, List.set_cons_zero, List.set_cons_succ, i64_w, i32_w]
           rfl
          refine one_ (i := 11) (N := some 6) #[true, true, true, true, true, true, true, true, true, true, true, true, false] rfl rfl (one_of HT_.out (by kernel_rfl)) (by decide) (fun K hK => ?_)
          refine box_step ?hg (N := 6) ?hd (cs := #[.slice none 0 0, .slice none 0 0, .slice none 0 0]) (t := 53) ?hr ?_; (case hd => rfl); (case hg => rfl); (case hr => first | (go_simp; done) | (go_simp; rfl))
          intro gb199 hg w60 hbox hb
          have n0_ := Am (Kd.R_below (Rl HO195) hb)
          have n1_ := Am (Kd.R_below (Rl HO198) hb)
          have n2_ := Am (blk_below (Kl BK184) hb)
          have n3_ := Am (blk_below (Kl BK185) hb)
          have n4_ := Am (blk_below (Kl BK186) hb)
          have n5_ := Am (below_step (by repeat first | exact Bl HB | refine Bp (below_set ?_ GE184.out) | refine Bp (below_set ?_ GE185.out) | refine Bp (below_set ?_ GE186.out)) hb)
          have n6_ := Am (hbox)
          have n7_ := Am ((by rw [hg]; exact (below_size (by repeat first | exact Bl HB | refine Bp (below_set ?_ GE184.out) | refine Bp (below_set ?_ GE185.out) | refine Bp (below_set ?_ GE186.out))) : w.heap.size ≤ gb199))
          have n8_ := Am ((by rw [hg]; exact (below_size (by repeat first | exact Bl HB | refine Bp (below_set ?_ GE184.out) | refine Bp (below_set ?_ GE185.out) | refine Bp (below_set ?_ GE186.out))) : w.heap.size ≤ gb199))
          have n9_ := Am ((by rw [hg]; exact Nat.ne_of_lt (blk_lt (Kl BK184)) : gb184 ≠ gb199))
          have n10_ := Am ((by rw [hg]; exact Nat.ne_of_gt (blk_lt (Kl BK184)) : gb199 ≠ gb184))
          have n11_ := Am ((by rw [hg]; exact Nat.ne_of_lt (blk_lt (Kl BK185)) : gb185 ≠ gb199))
          have n12_ := Am ((by rw [hg]; exact Nat.ne_of_gt (blk_lt (Kl BK185)) : gb199 ≠ gb185))
          have n13_ := Am ((by rw [hg]; exact Nat.ne_of_lt (blk_lt (Kl BK186)) : gb186 ≠ gb199))
          have n14_ := Am ((by rw [hg]; exact Nat.ne_of_gt (blk_lt (Kl BK186)) : gb199 ≠ gb186))
          clear HO195 HO198 BK184 BK185 BK186 HB
          have HO195 := n0_
          have HO198 := n1_
          have BK184 := n2_
          have BK185 := n3_
          have BK186 := n4_
          have HB := n5_
          have BK199 := n6_
          have GW199 := n7_
          have GE199 := n8_
          have NB184_199 := n9_
          have NB199_184 := n10_
          have NB185_199 := n11_
          have NB199_185 := n12_
          have NB186_199 := n13_
          have NB199_186 := n14_
          clear n0_ n1_ n2_ n3_ n4_ n5_ n6_ n7_ n8_ n9_ n10_ n11_ n12_ n13_ n14_
          clear hb hbox hg
          refine hK.out _ _ ⟨(blk_cell BK184.out 0).trans rfl, (blk_cell BK184.out 1).trans rfl, (blk_cell BK184.out 2).trans rfl, (blk_cell BK185.out 0).trans rfl, (blk_cell BK185.out 1).trans rfl, (blk_cell BK185.out 2).trans rfl⟩ (fun hHeld => ?_)
          clear hK K
          refine norm_ (a' := ?_) ?_ ?_
          rotate_left
          ·show Act.put _ (some 6) _ = _
           simp only [Act.put, List.setIfInBounds_toArray, List.set_cons_zero, List.set_cons_succ, i64_w, i32_w]
           rfl
          exact norm_ (by simp only [putAll, Act.put, List.setIfInBounds_toArray, List.set_cons_zero, List.set_cons_succ]) (hCont (.slice Ao59 t193.length co59, .slice Ao58 t196.length co58, gb199) _ ⟨hHeld, (Rm (Kd.R_mono HO195.out (fun _ hk => hk.2))), (Rm (Kd.R_mono HO198.out (fun _ hk => hk.2))), (Kl BK184), (Kl BK185), (Kl BK186), (Kl BK199), GW199.out, GE199.out, NB184_199.out, NB199_184.out, NB185_199.out, NB199_185.out, NB186_199.out, NB199_186.out, (by repeat first | exact Bl HB | refine Bp (below_set ?_ GE184.out) | refine Bp (below_set ?_ GE185.out) | refine Bp (below_set ?_ GE186.out) | refine Bp (below_set ?_ GE199.out))⟩)
         ·skip
          refine box_step ?hg (N := 6) ?hd (cs := #[.slice none 0 0, .slice none 0 0, .slice none 0 0]) (t := 53) ?hr ?_; (case hd => rfl); (case hg => rfl); (case hr => first | (go_simp; done) | (go_simp; rfl))
          intro gb199 hg w57 hbox hb
          have n0_ := Am (Kd.R_below (Rl HO195) hb)
          have n1_ := Am (blk_below (Kl BK184) hb)
          have n2_ := Am (blk_below (Kl BK185) hb)
          have n3_ := Am (blk_below (Kl BK186) hb)
          have n4_ := Am (below_step (by repeat first | exact Bl HB | refine Bp (below_set ?_ GE184.out) | refine Bp (below_set ?_ GE185.out) | refine Bp (below_set ?_ GE186.out)) hb)
          have n5_ := Am (hbox)
          have n6_ := Am ((by rw [hg]; exact (below_size (by repeat first | exact Bl HB | refine Bp (below_set ?_ GE184.out) | refine Bp (below_set ?_ GE185.out) | refine Bp (below_set ?_ GE186.out))) : w.heap.size ≤ gb199))
          have n7_ := Am ((by rw [hg]; exact (below_size (by repeat first | exact Bl HB | refine Bp (below_set ?_ GE184.out) | refine Bp (below_set ?_ GE185.out) | refine Bp (below_set ?_ GE186.out))) : w.heap.size ≤ gb199))
          have n8_ := Am ((by rw [hg]; exact Nat.ne_of_lt (blk_lt (Kl BK184)) : gb184 ≠ gb199))
          have n9_ := Am ((by rw [hg]; exact Nat.ne_of_gt (blk_lt (Kl BK184)) : gb199 ≠ gb184))
          have n10_ := Am ((by rw [hg]; exact Nat.ne_of_lt (blk_lt (Kl BK185)) : gb185 ≠ gb199))
          have n11_ := Am ((by rw [hg]; exact Nat.ne_of_gt (blk_lt (Kl BK185)) : gb199 ≠ gb185))
          have n12_ := Am ((by rw [hg]; exact Nat.ne_of_lt (blk_lt (Kl BK186)) : gb186 ≠ gb199))
          have n13_ := Am ((by rw [hg]; exact Nat.ne_of_gt (blk_lt (Kl BK186)) : gb199 ≠ gb186))
          clear HO195 BK184 BK185 BK186 HB
          have HO195 := n0_
          have BK184 := n1_
          have BK185 := n2_
          have BK186 := n3_
          have HB := n4_
          have BK199 := n5_
          have GW199 := n6_
          have GE199 := n7_
          have NB184_199 := n8_
          have NB199_184 := n9_
          have NB185_199 := n10_
          have NB199_185 := n11_
          have NB186_199 := n12_
          have NB199_186 := n13_
          clear n0_ n1_ n2_ n3_ n4_ n5_ n6_ n7_ n8_ n9_ n10_ n11_ n12_ n13_
          clear hb hbox hg
          refine hK.out _ _ ⟨(blk_cell BK184.out 0).trans rfl, (blk_cell BK184.out 1).trans rfl, (blk_cell BK184.out 2).trans rfl, (blk_cell BK185.out 0).trans rfl, (blk_cell BK185.out 1).trans rfl, (blk_cell BK185.out 2).trans rfl⟩ (fun hHeld => ?_)
          clear hK K
          refine norm_ (a' := ?_) ?_ ?_
          rotate_left
          ·show Act.put _ (some 6) _ = _
           simp only [Act.put, List.setIfInBounds_toArray, List.set_cons_zero, List.set_cons_succ, i64_w, i32_w]
           rfl
          refine one_ (i := 9) (N := some 57) #[true, true, true, true, true, true, true, true, true, true, false, true, false] rfl rfl (one_of HT_.out (by kernel_rfl)) (by decide) (fun K hK => ?_)
          refine goes_ Try.func75 (by kernel_rfl) rfl #[.slice A0_1 l0_1.length c0_1, .slice A1_1 l1_1.length c1_1] (by rfl) rfl rfl (by (try simp only [List.map_toArray, List.map_cons, List.map_nil]); first | done | rfl | (simp only [List.length_drop, List.length_take]; rfl)) ?_
          with_reducible refine (matrix_merged_int.calls kj24 (fun k_ => k_ < w.heap.size) _ _ l0_1 (fun k_ => k_ < w.heap.size) _ _ l1_1 t196 _ ?side1 ?side2 A54.out).mono ?_
          (case side1 => exact Kd.V_mk HC0_1.out (Kd.F_below (Kd.C_F (Kd.heap_int .i64) HR0_1.out) (by repeat first | exact Bl HB | refine Bp (below_set ?_ GE184.out) | refine Bp (below_set ?_ GE185.out) | refine Bp (below_set ?_ GE186.out) | refine Bp (below_set ?_ GE199.out))))
          (case side2 => exact Kd.V_mk HC1_1.out (Kd.F_below (Kd.C_F (Kd.heap_int .i64) HR1_1.out) (by repeat first | exact Bl HB | refine Bp (below_set ?_ GE184.out) | refine Bp (below_set ?_ GE185.out) | refine Bp (below_set ?_ GE186.out) | refine Bp (below_set ?_ GE199.out))))
          rintro e w58 ⟨v197, rfl, ho0, hb⟩
          refine ⟨_, rfl, ?_⟩
          have n0_ := Am (Kd.R_elder' (Rl HO195) (Kd.R_base ho0) hb)
          have n1_ := Am (Kd.R_lower (Kd.R_new' (Kd.R_mono (ok' := fun k_ => True) ho0 (fun _ hk_ => trivial)) (Rb HO195)) (below_size (by repeat first | exact Bl HB | refine Bp (below_set ?_ GE184.out) | refine Bp (below_set ?_ GE185.out) | refine Bp (below_set ?_ GE186.out) | refine Bp (below_set ?_ GE199.out))))
          have n2_ := Am (blk_below (Kl BK184) hb)
          have n3_ := Am (blk_below (Kl BK185) hb)
          have n4_ := Am (blk_below (Kl BK186) hb)
          have n5_ := Am (blk_below (Kl BK199) hb)
          have n6_ := Am (below_step (by repeat first | exact Bl HB | refine Bp (below_set ?_ GE184.out) | refine Bp (below_set ?_ GE185.out) | refine Bp (below_set ?_ GE186.out) | refine Bp (below_set ?_ GE199.out)) hb)
          clear HO195 BK184 BK185 BK186 BK199 HB
          have HO195 := n0_
          have HO198 := n1_
          have BK184 := n2_
          have BK185 := n3_
          have BK186 := n4_
          have BK199 := n5_
          have HB := n6_
          clear n0_ n1_ n2_ n3_ n4_ n5_ n6_
          (try clear hb)
          (try clear hb2)
          (try clear hk)
          (try clear hi)
          (try clear ho0)
          obtain ⟨Ao59, co59, eo59⟩ := Kd.R_slice HO198.out
          (first | subst eo59 | (injection eo59 with f1_ f2_ f3_; have f4_ := f1_.symm; have f5_ := f3_.symm; clear f1_ f2_ f3_; subst f4_; subst f5_))
          obtain ⟨Ao60, co60, eo60⟩ := Kd.R_slice HO195.out
          (first | subst eo60 | (injection eo60 with f1_ f2_ f3_; have f4_ := f1_.symm; have f5_ := f3_.symm; clear f1_ f2_ f3_; subst f4_; subst f5_))
          refine hK.out _ _ ⟨(blk_cell BK184.out 0).trans rfl, (blk_cell BK184.out 1).trans rfl, (blk_cell BK184.out 2).trans rfl, (blk_cell BK185.out 0).trans rfl, (blk_cell BK185.out 1).trans rfl, (blk_cell BK185.out 2).trans rfl⟩ (fun hHeld => ?_)
          clear hK K
          refine norm_ (a' := ?_) ?_ ?_
          rotate_left
          ·show Act.put _ (some 57) _ = _
           simp only [Act.put, List.setIfInBounds_toArray, List.set_cons_zero, List.set_cons_succ, i64_w, i32_w]
           rfl
          refine pure_ (i := 10) (N := some 58) (v := ?_) (a' := ?_) #[true, true, true, true, true, true, true, true, true, true, true, true, false] rfl rfl (any_of HT_.out (by kernel_rfl)) (fun _ _ _ h => h) (Or.inl ⟨by rfl, ?_⟩) ?_ ?_
          rotate_left
          ·intro w'
           go_simp
           with_reducible rfl
          rotate_left
          ·simp only [Act.put, List.setIfInBounds_toArray, List.set_cons_zero, List.set_cons_succ, i64_w, i32_w]
           rfl
          exact norm_ (by simp only [putAll, Act.put, List.setIfInBounds_toArray, List.set_cons_zero, List.set_cons_succ]) (hCont (.slice Ao60 t193.length co60, .slice Ao59 t196.length co59, gb199) _ ⟨hHeld, (Rm (Kd.R_mono HO195.out (fun _ hk => hk.2))), (Rm (Kd.R_mono HO198.out (fun _ hk => hk.2))), (Kl BK184), (Kl BK185), (Kl BK186), (Kl BK199), GW199.out, GE199.out, NB184_199.out, NB199_184.out, NB185_199.out, NB199_185.out, NB186_199.out, NB199_186.out, (by repeat first | exact Bl HB | refine Bp (below_set ?_ GE184.out) | refine Bp (below_set ?_ GE185.out) | refine Bp (below_set ?_ GE186.out) | refine Bp (below_set ?_ GE199.out))⟩)
        ·skip
         refine box_step ?hg (N := 6) ?hd (cs := #[.slice none 0 0, .slice none 0 0, .slice none 0 0]) (t := 53) ?hr ?_; (case hd => rfl); (case hg => rfl); (case hr => first | (go_simp; done) | (go_simp; rfl))
         intro gb199 hg w56 hbox hb
         have n0_ := Am (blk_below (Kl BK184) hb)
         have n1_ := Am (blk_below (Kl BK185) hb)
         have n2_ := Am (blk_below (Kl BK186) hb)
         have n3_ := Am (below_step (by repeat first | exact Bl HB | refine Bp (below_set ?_ GE184.out) | refine Bp (below_set ?_ GE185.out) | refine Bp (below_set ?_ GE186.out)) hb)
         have n4_ := Am (hbox)
         have n5_ := Am ((by rw [hg]; exact (below_size (by repeat first | exact Bl HB | refine Bp (below_set ?_ GE184.out) | refine Bp (below_set ?_ GE185.out) | refine Bp (below_set ?_ GE186.out))) : w.heap.size ≤ gb199))
         have n6_ := Am ((by rw [hg]; exact (below_size (by repeat first | exact Bl HB | refine Bp (below_set ?_ GE184.out) | refine Bp (below_set ?_ GE185.out) | refine Bp (below_set ?_ GE186.out))) : w.heap.size ≤ gb199))
         have n7_ := Am ((by rw [hg]; exact Nat.ne_of_lt (blk_lt (Kl BK184)) : gb184 ≠ gb199))
         have n8_ := Am ((by rw [hg]; exact Nat.ne_of_gt (blk_lt (Kl BK184)) : gb199 ≠ gb184))
         have n9_ := Am ((by rw [hg]; exact Nat.ne_of_lt (blk_lt (Kl BK185)) : gb185 ≠ gb199))
         have n10_ := Am ((by rw [hg]; exact Nat.ne_of_gt (blk_lt (Kl BK185)) : gb199 ≠ gb185))
         have n11_ := Am ((by rw [hg]; exact Nat.ne_of_lt (blk_lt (Kl BK186)) : gb186 ≠ gb199))
         have n12_ := Am ((by rw [hg]; exact Nat.ne_of_gt (blk_lt (Kl BK186)) : gb199 ≠ gb186))
         clear BK184 BK185 BK186 HB
         have BK184 := n0_
         have BK185 := n1_
         have BK186 := n2_
         have HB := n3_
         have BK199 := n4_
         have GW199 := n5_
         have GE199 := n6_
         have NB184_199 := n7_
         have NB199_184 := n8_
         have NB185_199 := n9_
         have NB199_185 := n10_
         have NB186_199 := n11_
         have NB199_186 := n12_
         clear n0_ n1_ n2_ n3_ n4_ n5_ n6_ n7_ n8_ n9_ n10_ n11_ n12_
         clear hb hbox hg
         refine hK.out _ _ ⟨(blk_cell BK184.out 0).trans rfl, (blk_cell BK184.out 1).trans rfl, (blk_cell BK184.out 2).trans rfl, (blk_cell BK185.out 0).trans rfl, (blk_cell BK185.out 1).trans rfl, (blk_cell BK185.out 2).trans rfl⟩ (fun hHeld => ?_)
         clear hK K
         refine norm_ (a' := ?_) ?_ ?_
         rotate_left
         ·show Act.put _ (some 6) _ = _
          simp only [Act.put, List.setIfInBounds_toArray, List.set_cons_zero, List.set_cons_succ, i64_w, i32_w]
          rfl
         refine one_ (i := 4) (N := some 52) #[true, true, true, true, true, true, true, true, true, false, false, true, false] rfl rfl (one_of HT_.out (by kernel_rfl)) (by decide) (fun K hK => ?_)
         refine goes_ Try.func75 (by kernel_rfl) rfl #[.slice A0_0 l0_0.length c0_0, .slice A1_0 l1_0.length c1_0] (by rfl) rfl rfl (by (try simp only [List.map_toArray, List.map_cons, List.map_nil]); first | done | rfl | (simp only [List.length_drop, List.length_take]; rfl)) ?_
         with_reducible refine (matrix_merged_int.calls kj24 (fun k_ => k_ < w.heap.size) _ _ l0_0 (fun k_ => k_ < w.heap.size) _ _ l1_0 t193 _ ?side1 ?side2 A53.out).mono ?_
         (case side1 => exact Kd.V_mk HC0_0.out (Kd.F_below (Kd.C_F (Kd.heap_int .i64) HR0_0.out) (by repeat first | exact Bl HB | refine Bp (below_set ?_ GE184.out) | refine Bp (below_set ?_ GE185.out) | refine Bp (below_set ?_ GE186.out) | refine Bp (below_set ?_ GE199.out))))
         (case side2 => exact Kd.V_mk HC1_0.out (Kd.F_below (Kd.C_F (Kd.heap_int .i64) HR1_0.out) (by repeat first | exact Bl HB | refine Bp (below_set ?_ GE184.out) | refine Bp (below_set ?_ GE185.out) | refine Bp (below_set ?_ GE186.out) | refine Bp (below_set ?_ GE199.out))))
         rintro e w57 ⟨v194, rfl, ho0, hb⟩
         refine ⟨_, rfl, ?_⟩
         have n0_ := Am (Kd.R_lower (Kd.R_mono (ok' := fun k_ => True) ho0 (fun _ hk_ => trivial)) (below_size (by repeat first | exact Bl HB | refine Bp (below_set ?_ GE184.out) | refine Bp (below_set ?_ GE185.out) | refine Bp (below_set ?_ GE186.out) | refine Bp (below_set ?_ GE199.out))))
         have n1_ := Am (blk_below (Kl BK184) hb)
         have n2_ := Am (blk_below (Kl BK185) hb)
         have n3_ := Am (blk_below (Kl BK186) hb)
         have n4_ := Am (blk_below (Kl BK199) hb)
         have n5_ := Am (below_step (by repeat first | exact Bl HB | refine Bp (below_set ?_ GE184.out) | refine Bp (below_set ?_ GE185.out) | refine Bp (below_set ?_ GE186.out) | refine Bp (below_set ?_ GE199.out)) hb)
         clear BK184 BK185 BK186 BK199 HB
         have HO195 := n0_
         have BK184 := n1_
         have BK185 := n2_
         have BK186 := n3_
         have BK199 := n4_
         have HB := n5_
         clear n0_ n1_ n2_ n3_ n4_ n5_
         (try clear hb)
         (try clear hb2)
         (try clear hk)
         (try clear hi)
         (try clear ho0)
         refine hK.out _ _ ⟨(blk_cell BK184.out 0).trans rfl, (blk_cell BK184.out 1).trans rfl, (blk_cell BK184.out 2).trans rfl, (blk_cell BK185.out 0).trans rfl, (blk_cell BK185.out 1).trans rfl, (blk_cell BK185.out 2).trans rfl⟩ (fun hHeld => ?_)
         clear hK K
         refine norm_ (a' := ?_) ?_ ?_
         rotate_left
         ·show Act.put _ (some 52) _ = _
          simp only [Act.put, List.setIfInBounds_toArray, List.set_cons_zero, List.set_cons_succ, i64_w, i32_w]
          rfl
         refine one_ (i := 9) (N := some 57) #[true, true, true, true, true, true, true, true, true, true, false, true, false] rfl rfl (one_of HT_.out (by kernel_rfl)) (by decide) (fun K hK => ?_)
         refine goes_ Try.func75 (by kernel_rfl) rfl #[.slice A0_1 l0_1.length c0_1, .slice A1_1 l1_1.length c1_1] (by rfl) rfl rfl (by (try simp only [List.map_toArray, List.map_cons, List.map_nil]); first | done | rfl | (simp only [List.length_drop, List.length_take]; rfl)) ?_
         with_reducible refine (matrix_merged_int.calls kj24 (fun k_ => k_ < w.heap.size) _ _ l0_1 (fun k_ => k_ < w.heap.size) _ _ l1_1 t196 _ ?side1 ?side2 A54.out).mono ?_
         (case side1 => exact Kd.V_mk HC0_1.out (Kd.F_below (Kd.C_F (Kd.heap_int .i64) HR0_1.out) (by repeat first | exact Bl HB | refine Bp (below_set ?_ GE184.out) | refine Bp (below_set ?_ GE185.out) | refine Bp (below_set ?_ GE186.out) | refine Bp (below_set ?_ GE199.out))))
         (case side2 => exact Kd.V_mk HC1_1.out (Kd.F_below (Kd.C_F (Kd.heap_int .i64) HR1_1.out) (by repeat first | exact Bl HB | refine Bp (below_set ?_ GE184.out) | refine Bp (below_set ?_ GE185.out) | refine Bp (below_set ?_ GE186.out) | refine Bp (below_set ?_ GE199.out))))
         rintro e w58 ⟨v197, rfl, ho0, hb⟩
         refine ⟨_, rfl, ?_⟩
         have n0_ := Am (Kd.R_elder' (Rl HO195) (Kd.R_base ho0) hb)
         have n1_ := Am (Kd.R_lower (Kd.R_new' (Kd.R_mono (ok' := fun k_ => True) ho0 (fun _ hk_ => trivial)) (Rb HO195)) (below_size (by repeat first | exact Bl HB | refine Bp (below_set ?_ GE184.out) | refine Bp (below_set ?_ GE185.out) | refine Bp (below_set ?_ GE186.out) | refine Bp (below_set ?_ GE199.out))))
         have n2_ := Am (blk_below (Kl BK184) hb)
         have n3_ := Am (blk_below (Kl BK185) hb)
         have n4_ := Am (blk_below (Kl BK186) hb)
         have n5_ := Am (blk_below (Kl BK199) hb)
         have n6_ := Am (below_step (by repeat first | exact Bl HB | refine Bp (below_set ?_ GE184.out) | refine Bp (below_set ?_ GE185.out) | refine Bp (below_set ?_ GE186.out) | refine Bp (below_set ?_ GE199.out)) hb)
         clear HO195 BK184 BK185 BK186 BK199 HB
         have HO195 := n0_
         have HO198 := n1_
         have BK184 := n2_
         have BK185 := n3_
         have BK186 := n4_
         have BK199 := n5_
         have HB := n6_
         clear n0_ n1_ n2_ n3_ n4_ n5_ n6_
         (try clear hb)
         (try clear hb2)
         (try clear hk)
         (try clear hi)
         (try clear ho0)
         obtain ⟨Ao59, co59, eo59⟩ := Kd.R_slice HO198.out
         (first | subst eo59 | (injection eo59 with f1_ f2_ f3_; have f4_ := f1_.symm; have f5_ := f3_.symm; clear f1_ f2_ f3_; subst f4_; subst f5_))
         obtain ⟨Ao60, co60, eo60⟩ := Kd.R_slice HO195.out
         (first | subst eo60 | (injection eo60 with f1_ f2_ f3_; have f4_ := f1_.symm; have f5_ := f3_.symm; clear f1_ f2_ f3_; subst f4_; subst f5_))
         refine hK.out _ _ ⟨(blk_cell BK184.out 0).trans rfl, (blk_cell BK184.out 1).trans rfl, (blk_cell BK184.out 2).trans rfl, (blk_cell BK185.out 0).trans rfl, (blk_cell BK185.out 1).trans rfl, (blk_cell BK185.out 2).trans rfl⟩ (fun hHeld => ?_)
         clear hK K
         refine norm_ (a' := ?_) ?_ ?_
         rotate_left
         ·show Act.put _ (some 57) _ = _
          simp only [Act.put, List.setIfInBounds_toArray, List.set_cons_zero, List.set_cons_succ, i64_w, i32_w]
          rfl
         refine pure_ (i := 10) (N := some 58) (v := ?_) (a' := ?_) #[true, true, true, true, true, true, true, true, true, true, true, true, false] rfl rfl (any_of HT_.out (by kernel_rfl)) (fun _ _ _ h => h) (Or.inl ⟨by rfl, ?_⟩) ?_ ?_
         rotate_left
         ·intro w'
          go_simp
          with_reducible rfl
         rotate_left
         ·simp only [Act.put, List.setIfInBounds_toArray, List.set_cons_zero, List.set_cons_succ, i64_w, i32_w]
          rfl
         exact norm_ (by simp only [putAll, Act.put, List.setIfInBounds_toArray, List.set_cons_zero, List.set_cons_succ]) (hCont (.slice Ao60 t193.length co60, .slice Ao59 t196.length co59, gb199) _ ⟨hHeld, (Rm (Kd.R_mono HO195.out (fun _ hk => hk.2))), (Rm (Kd.R_mono HO198.out (fun _ hk => hk.2))), (Kl BK184), (Kl BK185), (Kl BK186), (Kl BK199), GW199.out, GE199.out, NB184_199.out, NB199_184.out, NB185_199.out, NB199_185.out, NB186_199.out, NB199_186.out, (by repeat first | exact Bl HB | refine Bp (below_set ?_ GE184.out) | refine Bp (below_set ?_ GE185.out) | refine Bp (below_set ?_ GE186.out) | refine Bp (below_set ?_ GE199.out))⟩)
       rintro ⟨v194, v197, gb199⟩ w61 ⟨hS_, h0_, h1_, h2_, h3_, h4_, h5_, h6_, h7_, h8_, h9_, h10_, h11_, h12_, h13_, h14_⟩
       have n0_ : Aside0 (Kd.R (Kd.int .i64) 3 w61 w.heap.size (fun k_ => some k_ ≠ (v197 : Value).ownBlock) v194 t193) := ⟨h0_⟩
       have n1_ : Aside0 (Kd.R (Kd.int .i64) 3 w61 w.heap.size (fun k_ => some k_ ≠ (v194 : Value).ownBlock) v197 t196) := ⟨h1_⟩
       have n2_ : Aside0 (w61.heap[gb184]? = some (.cells #[.slice A0_0 l0_0.length c0_0, .slice A0_1 l0_1.length c0_1, .slice A0_2 l0_2.length c0_2] 53 (0, 0))) := ⟨h2_⟩
       have n3_ : Aside0 (w61.heap[gb185]? = some (.cells #[.slice A1_0 l1_0.length c1_0, .slice A1_1 l1_1.length c1_1, .slice A1_2 l1_2.length c1_2] 53 (0, 0))) := ⟨h3_⟩
       have n4_ : Aside0 (w61.heap[gb186]? = some (.cells #[.slice none 0 0, .slice none 0 0, .slice none 0 0] 53 (0, 0))) := ⟨h4_⟩
       have n5_ : Aside0 (w61.heap[gb199]? = some (.cells #[.slice none 0 0, .slice none 0 0, .slice none 0 0] 53 (0, 0))) := ⟨h5_⟩
       have n6_ : Aside0 (w.heap.size ≤ gb199) := ⟨h6_⟩
       have n7_ : Aside0 (w.heap.size ≤ gb199) := ⟨h7_⟩
       have n8_ : Aside0 (gb184 ≠ gb199) := ⟨h8_⟩
       have n9_ : Aside0 (gb199 ≠ gb184) := ⟨h9_⟩
       have n10_ : Aside0 (gb185 ≠ gb199) := ⟨h10_⟩
       have n11_ : Aside0 (gb199 ≠ gb185) := ⟨h11_⟩
       have n12_ : Aside0 (gb186 ≠ gb199) := ⟨h12_⟩
       have n13_ : Aside0 (gb199 ≠ gb186) := ⟨h13_⟩
       have n14_ : Aside0 (Below w.heap.size w w61) := ⟨h14_⟩
       clear BK184 BK185 BK186 HB
       clear h0_ h1_ h2_ h3_ h4_ h5_ h6_ h7_ h8_ h9_ h10_ h11_ h12_ h13_ h14_
       have HO195 := n0_
       have HO198 := n1_
       have BK184 := n2_
       have BK185 := n3_
       have BK186 := n4_
       have BK199 := n5_
       have GW199 := n6_
       have GE199 := n7_
       have NB184_199 := n8_
       have NB199_184 := n9_
       have NB185_199 := n10_
       have NB199_185 := n11_
       have NB186_199 := n12_
       have NB199_186 := n13_
       have HB := n14_
       clear n0_ n1_ n2_ n3_ n4_ n5_ n6_ n7_ n8_ n9_ n10_ n11_ n12_ n13_ n14_
       have hHeld : w61.cell? ⟨gb184, 0, none⟩ = some (.slice A0_0 l0_0.length c0_0) ∧ w61.cell? ⟨gb184, 1, none⟩ = some (.slice A0_1 l0_1.length c0_1) ∧ w61.cell? ⟨gb184, 2, none⟩ = some (.slice A0_2 l0_2.length c0_2) ∧ w61.cell? ⟨gb185, 0, none⟩ = some (.slice A1_0 l1_0.length c1_0) ∧ w61.cell? ⟨gb185, 1, none⟩ = some (.slice A1_1 l1_1.length c1_1) ∧ w61.cell? ⟨gb185, 2, none⟩ = some (.slice A1_2 l1_2.length c1_2) := hS_
       obtain ⟨Ao62, co62, eo62⟩ := Kd.R_slice HO198.out
       (first | subst eo62 | (injection eo62 with f1_ f2_ f3_; have f4_ := f1_.symm; have f5_ := f3_.symm; clear f1_ f2_ f3_; subst f4_; subst f5_))
       obtain ⟨Ao63, co63, eo63⟩ := Kd.R_slice HO195.out
       (first | subst eo63 | (injection eo63 with f1_ f2_ f3_; have f4_ := f1_.symm; have f5_ := f3_.symm; clear f1_ f2_ f3_; subst f4_; subst f5_))
       refine norm_ (a' := ?_) ?_ ?_
       rotate_left
       ·simp only [putAll, Act.put, List.setIfInBounds_toArray, List.set_cons_zero, List.set_cons_succ]
        rfl
       refine one_ (i := 12) (N := none) #[true, true, true, true, true, true, true, true, true, true, true, true, true] rfl rfl (one_of HT_.out (by kernel_rfl)) (by decide) (fun K hK => ?_)
       have hs64 : w61.cell? ⟨gb199, 0, none⟩ = some (.slice none 0 0) := (blk_cell BK199.out 0).trans rfl
       have hfs64 := blk_frozen BK199.out 0
       have hns64_0 := NB184_199.out
       have hns64_1 := NB185_199.out
       have hns64_2 := NB186_199.out
       have hms64_0 := NB199_184.out
       have hms64_1 := NB199_185.out
       have hms64_2 := NB199_186.out
       have hs65 : w61.cell? ⟨gb199, 1, none⟩ = some (.slice none 0 0) := (blk_cell BK199.out 1).trans rfl
       have hfs65 := blk_frozen BK199.out 1
       have hns65_0 := NB184_199.out
       have hns65_1 := NB185_199.out
       have hns65_2 := NB186_199.out
       have hms65_0 := NB199_184.out
       have hms65_1 := NB199_185.out
       have hms65_2 := NB199_186.out
       have hs66 : w61.cell? ⟨gb199, 2, none⟩ = some (.slice none 0 0) := (blk_cell BK199.out 2).trans rfl
       have hfs66 := blk_frozen BK199.out 2
       have hns66_0 := NB184_199.out
       have hns66_1 := NB185_199.out
       have hns66_2 := NB186_199.out
       have hms66_0 := NB199_184.out
       have hms66_1 := NB199_185.out
       have hms66_2 := NB199_186.out
       refine skip_ (w1 := ?_) (by rfl) rfl ?_ ?_
       rotate_left
       ·go_simp
        rfl
       refine hK.out _ _ ⟨((cell_far (p := ⟨gb199, _, none⟩) NB184_199.out _).trans (((cell_far (p := ⟨gb199, _, none⟩) NB184_199.out _).trans (((cell_far (p := ⟨gb199, _, none⟩) NB184_199.out _).trans (hHeld.1)))))), ((cell_far (p := ⟨gb199, _, none⟩) NB184_199.out _).trans (((cell_far (p := ⟨gb199, _, none⟩) NB184_199.out _).trans (((cell_far (p := ⟨gb199, _, none⟩) NB184_199.out _).trans (hHeld.2.1)))))), ((cell_far (p := ⟨gb199, _, none⟩) NB184_199.out _).trans (((cell_far (p := ⟨gb199, _, none⟩) NB184_199.out _).trans (((cell_far (p := ⟨gb199, _, none⟩) NB184_199.out _).trans (hHeld.2.2.1)))))), ((cell_far (p := ⟨gb199, _, none⟩) NB185_199.out _).trans (((cell_far (p := ⟨gb199, _, none⟩) NB185_199.out _).trans (((cell_far (p := ⟨gb199, _, none⟩) NB185_199.out _).trans (hHeld.2.2.2.1)))))), ((cell_far (p := ⟨gb199, _, none⟩) NB185_199.out _).trans (((cell_far (p := ⟨gb199, _, none⟩) NB185_199.out _).trans (((cell_far (p := ⟨gb199, _, none⟩) NB185_199.out _).trans (hHeld.2.2.2.2.1)))))), ((cell_far (p := ⟨gb199, _, none⟩) NB185_199.out _).trans (((cell_far (p := ⟨gb199, _, none⟩) NB185_199.out _).trans (((cell_far (p := ⟨gb199, _, none⟩) NB185_199.out _).trans (hHeld.2.2.2.2.2))))))⟩ (fun hHeld => ?_)
       clear hK K
       refine done_ (done_of HT_.out (by kernel_rfl)) ?_
       have hnb67 := NB199_184.out
       have hnc67 := NB184_199.out
       have hnb68 := NB199_185.out
       have hnc68 := NB185_199.out
       have hnb69 := NB199_186.out
       have hnc69 := NB186_199.out
       have hcz70_0 : w61.cell? ⟨gb199, 0, none⟩ = some (.slice none 0 0) := (blk_cell BK199.out 0).trans rfl
       have hcz70_1 : w61.cell? ⟨gb199, 1, none⟩ = some (.slice none 0 0) := (blk_cell BK199.out 1).trans rfl
       have hcz70_2 : w61.cell? ⟨gb199, 2, none⟩ = some (.slice none 0 0) := (blk_cell BK199.out 2).trans rfl
       have hfz70_0 := blk_frozen BK199.out 0
       have hfz70_1 := blk_frozen BK199.out 1
       have hfz70_2 := blk_frozen BK199.out 2
       try go_wp2
       go_loopg [62] kj24 (fun kq v62 w' => ∃ (x62_3 : Int) (x200002_3 : List (List Int)) (u200002 : Value), v62 = .int .i64 x62_3 ∧ Aside0 (matrix_Merge.l0 kq t193 t196 (t193.length : Int) x62_3 l0_0 l0_1 l0_2 l1_0 l1_1 l1_2 x200002_3 = some (r1, r2, r3, r4)) ∧ Aside0 (kq ≤ kj24) ∧ Aside0 (Kd.R (Kd.int .i64) 3 w' w.heap.size (fun k_ => some k_ ≠ ((.slice Ao62 t196.length co62) : Value).ownBlock) (.slice Ao63 t193.length co63) t193) ∧ Aside0 (Kd.R (Kd.int .i64) 3 w' w.heap.size (fun k_ => some k_ ≠ ((.slice Ao63 t193.length co63) : Value).ownBlock) (.slice Ao62 t196.length co62) t196) ∧ Aside0 (Kd.S (Kd.slice 3 (Kd.int .i64)) 34 w' w.heap.size (fun k_ => some k_ ≠ ((.slice Ao63 t193.length co63) : Value).ownBlock ∧ some k_ ≠ ((.slice Ao62 t196.length co62) : Value).ownBlock) u200002 x200002_3) ∧ Aside0 (w'.heap[gb184]? = some (.cells #[(.slice A0_0 l0_0.length c0_0), (.slice A0_1 l0_1.length c0_1), (.slice A0_2 l0_2.length c0_2)] 53 (0, 0))) ∧ Aside0 (w'.heap[gb185]? = some (.cells #[(.slice A1_0 l1_0.length c1_0), (.slice A1_1 l1_1.length c1_1), (.slice A1_2 l1_2.length c1_2)] 53 (0, 0))) ∧ Aside0 (w'.heap[gb186]? = some (.cells #[(.slice none 0 0), (.slice none 0 0), (.slice none 0 0)] 53 (0, 0))) ∧ Aside0 (w'.heap[gb199]? = some (.cells #[(.slice Ao63 t193.length co63), (.slice Ao62 t196.length co62), u200002] 53 (0, 0))) ∧ Aside0 (Below w.heap.size w w'))
       case atStart => exact ⟨(0), (([] : List (List Int))), (.slice none 0 0), (by first | rfl | (simp; done) | (simp [*]; done)), H', ⟨Nat.le_refl _⟩, ⟨Rm (Kd.R_mono (Kd.R_far (p := ⟨gb199, 2, none⟩) (Kd.R_far (p := ⟨gb199, 1, none⟩) (Kd.R_far (p := ⟨gb199, 0, none⟩) (Kd.R_types HO195.out BK199.out (by decide)) (fun _ hk => hk.2) (.slice Ao63 t193.length co63)) (fun _ hk => hk.2) (.slice Ao62 t196.length co62)) (fun _ hk => hk.2) (.slice none 0 0)) (fun _ hk => hk.1))⟩, ⟨Rm (Kd.R_mono (Kd.R_far (p := ⟨gb199, 2, none⟩) (Kd.R_far (p := ⟨gb199, 1, none⟩) (Kd.R_far (p := ⟨gb199, 0, none⟩) (Kd.R_types HO198.out BK199.out (by decide)) (fun _ hk => hk.2) (.slice Ao63 t193.length co63)) (fun _ hk => hk.2) (.slice Ao62 t196.length co62)) (fun _ hk => hk.2) (.slice none 0 0)) (fun _ hk => hk.1))⟩, ⟨by first | exact Kd.S_nil _ _ _ _ _ | exact Kd.N_nil _ _ _ _ _ | exact Kd.V_nil _ _ _ _ _ | exact Kd.Q_nil _ _ _ _ _ | exact Kd.R_nil _ _ _ _ _⟩, ⟨by refine Kp ?_; refine blk_far ?_ NB184_199.out _; refine Kp ?_; refine blk_far ?_ NB184_199.out _; refine Kp ?_; refine blk_far ?_ NB184_199.out _; refine Kp ?_; exact BK184.out⟩, ⟨by refine Kp ?_; refine blk_far ?_ NB185_199.out _; refine Kp ?_; refine blk_far ?_ NB185_199.out _; refine Kp ?_; refine blk_far ?_ NB185_199.out _; refine Kp ?_; exact BK185.out⟩, ⟨by refine Kp ?_; refine blk_far ?_ NB186_199.out _; refine Kp ?_; refine blk_far ?_ NB186_199.out _; refine Kp ?_; refine blk_far ?_ NB186_199.out _; refine Kp ?_; exact BK186.out⟩, ⟨by refine Kp ?_; refine blk_put (cs := #[.slice Ao63 t193.length co63, .slice Ao62 t196.length co62, .slice none 0 0]) ?_ 2 _ rfl; refine Kp ?_; refine blk_put (cs := #[.slice Ao63 t193.length co63, .slice none 0 0, .slice none 0 0]) ?_ 1 _ rfl; refine Kp ?_; refine blk_put (cs := #[.slice none 0 0, .slice none 0 0, .slice none 0 0]) ?_ 0 _ rfl; refine Kp ?_; exact BK199.out⟩, ⟨by repeat first | exact Bl HB | refine Bp (below_set ?_ GE184.out) | refine Bp (below_set ?_ GE185.out) | refine Bp (below_set ?_ GE186.out) | refine Bp (below_set ?_ GE199.out)⟩⟩
       case round =>
        clear H'
        try clear c1
        try clear p2
        try clear c4
        try clear c5
        try clear c6
        try clear c7
        try clear c49
        try clear c50
        try clear c51
        try clear c67
        try clear c68
        try clear c69
        try clear hcz52_0
        try clear hcz52_1
        try clear hcz52_2
        try clear hcz70_0
        try clear hcz70_1
        try clear hcz70_2
        try clear hfz40_1
        try clear hfz40_2
        try clear hfz42_0
        try clear hfz42_1
        try clear hfz42_2
        try clear hfz45_0
        try clear hfz45_1
        try clear hfz45_2
        try clear hfz48_0
        try clear hfz48_1
        try clear hfz48_2
        try clear hfz52_0
        try clear hfz52_1
        try clear hfz52_2
        try clear hfz70_0
        try clear hfz70_1
        try clear hfz70_2
        try clear p2
        obtain ⟨x62_3, x200002_3, u200002, rfl, HA, HK3, HO_52, HO_57, HO_200002, BK184, BK185, BK186, BK199, HB⟩ := hrel
        cases gk with
        | zero => exact absurd HA.out (by simp [matrix_Merge.l0])
        | succ k3 =>
         have H := HA.out
         clear HA
         simp only [matrix_Merge.l0] at H
         by_cases c71 : x62_3 < (t193.length : Int)
         ·rw [if_pos c71] at H
          have c71b0 : decide (x62_3 < (t193.length : Int)) = true := decide_eq_true c71
          clear c71
          by_cases c72 : 0 ≤ x62_3
          ·rw [if_pos c72] at H
           have c72b0 : decide (0 ≤ x62_3) = true := decide_eq_true c72
           clear c72
           by_cases c73 : x62_3 < (t193.length : Int)
           ·rw [if_pos c73] at H
            have c73b0 : decide (x62_3 < (t193.length : Int)) = true := decide_eq_true c73
            clear c73
            by_cases c74 : 0 ≤ (t196.length : Int)
            ·rw [if_pos c74] at H
             have c74b0 := eq_true c74
             have c74b1 : decide (0 ≤ (t196.length : Int)) = true := decide_eq_true c74
             clear c74
             by_cases c75 : ((t196.length : Int) : Int).toNat ≤ 35184372088832
             ·rw [if_pos c75] at H
              have c75b0 := eq_true c75
              have c75b1 : decide (((t196.length : Int) : Int).toNat ≤ 35184372088832) = true := decide_eq_true c75
              clear c75
              obtain ⟨y201, hy201⟩ : ∃ y_ : List Int, y_ = (([] : List Int)) := ⟨_, rfl⟩
              replace H : (matrix_Merge.l1 k3 (rd t193 x62_3) y201 t193 t196 (t193.length : Int) x62_3 (t196.length : Int) 0 l0_0 l0_1 l0_2 l1_0 l1_1 l1_2 x200002_3) = some (r1, r2, r3, r4) := by first | (rw [hy201]; with_reducible exact H) | (have H2_ := (Option.bind_some _ _).symm.trans H; rw [hy201]; with_reducible exact H2_) | (have H2_ := (Option.bind_some _ _).symm.trans H; with_reducible exact H2_) | with_reducible exact H | (rw [hy201]; exact H) | exact H
              have Ny201 := Am hy201
              clear hy201
              have H' := Am H
              clear H
              have p200 : 0 ≤ (x62_3 : Int) := of_decide_eq_true (by first | (with_reducible assumption) | assumption)
              have q200 : x62_3 < (t193.length : Int) := of_decide_eq_true (by first | (with_reducible assumption) | assumption)
              obtain ⟨ad200, e200, hx200_0⟩ := Kd.at_int (Kd.R_reads' HO_52.out).2.2 x62_3 p200 q200
              cases e200
              replace p200 := eq_true p200
              replace q200 := eq_true q200
              have hnb76 := NB199_184.out
              have hnc76 := NB184_199.out
              have hnb77 := NB199_185.out
              have hnc77 := NB185_199.out
              have hnb78 := NB199_186.out
              have hnc78 := NB186_199.out
              have hcz79_0 : wr.cell? ⟨gb199, 0, none⟩ = some (.slice (some ad200) t193.length co63) := (blk_cell BK199.out 0).trans rfl
              have hcz79_1 : wr.cell? ⟨gb199, 1, none⟩ = some (.slice Ao62 t196.length co62) := (blk_cell BK199.out 1).trans rfl
              have hcz79_2 : wr.cell? ⟨gb199, 2, none⟩ = some (u200002) := (blk_cell BK199.out 2).trans rfl
              have hfz79_0 := blk_frozen BK199.out 0
              have hfz79_1 := blk_frozen BK199.out 1
              have hfz79_2 := blk_frozen BK199.out 2
              go_wp2_with (first | ((with_reducible refine gate_dst (N := 69) rfl ?_); (try (refine gate_guard (by rfl) ?_; dsimp only)); refine Go.Proofs.YtgeplglggcoaiaaMakec.R_makec (Kd.int .i64) _ 3 rfl (N := 69) rfl 34 _ _ rfl (t196.length : Int) rfl rfl Try.underlying34 (.int .i64 0) 8 info3 rfl (by decide) (by omega) 0 (ok := fun _ => True) (okp := fun _ => True) rfl (fun _ hk => hk) trivial (of_decide_eq_true (by first | (with_reducible assumption) | assumption)) (Nat.le_trans (Nat.mul_le_mul_right _ (of_decide_eq_true (by first | (with_reducible assumption) | assumption) : (t196.length : Int).toNat ≤ 35184372088832)) (by omega)) (Below.refl _ _) (Nat.le_refl _) ?_; intro v202 w80 ho81 hb hg_ hnew_; clear hg_ hnew_; (first | rw [← Ny201.out] at ho81 | (simp only [Int.reduceToNat] at ho81; rw [← Ny201.out] at ho81)); have n0_ := Am (Kd.R_elder' (Rl HO_52) (Kd.R_base ho81) hb); have n1_ := Am (Kd.R_elder' (Rl HO_57) (Kd.R_base ho81) hb); have n2_ := Am (Kd.S_elder' (Sl HO_200002) (Kd.R_base ho81) hb); have n3_ := Am (Kd.R_lower (Kd.R_new' (Kd.R_new' ho81 (Rb HO_52)) (Rb HO_57)) (below_size (by repeat first | exact Bl HB | refine Bp (below_set ?_ GE184.out) | refine Bp (below_set ?_ GE185.out) | refine Bp (below_set ?_ GE186.out) | refine Bp (below_set ?_ GE199.out)))); have n4_ := Am (blk_below (Kl BK184) hb); have n5_ := Am (blk_below (Kl BK185) hb); have n6_ := Am (blk_below (Kl BK186) hb); have n7_ := Am (blk_below (Kl BK199) hb); have n8_ := Am (below_step (by repeat first | exact Bl HB | refine Bp (below_set ?_ GE184.out) | refine Bp (below_set ?_ GE185.out) | refine Bp (below_set ?_ GE186.out) | refine Bp (below_set ?_ GE199.out)) hb); clear HO_52 HO_57 HO_200002 BK184 BK185 BK186 BK199 HB; have HO_52 := n0_; have HO_57 := n1_; have HO_200002 := n2_; have HO203 := n3_; have BK184 := n4_; have BK185 := n5_; have BK186 := n6_; have BK199 := n7_; have HB := n8_; clear n0_ n1_ n2_ n3_ n4_ n5_ n6_ n7_ n8_; clear hb ho81; have hcz82_0 : w80.cell? ⟨gb199, 0, none⟩ = some (.slice (some ad200) t193.length co63) := (blk_cell BK199.out 0).trans rfl; have hcz82_1 : w80.cell? ⟨gb199, 1, none⟩ = some (.slice Ao62 t196.length co62) := (blk_cell BK199.out 1).trans rfl; have hcz82_2 : w80.cell? ⟨gb199, 2, none⟩ = some (u200002) := (blk_cell BK199.out 2).trans rfl; have hfz82_0 := blk_frozen BK199.out 0; have hfz82_1 := blk_frozen BK199.out 1; have hfz82_2 := blk_frozen BK199.out 2))
              go_loopg [9, 73] k3 (fun kq v9 v73 w' => ∃ (x9_4 : List Int) (x73_4 : Int), v73 = .int .i64 x73_4 ∧ Aside0 (matrix_Merge.l1 kq (rd t193 x62_3) x9_4 t193 t196 (t193.length : Int) x62_3 (t196.length : Int) x73_4 l0_0 l0_1 l0_2 l1_0 l1_1 l1_2 x200002_3 = some (r1, r2, r3, r4)) ∧ Aside0 (kq ≤ k3) ∧ Aside0 (Kd.R (Kd.int .i64) 3 w' w.heap.size (fun k_ => some k_ ≠ ((.slice (some ad200) t193.length co63) : Value).ownBlock ∧ some k_ ≠ ((.slice Ao62 t196.length co62) : Value).ownBlock) v9 x9_4) ∧ Aside0 (Kd.R (Kd.int .i64) 3 w' w.heap.size (fun k_ => some k_ ≠ (v9 : Value).ownBlock ∧ some k_ ≠ ((.slice Ao62 t196.length co62) : Value).ownBlock) (.slice (some ad200) t193.length co63) t193) ∧ Aside0 (Kd.R (Kd.int .i64) 3 w' w.heap.size (fun k_ => some k_ ≠ (v9 : Value).ownBlock ∧ some k_ ≠ ((.slice (some ad200) t193.length co63) : Value).ownBlock) (.slice Ao62 t196.length co62) t196) ∧ Aside0 (Kd.S (Kd.slice 3 (Kd.int .i64)) 34 w' w.heap.size (fun k_ => some k_ ≠ (v9 : Value).ownBlock ∧ some k_ ≠ ((.slice (some ad200) t193.length co63) : Value).ownBlock ∧ some k_ ≠ ((.slice Ao62 t196.length co62) : Value).ownBlock) u200002 x200002_3) ∧ Aside0 (w'.heap[gb184]? = some (.cells #[(.slice A0_0 l0_0.length c0_0), (.slice A0_1 l0_1.length c0_1), (.slice A0_2 l0_2.length c0_2)] 53 (0, 0))) ∧ Aside0 (w'.heap[gb185]? = some (.cells #[(.slice A1_0 l1_0.length c1_0), (.slice A1_1 l1_1.length c1_1), (.slice A1_2 l1_2.length c1_2)] 53 (0, 0))) ∧ Aside0 (w'.heap[gb186]? = some (.cells #[(.slice none 0 0), (.slice none 0 0), (.slice none 0 0)] 53 (0, 0))) ∧ Aside0 (w'.heap[gb199]? = some (.cells #[(.slice (some ad200) t193.length co63), (.slice Ao62 t196.length co62), u200002] 53 (0, 0))) ∧ Aside0 (Below w.heap.size w w'))
              case atStart => exact ⟨(y201), (0), (by first | rfl | (simp; done) | (simp [*]; done)), H', ⟨Nat.le_refl _⟩, ⟨Rm (Kd.R_mono HO203.out (fun _ hk => ⟨hk.1.2, hk.2⟩))⟩, ⟨Rm (Kd.R_mono HO_52.out (fun _ hk => ⟨hk.2, hk.1⟩))⟩, ⟨Rm (Kd.R_mono HO_57.out (fun _ hk => ⟨hk.2, hk.1⟩))⟩, ⟨Sm (Kd.S_mono HO_200002.out (fun _ hk => ⟨hk.2, ⟨hk.1.1, hk.1.2⟩⟩))⟩, ⟨Kl BK184⟩, ⟨Kl BK185⟩, ⟨Kl BK186⟩, ⟨Kl BK199⟩, ⟨by repeat first | exact Bl HB | refine Bp (below_set ?_ GE184.out) | refine Bp (below_set ?_ GE185.out) | refine Bp (below_set ?_ GE186.out) | refine Bp (below_set ?_ GE199.out)⟩⟩
              case round =>
               clear H'
               try clear c1
               try clear p2
               try clear q2
               try clear hx2
               try clear c4
               try clear c5
               try clear c6
               try clear c7
               try clear p20
               try clear q20
               try clear hx20
               try clear c49
               try clear c50
               try clear c51
               try clear c67
               try clear c68
               try clear c69
               try clear c71
               try clear c71b0
               try clear c72
               try clear c72b0
               try clear c73
               try clear c73b0
               try clear c74
               try clear c74b0
               try clear c74b1
               try clear c75
               try clear c75b0
               try clear c75b1
               try clear c76
               try clear c77
               try clear c78
               try clear hcz52_0
               try clear hcz52_1
               try clear hcz52_2
               try clear hcz70_0
               try clear hcz70_1
               try clear hcz70_2
               try clear hcz79_0
               try clear hcz79_1
               try clear hcz79_2
               try clear hcz82_0
               try clear hcz82_1
               try clear hcz82_2
               try clear hfz40_1
               try clear hfz40_2
               try clear hfz42_0
               try clear hfz42_1
               try clear hfz42_2
               try clear hfz45_0
               try clear hfz45_1
               try clear hfz45_2
               try clear hfz48_0
               try clear hfz48_1
               try clear hfz48_2
               try clear hfz52_0
               try clear hfz52_1
               try clear hfz52_2
               try clear hfz70_0
               try clear hfz70_1
               try clear hfz70_2
               try clear hfz79_0
               try clear hfz79_1
               try clear hfz79_2
               try clear hfz82_0
               try clear hfz82_1
               try clear hfz82_2
               try clear hx200_0
               try clear p2
               try clear p200
               try clear q200
               obtain ⟨x9_4, x73_4, rfl, HA, HK4, HO_9, HO_52, HO_57, HO_200002, BK184, BK185, BK186, BK199, HB⟩ := hrel
               cases gk with
               | zero => exact absurd HA.out (by simp [matrix_Merge.l1])
               | succ k4 =>
                have H := HA.out
                clear HA
                simp only [matrix_Merge.l1] at H
                by_cases c83 : x73_4 < (t196.length : Int)
                ·rw [if_pos c83] at H
                 have c83b0 : decide (x73_4 < (t196.length : Int)) = true := decide_eq_true c83
                 clear c83
                 by_cases c84 : 0 ≤ x73_4
                 ·rw [if_pos c84] at H
                  have c84b0 : decide (0 ≤ x73_4) = true := decide_eq_true c84
                  clear c84
                  by_cases c85 : x73_4 < (t196.length : Int)
                  ·rw [if_pos c85] at H
                   have c85b0 : decide (x73_4 < (t196.length : Int)) = true := decide_eq_true c85
                   clear c85
                   replace H := Option.bind_eq_some_iff.mp H
                   obtain ⟨⟨t208, t209⟩, A860, H⟩ := H
                   replace H : ((matrix_cell.f k4 l1_0 l1_1 l1_2 (rd t193 x62_3) (rd t196 x73_4)).bind fun bt210 => (if t209 = true then (if bt210.2 = true then (matrix_Merge.j4 k4 (rd t193 x62_3) x9_4 t208 t209 bt210.1 t193 t196 (t193.length : Int) x62_3 (t196.length : Int) x73_4 (t208 != bt210.1) l0_0 l0_1 l0_2 l1_0 l1_1 l1_2 t193 t196 x200002_3) else (matrix_Merge.j4 k4 (rd t193 x62_3) x9_4 t208 t209 bt210.1 t193 t196 (t193.length : Int) x62_3 (t196.length : Int) x73_4 false l0_0 l0_1 l0_2 l1_0 l1_1 l1_2 t193 t196 x200002_3)) else (matrix_Merge.j4 k4 (rd t193 x62_3) x9_4 t208 t209 bt210.1 t193 t196 (t193.length : Int) x62_3 (t196.length : Int) x73_4 false l0_0 l0_1 l0_2 l1_0 l1_1 l1_2 t193 t196 x200002_3))) = some (r1, r2, r3, r4) := H
                   have A86 := Am A860
                   clear A860
                   replace H := Option.bind_eq_some_iff.mp H
                   obtain ⟨⟨t210, t211⟩, A870, H⟩ := H
                   replace H : (if t209 = true then (if t211 = true then (matrix_Merge.j4 k4 (rd t193 x62_3) x9_4 t208 t209 t210 t193 t196 (t193.length : Int) x62_3 (t196.length : Int) x73_4 (t208 != t210) l0_0 l0_1 l0_2 l1_0 l1_1 l1_2 t193 t196 x200002_3) else (matrix_Merge.j4 k4 (rd t193 x62_3) x9_4 t208 t209 t210 t193 t196 (t193.length : Int) x62_3 (t196.length : Int) x73_4 false l0_0 l0_1 l0_2 l1_0 l1_1 l1_2 t193 t196 x200002_3)) else (matrix_Merge.j4 k4 (rd t193 x62_3) x9_4 t208 t209 t210 t193 t196 (t193.length : Int) x62_3 (t196.length : Int) x73_4 false l0_0 l0_1 l0_2 l1_0 l1_1 l1_2 t193 t196 x200002_3)) = some (r1, r2, r3, r4) := H
                   have A87 := Am A870
                   clear A870
                   have HC88 := Am H
                   clear H
                   have p207 : 0 ≤ (x73_4 : Int) := of_decide_eq_true (by first | (with_reducible assumption) | assumption)
                   have q207 : x73_4 < (t196.length : Int) := of_decide_eq_true (by first | (with_reducible assumption) | assumption)
                   obtain ⟨ad207, e207, hx207_0⟩ := Kd.at_int (Kd.R_reads' HO_57.out).2.2 x73_4 p207 q207
                   cases e207
                   replace p207 := eq_true p207
                   replace q207 := eq_true q207
                   have hnb89 := NB184_185.out
                   have hnc89 := NB185_184.out
                   have hnb90 := NB184_186.out
                   have hnc90 := NB186_184.out
                   have hnb91 := NB184_199.out
                   have hnc91 := NB199_184.out
                   have hcz92_0 : wr.cell? ⟨gb184, 0, none⟩ = some (.slice A0_0 l0_0.length c0_0) := (blk_cell BK184.out 0).trans rfl
                   have hcz92_1 : wr.cell? ⟨gb184, 1, none⟩ = some (.slice A0_1 l0_1.length c0_1) := (blk_cell BK184.out 1).trans rfl
                   have hcz92_2 : wr.cell? ⟨gb184, 2, none⟩ = some (.slice A0_2 l0_2.length c0_2) := (blk_cell BK184.out 2).trans rfl
                   have hfz92_0 := blk_frozen BK184.out 0
                   have hfz92_1 := blk_frozen BK184.out 1
                   have hfz92_2 := blk_frozen BK184.out 2
                   go_upto_region 15 with (first | ((with_reducible refine gate_callee (f := 76) rfl ?_); refine goesL_ (some 81) rfl rfl Try.func76 (by kernel_rfl) rfl #[.agg #[.slice A0_0 l0_0.length c0_0, .slice A0_1 l0_1.length c0_1, .slice A0_2 l0_2.length c0_2], .int .i64 (rd t193 x62_3), .int .i64 (rd t196 x73_4)] rfl (by (try simp only [List.map_toArray, List.map_cons, List.map_nil]); first | done | rfl | (simp only [List.length_drop, List.length_take]; rfl)) ?_; (with_reducible refine (matrix_cell.calls k4 _ _ l0_0 _ _ l0_1 _ _ l0_2 (rd t193 x62_3) (rd t196 x73_4) t208 t209 _ ?side1 ?side2 ?side3 ?side4 ?side5 ?side6 A86.out).mono ?_); (case side1 => repeat (first | exact (Kd.C_below HR0_0.out HB.out) | (with_reducible refine Kd.C_alloc ?_ _) | (with_reducible refine Kd.C_drewN ?_ _) | (with_reducible refine Kd.C_drew ?_))); (case side2 => exact HC0_0.out); (case side3 => repeat (first | exact (Kd.C_below HR0_1.out HB.out) | (with_reducible refine Kd.C_alloc ?_ _) | (with_reducible refine Kd.C_drewN ?_ _) | (with_reducible refine Kd.C_drew ?_))); (case side4 => exact HC0_1.out); (case side5 => repeat (first | exact (Kd.C_below HR0_2.out HB.out) | (with_reducible refine Kd.C_alloc ?_ _) | (with_reducible refine Kd.C_drewN ?_ _) | (with_reducible refine Kd.C_drew ?_))); (case side6 => exact HC0_2.out); rintro e w93 ⟨rfl, hb⟩; refine ⟨_, rfl, ?_⟩; have n0_ := Am (Kd.R_below (Rl HO_9) hb); have n1_ := Am (Kd.R_below (Rl HO_52) hb); have n2_ := Am (Kd.R_below (Rl HO_57) hb); have n3_ := Am (Kd.S_below (Sl HO_200002) hb); have n4_ := Am (blk_below (Kl BK184) hb); have n5_ := Am (blk_below (Kl BK185) hb); have n6_ := Am (blk_below (Kl BK186) hb); have n7_ := Am (blk_below (Kl BK199) hb); have n8_ := Am (below_step (by repeat first | exact Bl HB | refine Bp (below_set ?_ GE184.out) | refine Bp (below_set ?_ GE185.out) | refine Bp (below_set ?_ GE186.out) | refine Bp (below_set ?_ GE199.out)) hb); clear HO_9 HO_52 HO_57 HO_200002 BK184 BK185 BK186 BK199 HB; have HO_9 := n0_; have HO_52 := n1_; have HO_57 := n2_; have HO_200002 := n3_; have BK184 := n4_; have BK185 := n5_; have BK186 := n6_; have BK199 := n7_; have HB := n8_; clear n0_ n1_ n2_ n3_ n4_ n5_ n6_ n7_ n8_; (try clear hb); (try clear hb2); (try clear hk); (try clear hi); have hnb94 := NB185_186.out; have hnc94 := NB186_185.out; have hnb95 := NB185_199.out; have hnc95 := NB199_185.out; have hcz96_0 : w93.cell? ⟨gb185, 0, none⟩ = some (.slice A1_0 l1_0.length c1_0) := (blk_cell BK185.out 0).trans rfl; have hcz96_1 : w93.cell? ⟨gb185, 1, none⟩ = some (.slice A1_1 l1_1.length c1_1) := (blk_cell BK185.out 1).trans rfl; have hcz96_2 : w93.cell? ⟨gb185, 2, none⟩ = some (.slice A1_2 l1_2.length c1_2) := (blk_cell BK185.out 2).trans rfl; have hfz96_0 := blk_frozen BK185.out 0; have hfz96_1 := blk_frozen BK185.out 1; have hfz96_2 := blk_frozen BK185.out 2) | ((with_reducible refine gate_callee (f := 76) rfl ?_); refine goesL_ (some 88) rfl rfl Try.func76 (by kernel_rfl) rfl #[.agg #[.slice A1_0 l1_0.length c1_0, .slice A1_1 l1_1.length c1_1, .slice A1_2 l1_2.length c1_2], .int .i64 (rd t193 x62_3), .int .i64 (rd t196 x73_4)] rfl (by (try simp only [List.map_toArray, List.map_cons, List.map_nil]); first | done | rfl | (simp only [List.length_drop, List.length_take]; rfl)) ?_; (with_reducible refine (matrix_cell.calls k4 _ _ l1_0 _ _ l1_1 _ _ l1_2 (rd t193 x62_3) (rd t196 x73_4) t210 t211 _ ?side1 ?side2 ?side3 ?side4 ?side5 ?side6 A87.out).mono ?_); (case side1 => repeat (first | exact (Kd.C_below HR1_0.out HB.out) | (with_reducible refine Kd.C_alloc ?_ _) | (with_reducible refine Kd.C_drewN ?_ _) | (with_reducible refine Kd.C_drew ?_))); (case side2 => exact HC1_0.out); (case side3 => repeat (first | exact (Kd.C_below HR1_1.out HB.out) | (with_reducible refine Kd.C_alloc ?_ _) | (with_reducible refine Kd.C_drewN ?_ _) | (with_reducible refine Kd.C_drew ?_))); (case side4 => exact HC1_1.out); (case side5 => repeat (first | exact (Kd.C_below HR1_2.out HB.out) | (with_reducible refine Kd.C_alloc ?_ _) | (with_reducible refine Kd.C_drewN ?_ _) | (with_reducible refine Kd.C_drew ?_))); (case side6 => exact HC1_2.out); rintro e w97 ⟨rfl, hb⟩; refine ⟨_, rfl, ?_⟩; have n0_ := Am (Kd.R_below (Rl HO_9) hb); have n1_ := Am (Kd.R_below (Rl HO_52) hb); have n2_ := Am (Kd.R_below (Rl HO_57) hb); have n3_ := Am (Kd.S_below (Sl HO_200002) hb); have n4_ := Am (blk_below (Kl BK184) hb); have n5_ := Am (blk_below (Kl BK185) hb); have n6_ := Am (blk_below (Kl BK186) hb); have n7_ := Am (blk_below (Kl BK199) hb); have n8_ := Am (below_step (by repeat first | exact Bl HB | refine Bp (below_set ?_ GE184.out) | refine Bp (below_set ?_ GE185.out) | refine Bp (below_set ?_ GE186.out) | refine Bp (below_set ?_ GE199.out)) hb); clear HO_9 HO_52 HO_57 HO_200002 BK184 BK185 BK186 BK199 HB; have HO_9 := n0_; have HO_52 := n1_; have HO_57 := n2_; have HO_200002 := n3_; have BK184 := n4_; have BK185 := n5_; have BK186 := n6_; have BK199 := n7_; have HB := n8_; clear n0_ n1_ n2_ n3_ n4_ n5_ n6_ n7_ n8_; (try clear hb); (try clear hb2); (try clear hk); (try clear hi)))
                   (try simp only [Act.put, List.setIfInBounds_toArray, List.set_cons_zero, List.set_cons_succ])
                   go_cut [99] (fun v99 wc => ∃ (kq : Nat) (x99_87 : Bool), v99 = .bool x99_87 ∧ Aside0 (matrix_Merge.j4 kq (rd t193 x62_3) x9_4 t208 t209 t210 t193 t196 (t193.length : Int) x62_3 (t196.length : Int) x73_4 x99_87 l0_0 l0_1 l0_2 l1_0 l1_1 l1_2 t193 t196 x200002_3 = some (r1, r2, r3, r4)) ∧ Aside0 (kq ≤ k4) ∧ Aside0 (Kd.R (Kd.int .i64) 3 wc w.heap.size (fun k_ => some k_ ≠ ((.slice (some ad200) t193.length co63) : Value).ownBlock ∧ some k_ ≠ ((.slice (some ad207) t196.length co62) : Value).ownBlock ∧ some k_ ≠ ((.slice (some ad200) t193.length co63) : Value).ownBlock ∧ some k_ ≠ ((.slice (some ad207) t196.length co62) : Value).ownBlock) u9 x9_4) ∧ Aside0 (Kd.R (Kd.int .i64) 3 wc w.heap.size (fun k_ => some k_ ≠ (u9 : Value).ownBlock ∧ some k_ ≠ ((.slice (some ad207) t196.length co62) : Value).ownBlock ∧ some k_ ≠ ((.slice (some ad207) t196.length co62) : Value).ownBlock) (.slice (some ad200) t193.length co63) t193) ∧ Aside0 (Kd.R (Kd.int .i64) 3 wc w.heap.size (fun k_ => some k_ ≠ (u9 : Value).ownBlock ∧ some k_ ≠ ((.slice (some ad200) t193.length co63) : Value).ownBlock ∧ some k_ ≠ ((.slice (some ad200) t193.length co63) : Value).ownBlock) (.slice (some ad207) t196.length co62) t196) ∧ Aside0 (Kd.R (Kd.int .i64) 3 wc w.heap.size (fun k_ => some k_ ≠ (u9 : Value).ownBlock ∧ some k_ ≠ ((.slice (some ad207) t196.length co62) : Value).ownBlock ∧ some k_ ≠ ((.slice (some ad207) t196.length co62) : Value).ownBlock) (.slice (some ad200) t193.length co63) t193) ∧ Aside0 (Kd.R (Kd.int .i64) 3 wc w.heap.size (fun k_ => some k_ ≠ (u9 : Value).ownBlock ∧ some k_ ≠ ((.slice (some ad200) t193.length co63) : Value).ownBlock ∧ some k_ ≠ ((.slice (some ad200) t193.length co63) : Value).ownBlock) (.slice (some ad207) t196.length co62) t196) ∧ Aside0 (Kd.S (Kd.slice 3 (Kd.int .i64)) 34 wc w.heap.size (fun k_ => some k_ ≠ (u9 : Value).ownBlock ∧ some k_ ≠ ((.slice (some ad200) t193.length co63) : Value).ownBlock ∧ some k_ ≠ ((.slice (some ad207) t196.length co62) : Value).ownBlock ∧ some k_ ≠ ((.slice (some ad200) t193.length co63) : Value).ownBlock ∧ some k_ ≠ ((.slice (some ad207) t196.length co62) : Value).ownBlock) u200002 x200002_3) ∧ Aside0 (wc.heap[gb184]? = some (.cells #[(.slice A0_0 l0_0.length c0_0), (.slice A0_1 l0_1.length c0_1), (.slice A0_2 l0_2.length c0_2)] 53 (0, 0))) ∧ Aside0 (wc.heap[gb185]? = some (.cells #[(.slice A1_0 l1_0.length c1_0), (.slice A1_1 l1_1.length c1_1), (.slice A1_2 l1_2.length c1_2)] 53 (0, 0))) ∧ Aside0 (wc.heap[gb186]? = some (.cells #[(.slice none 0 0), (.slice none 0 0), (.slice none 0 0)] 53 (0, 0))) ∧ Aside0 (wc.heap[gb199]? = some (.cells #[(.slice (some ad200) t193.length co63), (.slice (some ad207) t196.length co62), u200002] 53 (0, 0))) ∧ Aside0 (Below w.heap.size w wc))
                   case first =>
                    have H := HC88.out
                    clear HC88
                    by_cases c98 : t209 = true
                    ·subst c98
                     have H1 : (if t211 = true then (matrix_Merge.j4 k4 (rd t193 x62_3) x9_4 t208 true t210 t193 t196 (t193.length : Int) x62_3 (t196.length : Int) x73_4 (t208 != t210) l0_0 l0_1 l0_2 l1_0 l1_1 l1_2 t193 t196 x200002_3) else (matrix_Merge.j4 k4 (rd t193 x62_3) x9_4 t208 true t210 t193 t196 (t193.length : Int) x62_3 (t196.length : Int) x73_4 false l0_0 l0_1 l0_2 l1_0 l1_1 l1_2 t193 t196 x200002_3)) = some (r1, r2, r3, r4) := by rw [if_pos rfl] at H; exact H
                     clear H
                     have H := H1
                     clear H1
                     by_cases c99 : t211 = true
                     ·subst c99
                      have H1 : (matrix_Merge.j4 k4 (rd t193 x62_3) x9_4 t208 true t210 t193 t196 (t193.length : Int) x62_3 (t196.length : Int) x73_4 (t208 != t210) l0_0 l0_1 l0_2 l1_0 l1_1 l1_2 t193 t196 x200002_3) = some (r1, r2, r3, r4) := by rw [if_pos rfl] at H; exact H
                      clear H
                      have H := H1
                      clear H1
                      have H' := Am H
                      clear H
                      go_wp2
                      go_meet
                      case rel => exact ⟨_, ((t208 != t210)), (by first | rfl | (simp; done) | (simp [*]; done)), H', ⟨by have := HJ2.out; have := HJ24.out; have := HK3.out; have := HK4.out; first | omega | exact Nat.le_refl _⟩, ⟨Rm (Kd.R_mono HO_9.out (fun _ hk => ⟨hk.1, ⟨hk.2, ⟨hk.1, hk.2⟩⟩⟩))⟩, ⟨Rm (Kd.R_mono HO_52.out (fun _ hk => ⟨hk.1, ⟨hk.2, hk.2⟩⟩))⟩, ⟨Rm (Kd.R_mono HO_57.out (fun _ hk => ⟨hk.1, ⟨hk.2, hk.2⟩⟩))⟩, ⟨Rm (Kd.R_mono HO_52.out (fun _ hk => ⟨hk.1, ⟨hk.2, hk.2⟩⟩))⟩, ⟨Rm (Kd.R_mono HO_57.out (fun _ hk => ⟨hk.1, ⟨hk.2, hk.2⟩⟩))⟩, ⟨Sm (Kd.S_mono HO_200002.out (fun _ hk => ⟨hk.1, ⟨hk.2.1, ⟨hk.2.2, ⟨hk.2.1, hk.2.2⟩⟩⟩⟩))⟩, ⟨Kl BK184⟩, ⟨Kl BK185⟩, ⟨Kl BK186⟩, ⟨Kl BK199⟩, ⟨by repeat first | exact Bl HB | refine Bp (below_set ?_ GE184.out) | refine Bp (below_set ?_ GE185.out) | refine Bp (below_set ?_ GE186.out) | refine Bp (below_set ?_ GE199.out)⟩⟩
                     ·replace c99 := Bool.eq_false_iff.mpr c99
                      subst c99
                      have H1 : (matrix_Merge.j4 k4 (rd t193 x62_3) x9_4 t208 true t210 t193 t196 (t193.length : Int) x62_3 (t196.length : Int) x73_4 false l0_0 l0_1 l0_2 l1_0 l1_1 l1_2 t193 t196 x200002_3) = some (r1, r2, r3, r4) := by rw [if_neg (show ¬ (false = true) by decide)] at H; exact H
                      clear H
                      have H := H1
                      clear H1
                      have H' := Am H
                      clear H
                      go_wp2
                      go_meet
                      case rel => exact ⟨_, (false), (by first | rfl | (simp; done) | (simp [*]; done)), H', ⟨by have := HJ2.out; have := HJ24.out; have := HK3.out; have := HK4.out; first | omega | exact Nat.le_refl _⟩, ⟨Rm (Kd.R_mono HO_9.out (fun _ hk => ⟨hk.1, ⟨hk.2, ⟨hk.1, hk.2⟩⟩⟩))⟩, ⟨Rm (Kd.R_mono HO_52.out (fun _ hk => ⟨hk.1, ⟨hk.2, hk.2⟩⟩))⟩, ⟨Rm (Kd.R_mono HO_57.out (fun _ hk => ⟨hk.1, ⟨hk.2, hk.2⟩⟩))⟩, ⟨Rm (Kd.R_mono HO_52.out (fun _ hk => ⟨hk.1, ⟨hk.2, hk.2⟩⟩))⟩, ⟨Rm (Kd.R_mono HO_57.out (fun _ hk => ⟨hk.1, ⟨hk.2, hk.2⟩⟩))⟩, ⟨Sm (Kd.S_mono HO_200002.out (fun _ hk => ⟨hk.1, ⟨hk.2.1, ⟨hk.2.2, ⟨hk.2.1, hk.2.2⟩⟩⟩⟩))⟩, ⟨Kl BK184⟩, ⟨Kl BK185⟩, ⟨Kl BK186⟩, ⟨Kl BK199⟩, ⟨by repeat first | exact Bl HB | refine Bp (below_set ?_ GE184.out) | refine Bp (below_set ?_ GE185.out) | refine Bp (below_set ?_ GE186.out) | refine Bp (below_set ?_ GE199.out)⟩⟩
                    ·replace c98 := Bool.eq_false_iff.mpr c98
                     subst c98
                     have H1 : (matrix_Merge.j4 k4 (rd t193 x62_3) x9_4 t208 false t210 t193 t196 (t193.length : Int) x62_3 (t196.length : Int) x73_4 false l0_0 l0_1 l0_2 l1_0 l1_1 l1_2 t193 t196 x200002_3) = some (r1, r2, r3, r4) := by rw [if_neg (show ¬ (false = true) by decide)] at H; exact H
                     clear H
                     have H := H1
                     clear H1
                     have H' := Am H
                     clear H
                     go_wp2
                     go_meet
                     case rel => exact ⟨_, (false), (by first | rfl | (simp; done) | (simp [*]; done)), H', ⟨by have := HJ2.out; have := HJ24.out; have := HK3.out; have := HK4.out; first | omega | exact Nat.le_refl _⟩, ⟨Rm (Kd.R_mono HO_9.out (fun _ hk => ⟨hk.1, ⟨hk.2, ⟨hk.1, hk.2⟩⟩⟩))⟩, ⟨Rm (Kd.R_mono HO_52.out (fun _ hk => ⟨hk.1, ⟨hk.2, hk.2⟩⟩))⟩, ⟨Rm (Kd.R_mono HO_57.out (fun _ hk => ⟨hk.1, ⟨hk.2, hk.2⟩⟩))⟩, ⟨Rm (Kd.R_mono HO_52.out (fun _ hk => ⟨hk.1, ⟨hk.2, hk.2⟩⟩))⟩, ⟨Rm (Kd.R_mono HO_57.out (fun _ hk => ⟨hk.1, ⟨hk.2, hk.2⟩⟩))⟩, ⟨Sm (Kd.S_mono HO_200002.out (fun _ hk => ⟨hk.1, ⟨hk.2.1, ⟨hk.2.2, ⟨hk.2.1, hk.2.2⟩⟩⟩⟩))⟩, ⟨Kl BK184⟩, ⟨Kl BK185⟩, ⟨Kl BK186⟩, ⟨Kl BK199⟩, ⟨by repeat first | exact Bl HB | refine Bp (below_set ?_ GE184.out) | refine Bp (below_set ?_ GE185.out) | refine Bp (below_set ?_ GE186.out) | refine Bp (below_set ?_ GE199.out)⟩⟩
                   case rest =>
                    clear HC88
                    try clear c1
                    try clear p2
                    try clear q2
                    try clear hx2
                    try clear c4
                    try clear c5
                    try clear c6
                    try clear c7
                    try clear c8
                    try clear c9
                    try clear p20
                    try clear q20
                    try clear hx20
                    try clear c49
                    try clear c50
                    try clear c51
                    try clear c67
                    try clear c68
                    try clear c69
                    try clear c71
                    try clear c71b0
                    try clear c72
                    try clear c72b0
                    try clear c73
                    try clear c73b0
                    try clear c74
                    try clear c74b0
                    try clear c74b1
                    try clear c75
                    try clear c75b0
                    try clear c75b1
                    try clear c76
                    try clear c77
                    try clear c78
                    try clear c83
                    try clear c83b0
                    try clear c84
                    try clear c84b0
                    try clear c85
                    try clear c85b0
                    try clear c89
                    try clear c90
                    try clear c91
                    try clear c94
                    try clear c95
                    try clear c98
                    try clear c99
                    try clear hcz52_0
                    try clear hcz52_1
                    try clear hcz52_2
                    try clear hcz70_0
                    try clear hcz70_1
                    try clear hcz70_2
                    try clear hcz79_0
                    try clear hcz79_1
                    try clear hcz79_2
                    try clear hcz82_0
                    try clear hcz82_1
                    try clear hcz82_2
                    try clear hcz92_0
                    try clear hcz92_1
                    try clear hcz92_2
                    try clear hcz96_0
                    try clear hcz96_1
                    try clear hcz96_2
                    try clear hfz40_1
                    try clear hfz40_2
                    try clear hfz42_0
                    try clear hfz42_1
                    try clear hfz42_2
                    try clear hfz45_0
                    try clear hfz45_1
                    try clear hfz45_2
                    try clear hfz48_0
                    try clear hfz48_1
                    try clear hfz48_2
                    try clear hfz52_0
                    try clear hfz52_1
                    try clear hfz52_2
                    try clear hfz70_0
                    try clear hfz70_1
                    try clear hfz70_2
                    try clear hfz79_0
                    try clear hfz79_1
                    try clear hfz79_2
                    try clear hfz82_0
                    try clear hfz82_1
                    try clear hfz82_2
                    try clear hfz92_0
                    try clear hfz92_1
                    try clear hfz92_2
                    try clear hfz96_0
                    try clear hfz96_1
                    try clear hfz96_2
                    try clear hx200_0
                    try clear hx207_0
                    try clear p2
                    try clear p20
                    try clear p200
                    try clear p207
                    try clear q2
                    try clear q20
                    try clear q200
                    try clear q207
                    obtain ⟨kq, x99_87, rfl, HA, HJ87, HO_9, HO_52, HO_57, HO_200000, HO_200001, HO_200002, BK184, BK185, BK186, BK199, HB⟩ := hcut
                    cases kq with
                    | zero => exact absurd HA.out (by simp [matrix_Merge.j4])
                    | succ kj87 =>
                     have H := HA.out
                     clear HA
                     simp only [matrix_Merge.j4] at H
                     by_cases c100 : x99_87 = true
                     ·subst c100
                      have H1 : (some (([] : List Int), ([] : List Int), ([] : List (List Int)), 11)) = some (r1, r2, r3, r4) := by rw [if_pos rfl] at H; exact H
                      clear H
                      have H := H1
                      clear H1
                      simp only [Option.some.injEq, Prod.mk.injEq] at H
                      obtain ⟨rfl, rfl, rfl, rfl⟩ := H
                      have hnb101 := NB186_184.out
                      have hnc101 := NB184_186.out
                      have hnb102 := NB186_185.out
                      have hnc102 := NB185_186.out
                      have hnb103 := NB186_199.out
                      have hnc103 := NB199_186.out
                      have hcz104_0 : wc.cell? ⟨gb186, 0, none⟩ = some (.slice none 0 0) := (blk_cell BK186.out 0).trans rfl
                      have hcz104_1 : wc.cell? ⟨gb186, 1, none⟩ = some (.slice none 0 0) := (blk_cell BK186.out 1).trans rfl
                      have hcz104_2 : wc.cell? ⟨gb186, 2, none⟩ = some (.slice none 0 0) := (blk_cell BK186.out 2).trans rfl
                      have hfz104_0 := blk_frozen BK186.out 0
                      have hfz104_1 := blk_frozen BK186.out 1
                      have hfz104_2 := blk_frozen BK186.out 2
                      go_wp2
                      refine bodyPost_ret (results_ct rfl _ _ gb186 53 #[.slice none 0 0, .slice none 0 0, .slice none 0 0] (0, 0) _ rfl (by refine Kp ?_; refine blk_put (cs := #[.slice none 0 0, .slice none 0 0, .slice none 0 0]) ?_ 2 _ rfl; refine Kp ?_; refine blk_put (cs := #[.slice none 0 0, .slice none 0 0, .slice none 0 0]) ?_ 1 _ rfl; refine Kp ?_; refine blk_put (cs := #[.slice none 0 0, .slice none 0 0, .slice none 0 0]) ?_ 0 _ rfl; refine Kp ?_; exact BK186.out) Try.underlying53 rfl (by kernel_rfl)) rfl ?_
                      exact ⟨_, _, _, by first | rfl | (simp [errW_none, errW_some] <;> rfl) | (simp [*, errW_none, errW_some] <;> rfl), by first | exact Kd.R_nil _ _ _ _ _ | exact Kd.N_nil _ _ _ _ _ | exact Kd.V_nil _ _ _ _ _ | exact Kd.Q_nil _ _ _ _ _ | exact Kd.S_nil _ _ _ _ _, by first | exact Kd.R_nil _ _ _ _ _ | exact Kd.N_nil _ _ _ _ _ | exact Kd.V_nil _ _ _ _ _ | exact Kd.Q_nil _ _ _ _ _ | exact Kd.S_nil _ _ _ _ _, by first | exact Kd.S_nil _ _ _ _ _ | exact Kd.N_nil _ _ _ _ _ | exact Kd.V_nil _ _ _ _ _ | exact Kd.Q_nil _ _ _ _ _ | exact Kd.R_nil _ _ _ _ _, by repeat first | exact Bl HB | refine Bp (below_set ?_ GE184.out) | refine Bp (below_set ?_ GE185.out) | refine Bp (below_set ?_ GE186.out) | refine Bp (below_set ?_ GE199.out)⟩
                     ·replace c100 := Bool.eq_false_iff.mpr c100
                      subst c100
                      have H1 : (if t209 = true then (if x9_4.length < 17592186044416 then (matrix_Merge.l1 kj87 (rd t193 x62_3) (x9_4 ++ [t208]) t193 t196 (t193.length : Int) x62_3 (t196.length : Int) (wrap64 (x73_4 + 1)) l0_0 l0_1 l0_2 l1_0 l1_1 l1_2 x200002_3) else (none)) else (if x9_4.length < 17592186044416 then (matrix_Merge.l1 kj87 (rd t193 x62_3) (x9_4 ++ [t210]) t193 t196 (t193.length : Int) x62_3 (t196.length : Int) (wrap64 (x73_4 + 1)) l0_0 l0_1 l0_2 l1_0 l1_1 l1_2 x200002_3) else (none))) = some (r1, r2, r3, r4) := by rw [if_neg (show ¬ (false = true) by decide)] at H; exact H
                      clear H
                      have H := H1
                      clear H1
                      by_cases c105 : t209 = true
                      ·subst c105
                       have H1 : (if x9_4.length < 17592186044416 then (matrix_Merge.l1 kj87 (rd t193 x62_3) (x9_4 ++ [t208]) t193 t196 (t193.length : Int) x62_3 (t196.length : Int) (wrap64 (x73_4 + 1)) l0_0 l0_1 l0_2 l1_0 l1_1 l1_2 x200002_3) else (none)) = some (r1, r2, r3, r4) := by rw [if_pos rfl] at H; exact H
                       clear H
                       have H := H1
                       clear H1
                       by_cases c106 : x9_4.length < 17592186044416
                       ·rw [if_pos c106] at H
                        have LMc106 := Am c106
                        clear c106
                        obtain ⟨y212, hy212⟩ : ∃ y_ : List Int, y_ = (x9_4 ++ [t208]) := ⟨_, rfl⟩
                        replace H : (matrix_Merge.l1 kj87 (rd t193 x62_3) y212 t193 t196 (t193.length : Int) x62_3 (t196.length : Int) (wrap64 (x73_4 + 1)) l0_0 l0_1 l0_2 l1_0 l1_1 l1_2 x200002_3) = some (r1, r2, r3, r4) := by first | (rw [hy212]; with_reducible exact H) | (have H2_ := (Option.bind_some _ _).symm.trans H; rw [hy212]; with_reducible exact H2_) | (have H2_ := (Option.bind_some _ _).symm.trans H; with_reducible exact H2_) | with_reducible exact H | (rw [hy212]; exact H) | exact H
                        have Ny212 := Am hy212
                        clear hy212
                        have H' := Am H
                        clear H
                        go_wp2_with (first | ((with_reducible refine gate_builtin (b := .append) (xs := #[.tmp 104, .tmp 106]) rfl ?_); (try (refine gate_guard (by rfl) ?_; dsimp only)); at_builtin; refine Kd.R_append (Kd.int .i64) (w0 := w) w.heap.size rfl (.tmp 104) (.tmp 106) 34 3 (.int .i64 0) 8 rfl Try.underlying34 info3 rfl (by decide) (by omega) u9 x9_4 t208 [.int .i64 t208] (fun k_ => some k_ ≠ (.slice (some ad200) t193.length co63 : Value).ownBlock ∧ some k_ ≠ (.slice (some ad207) t196.length co62 : Value).ownBlock ∧ some k_ ≠ (.slice (some ad200) t193.length co63 : Value).ownBlock ∧ some k_ ≠ (.slice (some ad207) t196.length co62 : Value).ownBlock) (fun _ => False) rfl rfl ?aP (fun _ hk => hk.elim) ?aF ?aO ?aB ?aS ?aL ?_; (case aP => exact rfl); (case aB => exact (by repeat first | exact Bl HB | refine Bp (below_set ?_ GE184.out) | refine Bp (below_set ?_ GE185.out) | refine Bp (below_set ?_ GE186.out) | refine Bp (below_set ?_ GE199.out))); (case aF => exact (fun k_ hk => ⟨Kd.fresh' (Rb HO_52) k_ hk, Kd.fresh' (Rb HO_57) k_ hk, Kd.fresh' (Rb HO_200000) k_ hk, Kd.fresh' (Rb HO_200001) k_ hk⟩)); (case aO => exact (Rl HO_9)); (case aS => exact (below_size (by repeat first | exact Bl HB | refine Bp (below_set ?_ GE184.out) | refine Bp (below_set ?_ GE185.out) | refine Bp (below_set ?_ GE186.out) | refine Bp (below_set ?_ GE199.out)))); (case aL => have := LMc106.out; omega); intro v213 w107 ho hb hg hat; rw [← Ny212.out] at ho; have n0_ := Am (Kd.R_after (ok := (fun k_ => some k_ ≠ (.slice (some ad207) t196.length co62 : Value).ownBlock ∧ some k_ ≠ (.slice (some ad207) t196.length co62 : Value).ownBlock)) (Rm (Kd.R_mono HO_52.out (fun _ hk => ⟨⟨hk.2.1, hk.2.2⟩, hk.1⟩))) hg hat); have n1_ := Am (Kd.R_after (ok := (fun k_ => some k_ ≠ (.slice (some ad200) t193.length co63 : Value).ownBlock ∧ some k_ ≠ (.slice (some ad200) t193.length co63 : Value).ownBlock)) (Rm (Kd.R_mono HO_57.out (fun _ hk => ⟨⟨hk.2.1, hk.2.2⟩, hk.1⟩))) hg hat); have n2_ := Am (Kd.R_after (ok := (fun k_ => some k_ ≠ (.slice (some ad207) t196.length co62 : Value).ownBlock ∧ some k_ ≠ (.slice (some ad207) t196.length co62 : Value).ownBlock)) (Rm (Kd.R_mono HO_200000.out (fun _ hk => ⟨⟨hk.2.1, hk.2.2⟩, hk.1⟩))) hg hat); have n3_ := Am (Kd.R_after (ok := (fun k_ => some k_ ≠ (.slice (some ad200) t193.length co63 : Value).ownBlock ∧ some k_ ≠ (.slice (some ad200) t193.length co63 : Value).ownBlock)) (Rm (Kd.R_mono HO_200001.out (fun _ hk => ⟨⟨hk.2.1, hk.2.2⟩, hk.1⟩))) hg hat); have n4_ := Am (Kd.S_after (ok := (fun k_ => some k_ ≠ (.slice (some ad200) t193.length co63 : Value).ownBlock ∧ some k_ ≠ (.slice (some ad207) t196.length co62 : Value).ownBlock ∧ some k_ ≠ (.slice (some ad200) t193.length co63 : Value).ownBlock ∧ some k_ ≠ (.slice (some ad207) t196.length co62 : Value).ownBlock)) (Sm (Kd.S_mono HO_200002.out (fun _ hk => ⟨⟨hk.2.1, ⟨hk.2.2.1, ⟨hk.2.2.2.1, hk.2.2.2.2⟩⟩⟩, hk.1⟩))) hg hat); have n5_ := Am (blk_grown (Kl BK184) hg (Kd.R_ne HO_9.out BK184.out (by decide))); have n6_ := Am (blk_grown (Kl BK185) hg (Kd.R_ne HO_9.out BK185.out (by decide))); have n7_ := Am (blk_grown (Kl BK186) hg (Kd.R_ne HO_9.out BK186.out (by decide))); have n8_ := Am (blk_grown (Kl BK199) hg (Kd.R_ne HO_9.out BK199.out (by decide))); have n9_ := Am (hb); have n10_ := Am (ho); clear HO_52 HO_57 HO_200000 HO_200001 HO_200002 BK184 BK185 BK186 BK199 HB HO_9; have HO_52 := n0_; have HO_57 := n1_; have HO_200000 := n2_; have HO_200001 := n3_; have HO_200002 := n4_; have BK184 := n5_; have BK185 := n6_; have BK186 := n7_; have BK199 := n8_; have HB := n9_; have HO214 := n10_; clear n0_ n1_ n2_ n3_ n4_ n5_ n6_ n7_ n8_ n9_ n10_; clear ho hb hg hat))
                        go_roundg kj87
                        case measure => have := HJ2.out; have := HJ24.out; have := HK3.out; have := HK4.out; have := HJ87.out; omega
                        case rel => exact ⟨(y212), (wrap64 (x73_4 + 1)), (by first | rfl | (simp; done) | (simp [*]; done)), H', ⟨by have := HJ2.out; have := HJ24.out; have := HK3.out; have := HK4.out; have := HJ87.out; omega⟩, ⟨Rm (Kd.R_mono HO214.out (fun _ hk => ⟨hk.1, hk.2.1⟩))⟩, ⟨Rm (Kd.R_mono HO_52.out (fun _ hk => ⟨hk.2, hk.1.1⟩))⟩, ⟨Rm (Kd.R_mono HO_57.out (fun _ hk => ⟨hk.2, hk.1.1⟩))⟩, ⟨Sm (Kd.S_mono HO_200002.out (fun _ hk => ⟨hk.2, ⟨hk.1.1, hk.1.2.1⟩⟩))⟩, ⟨Kl BK184⟩, ⟨Kl BK185⟩, ⟨Kl BK186⟩, ⟨Kl BK199⟩, ⟨by repeat first | exact Bl HB | refine Bp (below_set ?_ GE184.out) | refine Bp (below_set ?_ GE185.out) | refine Bp (below_set ?_ GE186.out) | refine Bp (below_set ?_ GE199.out)⟩⟩
                       ·rw [if_neg c106] at H
                        exact absurd H (by simp)
                      ·replace c105 := Bool.eq_false_iff.mpr c105
                       subst c105
                       have H1 : (if x9_4.length < 17592186044416 then (matrix_Merge.l1 kj87 (rd t193 x62_3) (x9_4 ++ [t210]) t193 t196 (t193.length : Int) x62_3 (t196.length : Int) (wrap64 (x73_4 + 1)) l0_0 l0_1 l0_2 l1_0 l1_1 l1_2 x200002_3) else (none)) = some (r1, r2, r3, r4) := by rw [if_neg (show ¬ (false = true) by decide)] at H; exact H
                       clear H
                       have H := H1
                       clear H1
                       by_cases c108 : x9_4.length < 17592186044416
                       ·rw [if_pos c108] at H
                        have LMc108 := Am c108
                        clear c108
                        obtain ⟨y215, hy215⟩ : ∃ y_ : List Int, y_ = (x9_4 ++ [t210]) := ⟨_, rfl⟩
                        replace H : (matrix_Merge.l1 kj87 (rd t193 x62_3) y215 t193 t196 (t193.length : Int) x62_3 (t196.length : Int) (wrap64 (x73_4 + 1)) l0_0 l0_1 l0_2 l1_0 l1_1 l1_2 x200002_3) = some (r1, r2, r3, r4) := by first | (rw [hy215]; with_reducible exact H) | (have H2_ := (Option.bind_some _ _).symm.trans H; rw [hy215]; with_reducible exact H2_) | (have H2_ := (Option.bind_some _ _).symm.trans H; with_reducible exact H2_) | with_reducible exact H | (rw [hy215]; exact H) | exact H
                        have Ny215 := Am hy215
                        clear hy215
                        have H' := Am H
                        clear H
                        go_wp2_with (first | ((with_reducible refine gate_builtin (b := .append) (xs := #[.tmp 104, .tmp 106]) rfl ?_); (try (refine gate_guard (by rfl) ?_; dsimp only)); at_builtin; refine Kd.R_append (Kd.int .i64) (w0 := w) w.heap.size rfl (.tmp 104) (.tmp 106) 34 3 (.int .i64 0) 8 rfl Try.underlying34 info3 rfl (by decide) (by omega) u9 x9_4 t210 [.int .i64 t210] (fun k_ => some k_ ≠ (.slice (some ad200) t193.length co63 : Value).ownBlock ∧ some k_ ≠ (.slice (some ad207) t196.length co62 : Value).ownBlock ∧ some k_ ≠ (.slice (some ad200) t193.length co63 : Value).ownBlock ∧ some k_ ≠ (.slice (some ad207) t196.length co62 : Value).ownBlock) (fun _ => False) rfl rfl ?aP (fun _ hk => hk.elim) ?aF ?aO ?aB ?aS ?aL ?_; (case aP => exact rfl); (case aB => exact (by repeat first | exact Bl HB | refine Bp (below_set ?_ GE184.out) | refine Bp (below_set ?_ GE185.out) | refine Bp (below_set ?_ GE186.out) | refine Bp (below_set ?_ GE199.out))); (case aF => exact (fun k_ hk => ⟨Kd.fresh' (Rb HO_52) k_ hk, Kd.fresh' (Rb HO_57) k_ hk, Kd.fresh' (Rb HO_200000) k_ hk, Kd.fresh' (Rb HO_200001) k_ hk⟩)); (case aO => exact (Rl HO_9)); (case aS => exact (below_size (by repeat first | exact Bl HB | refine Bp (below_set ?_ GE184.out) | refine Bp (below_set ?_ GE185.out) | refine Bp (below_set ?_ GE186.out) | refine Bp (below_set ?_ GE199.out)))); (case aL => have := LMc108.out; omega); intro v216 w109 ho hb hg hat; rw [← Ny215.out] at ho; have n0_ := Am (Kd.R_after (ok := (fun k_ => some k_ ≠ (.slice (some ad207) t196.length co62 : Value).ownBlock ∧ some k_ ≠ (.slice (some ad207) t196.length co62 : Value).ownBlock)) (Rm (Kd.R_mono HO_52.out (fun _ hk => ⟨⟨hk.2.1, hk.2.2⟩, hk.1⟩))) hg hat); have n1_ := Am (Kd.R_after (ok := (fun k_ => some k_ ≠ (.slice (some ad200) t193.length co63 : Value).ownBlock ∧ some k_ ≠ (.slice (some ad200) t193.length co63 : Value).ownBlock)) (Rm (Kd.R_mono HO_57.out (fun _ hk => ⟨⟨hk.2.1, hk.2.2⟩, hk.1⟩))) hg hat); have n2_ := Am (Kd.R_after (ok := (fun k_ => some k_ ≠ (.slice (some ad207) t196.length co62 : Value).ownBlock ∧ some k_ ≠ (.slice (some ad207) t196.length co62 : Value).ownBlock)) (Rm (Kd.R_mono HO_200000.out (fun _ hk => ⟨⟨hk.2.1, hk.2.2⟩, hk.1⟩))) hg hat); have n3_ := Am (Kd.R_after (ok := (fun k_ => some k_ ≠ (.slice (some ad200) t193.length co63 : Value).ownBlock ∧ some k_ ≠ (.slice (some ad200) t193.length co63 : Value).ownBlock)) (Rm (Kd.R_mono HO_200001.out (fun _ hk => ⟨⟨hk.2.1, hk.2.2⟩, hk.1⟩))) hg hat); have n4_ := Am (Kd.S_after (ok := (fun k_ => some k_ ≠ (.slice (some ad200) t193.length co63 : Value).ownBlock ∧ some k_ ≠ (.slice (some ad207) t196.length co62 : Value).ownBlock ∧ some k_ ≠ (.slice (some ad200) t193.length co63 : Value).ownBlock ∧ some k_ ≠ (.slice (some ad207) t196.length co62 : Value).ownBlock)) (Sm (Kd.S_mono HO_200002.out (fun _ hk => ⟨⟨hk.2.1, ⟨hk.2.2.1, ⟨hk.2.2.2.1, hk.2.2.2.2⟩⟩⟩, hk.1⟩))) hg hat); have n5_ := Am (blk_grown (Kl BK184) hg (Kd.R_ne HO_9.out BK184.out (by decide))); have n6_ := Am (blk_grown (Kl BK185) hg (Kd.R_ne HO_9.out BK185.out (by decide))); have n7_ := Am (blk_grown (Kl BK186) hg (Kd.R_ne HO_9.out BK186.out (by decide))); have n8_ := Am (blk_grown (Kl BK199) hg (Kd.R_ne HO_9.out BK199.out (by decide))); have n9_ := Am (hb); have n10_ := Am (ho); clear HO_52 HO_57 HO_200000 HO_200001 HO_200002 BK184 BK185 BK186 BK199 HB HO_9; have HO_52 := n0_; have HO_57 := n1_; have HO_200000 := n2_; have HO_200001 := n3_; have HO_200002 := n4_; have BK184 := n5_; have BK185 := n6_; have BK186 := n7_; have BK199 := n8_; have HB := n9_; have HO217 := n10_; clear n0_ n1_ n2_ n3_ n4_ n5_ n6_ n7_ n8_ n9_ n10_; clear ho hb hg hat))
                        go_roundg kj87
                        case measure => have := HJ2.out; have := HJ24.out; have := HK3.out; have := HK4.out; have := HJ87.out; omega
                        case rel => exact ⟨(y215), (wrap64 (x73_4 + 1)), (by first | rfl | (simp; done) | (simp [*]; done)), H', ⟨by have := HJ2.out; have := HJ24.out; have := HK3.out; have := HK4.out; have := HJ87.out; omega⟩, ⟨Rm (Kd.R_mono HO217.out (fun _ hk => ⟨hk.1, hk.2.1⟩))⟩, ⟨Rm (Kd.R_mono HO_52.out (fun _ hk => ⟨hk.2, hk.1.1⟩))⟩, ⟨Rm (Kd.R_mono HO_57.out (fun _ hk => ⟨hk.2, hk.1.1⟩))⟩, ⟨Sm (Kd.S_mono HO_200002.out (fun _ hk => ⟨hk.2, ⟨hk.1.1, hk.1.2.1⟩⟩))⟩, ⟨Kl BK184⟩, ⟨Kl BK185⟩, ⟨Kl BK186⟩, ⟨Kl BK199⟩, ⟨by repeat first | exact Bl HB | refine Bp (below_set ?_ GE184.out) | refine Bp (below_set ?_ GE185.out) | refine Bp (below_set ?_ GE186.out) | refine Bp (below_set ?_ GE199.out)⟩⟩
                       ·rw [if_neg c108] at H
                        exact absurd H (by simp)
                  ·rw [if_neg c85] at H
                   exact absurd H (by simp)
                 ·rw [if_neg c84] at H
                  exact absurd H (by simp)
                ·rw [if_neg c83] at H
                 have c83b0 : decide (x73_4 < (t196.length : Int)) = false := decide_eq_false c83
                 clear c83
                 by_cases c110 : x200002_3.length < 5864062014805
                 ·rw [if_pos c110] at H
                  have LMc110 := Am c110
                  clear c110
                  obtain ⟨y204, hy204⟩ : ∃ y_ : List (List Int), y_ = (x200002_3 ++ [x9_4]) := ⟨_, rfl⟩
                  replace H : (matrix_Merge.l0 k4 t193 t196 (t193.length : Int) (wrap64 (x62_3 + 1)) l0_0 l0_1 l0_2 l1_0 l1_1 l1_2 y204) = some (r1, r2, r3, r4) := by first | (rw [hy204]; with_reducible exact H) | (have H2_ := (Option.bind_some _ _).symm.trans H; rw [hy204]; with_reducible exact H2_) | (have H2_ := (Option.bind_some _ _).symm.trans H; with_reducible exact H2_) | with_reducible exact H | (rw [hy204]; exact H) | exact H
                  have Ny204 := Am hy204
                  clear hy204
                  have H' := Am H
                  clear H
                  have hnb111 := NB199_184.out
                  have hnc111 := NB184_199.out
                  have hnb112 := NB199_185.out
                  have hnc112 := NB185_199.out
                  have hnb113 := NB199_186.out
                  have hnc113 := NB186_199.out
                  have hcz114_0 : wr.cell? ⟨gb199, 0, none⟩ = some (.slice (some ad200) t193.length co63) := (blk_cell BK199.out 0).trans rfl
                  have hcz114_1 : wr.cell? ⟨gb199, 1, none⟩ = some (.slice Ao62 t196.length co62) := (blk_cell BK199.out 1).trans rfl
                  have hcz114_2 : wr.cell? ⟨gb199, 2, none⟩ = some (u200002) := (blk_cell BK199.out 2).trans rfl
                  have hfz114_0 := blk_frozen BK199.out 0
                  have hfz114_1 := blk_frozen BK199.out 1
                  have hfz114_2 := blk_frozen BK199.out 2
                  obtain ⟨Ao116, co116, eo116⟩ := Kd.R_slice HO_9.out
                  subst eo116
                  go_wp2_with (first | ((with_reducible refine gate_builtin (b := .append) (xs := #[.tmp 110, .tmp 112]) rfl ?_); (try (refine gate_guard (by rfl) ?_; dsimp only)); at_builtin; refine Kd.S_append (Kd.slice 3 (Kd.int .i64)) (w0 := w) w.heap.size rfl (.tmp 110) (.tmp 112) 51 34 (.slice none 0 0) 24 rfl Try.underlying51 info34 rfl (by decide) (by omega) u200002 x200002_3 x9_4 [.slice Ao116 x9_4.length co116] (fun k_ => some k_ ≠ (.slice (some ad200) t193.length co63 : Value).ownBlock ∧ some k_ ≠ (.slice Ao62 t196.length co62 : Value).ownBlock) (fun k_ => some k_ = (.slice Ao116 x9_4.length co116 : Value).ownBlock) rfl rfl ?aP (fun k_ hk_ => ((Kd.R_mono (ok' := fun k_ => ((fun k_ => some k_ ≠ (.slice (some ad200) t193.length co63 : Value).ownBlock ∧ some k_ ≠ (.slice Ao62 t196.length co62 : Value).ownBlock)) k_ ∧ some k_ ≠ (u200002 : Value).ownBlock) (Kd.R_apart' (HO_9.out) (Kd.S_typed HO_200002.out) (by decide)) (fun k_ hk => ⟨⟨hk.1.1, hk.1.2⟩, hk.2⟩))).1 k_ hk_.symm) ?aF ?aO ?aB ?aS ?aL ?_; (case aP => exact Kd.M_row (Kd.R_mono (Kd.R_tight rfl (Kd.R_mono (ok' := fun k_ => ((fun k_ => some k_ ≠ (.slice (some ad200) t193.length co63 : Value).ownBlock ∧ some k_ ≠ (.slice Ao62 t196.length co62 : Value).ownBlock)) k_ ∧ some k_ ≠ (u200002 : Value).ownBlock) (Kd.R_apart' (HO_9.out) (Kd.S_typed HO_200002.out) (by decide)) (fun k_ hk => ⟨⟨hk.1.1, hk.1.2⟩, hk.2⟩))) (fun _ h_ => h_))); (case aB => exact (by repeat first | exact Bl HB | refine Bp (below_set ?_ GE184.out) | refine Bp (below_set ?_ GE185.out) | refine Bp (below_set ?_ GE186.out) | refine Bp (below_set ?_ GE199.out))); (case aF => exact (fun k_ hk => ⟨Kd.fresh' (Rb HO_52) k_ hk, Kd.fresh' (Rb HO_57) k_ hk⟩)); (case aO => exact (Sm (Kd.S_mono HO_200002.out (fun k_ hk => ⟨⟨hk.2.1, hk.2.2⟩, fun e_ => hk.1 e_⟩)))); (case aS => exact (below_size (by repeat first | exact Bl HB | refine Bp (below_set ?_ GE184.out) | refine Bp (below_set ?_ GE185.out) | refine Bp (below_set ?_ GE186.out) | refine Bp (below_set ?_ GE199.out)))); (case aL => have := LMc110.out; omega); intro v205 w115 ho hb hg hat; rw [← Ny204.out] at ho; have n0_ := Am (Kd.R_over' (Rl HO_52) (Kd.S_typed (Sl HO_200002)) (by decide) hg); have n1_ := Am (Kd.R_over' (Rl HO_57) (Kd.S_typed (Sl HO_200002)) (by decide) hg); have n2_ := Am (blk_grown (Kl BK184) hg (Kd.S_ne HO_200002.out BK184.out (by decide))); have n3_ := Am (blk_grown (Kl BK185) hg (Kd.S_ne HO_200002.out BK185.out (by decide))); have n4_ := Am (blk_grown (Kl BK186) hg (Kd.S_ne HO_200002.out BK186.out (by decide))); have n5_ := Am (blk_grown (Kl BK199) hg (Kd.S_ne HO_200002.out BK199.out (by decide))); have n6_ := Am (hb); have n7_ := Am (ho); clear HO_52 HO_57 BK184 BK185 BK186 BK199 HB HO_200002 HO_9; have HO_52 := n0_; have HO_57 := n1_; have BK184 := n2_; have BK185 := n3_; have BK186 := n4_; have BK199 := n5_; have HB := n6_; have HO206 := n7_; clear n0_ n1_ n2_ n3_ n4_ n5_ n6_ n7_; clear ho hb hg hat; obtain ⟨Ao117, co117, eo117⟩ := Kd.S_slice HO206.out; subst eo117; have hcz118_0 : w115.cell? ⟨gb199, 0, none⟩ = some (.slice (some ad200) t193.length co63) := (blk_cell BK199.out 0).trans rfl; have hcz118_1 : w115.cell? ⟨gb199, 1, none⟩ = some (.slice Ao62 t196.length co62) := (blk_cell BK199.out 1).trans rfl; have hcz118_2 : w115.cell? ⟨gb199, 2, none⟩ = some (u200002) := (blk_cell BK199.out 2).trans rfl; have hfz118_0 := blk_frozen BK199.out 0; have hfz118_1 := blk_frozen BK199.out 1; have hfz118_2 := blk_frozen BK199.out 2))
                  go_roundg k4
                  case measure => have := HJ2.out; have := HJ24.out; have := HK3.out; have := HK4.out; omega
                  case rel => exact ⟨(wrap64 (x62_3 + 1)), (y204), (.slice Ao117 y204.length co117), (by first | rfl | (simp; done) | (simp [*]; done)), H', ⟨by have := HJ2.out; have := HJ24.out; have := HK3.out; have := HK4.out; omega⟩, ⟨Rm (Kd.R_mono (Kd.R_far (p := ⟨gb199, 2, none⟩) (Kd.R_types HO_52.out BK199.out (by decide)) (fun _ hk => hk.2) (.slice Ao117 y204.length co117)) (fun _ hk => hk.1.2))⟩, ⟨Rm (Kd.R_mono (Kd.R_far (p := ⟨gb199, 2, none⟩) (Kd.R_types HO_57.out BK199.out (by decide)) (fun _ hk => hk.2) (.slice Ao117 y204.length co117)) (fun _ hk => hk.1.2))⟩, ⟨Sm (Kd.S_mono (Kd.S_far (p := ⟨gb199, 2, none⟩) (Kd.S_types HO206.out BK199.out (by decide)) (fun _ hk => hk.2) (.slice Ao117 y204.length co117)) (fun _ hk => ⟨hk.1.1, hk.1.2⟩))⟩, ⟨by refine Kp ?_; refine blk_far ?_ NB184_199.out _; refine Kp ?_; exact BK184.out⟩, ⟨by refine Kp ?_; refine blk_far ?_ NB185_199.out _; refine Kp ?_; exact BK185.out⟩, ⟨by refine Kp ?_; refine blk_far ?_ NB186_199.out _; refine Kp ?_; exact BK186.out⟩, ⟨by refine Kp ?_; refine blk_put (cs := #[.slice (some ad200) t193.length co63, .slice Ao62 t196.length co62, u200002]) ?_ 2 _ rfl; refine Kp ?_; exact BK199.out⟩, ⟨by repeat first | exact Bl HB | refine Bp (below_set ?_ GE184.out) | refine Bp (below_set ?_ GE185.out) | refine Bp (below_set ?_ GE186.out) | refine Bp (below_set ?_ GE199.out)⟩⟩
                 ·rw [if_neg c110] at H
                  exact absurd H (by simp)
             ·rw [if_neg c75] at H
              exact absurd H (by simp)
            ·rw [if_neg c74] at H
             exact absurd H (by simp)
           ·rw [if_neg c73] at H
            exact absurd H (by simp)
          ·rw [if_neg c72] at H
           exact absurd H (by simp)
         ·rw [if_neg c71] at H
          have c71b0 : decide (x62_3 < (t193.length : Int)) = false := decide_eq_false c71
          clear c71
          by_cases c119 : (t193.length : Int) > 200
          ·rw [if_pos c119] at H
           have c119b0 : decide (200 < (t193.length : Int)) = true := decide_eq_true c119
           have c119b1 : decide (200 < t193.length) = true := decide_eq_true (by omega)
           clear c119
           simp only [Option.some.injEq, Prod.mk.injEq] at H
           obtain ⟨rfl, rfl, rfl, rfl⟩ := H
           have hnb120 := NB199_184.out
           have hnc120 := NB184_199.out
           have hnb121 := NB199_185.out
           have hnc121 := NB185_199.out
           have hnb122 := NB199_186.out
           have hnc122 := NB186_199.out
           have hcz123_0 : wr.cell? ⟨gb199, 0, none⟩ = some (.slice Ao63 t193.length co63) := (blk_cell BK199.out 0).trans rfl
           have hcz123_1 : wr.cell? ⟨gb199, 1, none⟩ = some (.slice Ao62 t196.length co62) := (blk_cell BK199.out 1).trans rfl
           have hcz123_2 : wr.cell? ⟨gb199, 2, none⟩ = some (u200002) := (blk_cell BK199.out 2).trans rfl
           have hfz123_0 := blk_frozen BK199.out 0
           have hfz123_1 := blk_frozen BK199.out 1
           have hfz123_2 := blk_frozen BK199.out 2
           have hnb124 := NB186_184.out
           have hnc124 := NB184_186.out
           have hnb125 := NB186_185.out
           have hnc125 := NB185_186.out
           have hcz126_0 : wr.cell? ⟨gb186, 0, none⟩ = some (.slice none 0 0) := (blk_cell BK186.out 0).trans rfl
           have hcz126_1 : wr.cell? ⟨gb186, 1, none⟩ = some (.slice none 0 0) := (blk_cell BK186.out 1).trans rfl
           have hcz126_2 : wr.cell? ⟨gb186, 2, none⟩ = some (.slice none 0 0) := (blk_cell BK186.out 2).trans rfl
           have hfz126_0 := blk_frozen BK186.out 0
           have hfz126_1 := blk_frozen BK186.out 1
           have hfz126_2 := blk_frozen BK186.out 2
           go_wp2
           refine bodyPost_ret (results_ct rfl _ _ gb186 53 #[.slice none 0 0, .slice none 0 0, .slice none 0 0] (0, 0) _ rfl (by refine Kp ?_; refine blk_put (cs := #[.slice none 0 0, .slice none 0 0, .slice none 0 0]) ?_ 2 _ rfl; refine Kp ?_; refine blk_put (cs := #[.slice none 0 0, .slice none 0 0, .slice none 0 0]) ?_ 1 _ rfl; refine Kp ?_; refine blk_put (cs := #[.slice none 0 0, .slice none 0 0, .slice none 0 0]) ?_ 0 _ rfl; refine Kp ?_; exact BK186.out) Try.underlying53 rfl (by kernel_rfl)) rfl ?_
           exact ⟨_, _, _, by first | rfl | (simp [errW_none, errW_some] <;> rfl) | (simp [*, errW_none, errW_some] <;> rfl), by first | exact Kd.R_nil _ _ _ _ _ | exact Kd.N_nil _ _ _ _ _ | exact Kd.V_nil _ _ _ _ _ | exact Kd.Q_nil _ _ _ _ _ | exact Kd.S_nil _ _ _ _ _, by first | exact Kd.R_nil _ _ _ _ _ | exact Kd.N_nil _ _ _ _ _ | exact Kd.V_nil _ _ _ _ _ | exact Kd.Q_nil _ _ _ _ _ | exact Kd.S_nil _ _ _ _ _, by first | exact Kd.S_nil _ _ _ _ _ | exact Kd.N_nil _ _ _ _ _ | exact Kd.V_nil _ _ _ _ _ | exact Kd.Q_nil _ _ _ _ _ | exact Kd.R_nil _ _ _ _ _, by repeat first | exact Bl HB | refine Bp (below_set ?_ GE184.out) | refine Bp (below_set ?_ GE185.out) | refine Bp (below_set ?_ GE186.out) | refine Bp (below_set ?_ GE199.out)⟩
          ·rw [if_neg c119] at H
           have c119b0 : decide (200 < (t193.length : Int)) = false := decide_eq_false c119
           have c119b1 : decide (200 < t193.length) = false := decide_eq_false (by omega)
           clear c119
           by_cases c127 : (t196.length : Int) > 60
           ·rw [if_pos c127] at H
            have c127b0 : decide (60 < (t196.length : Int)) = true := decide_eq_true c127
            have c127b1 : decide (60 < t196.length) = true := decide_eq_true (by omega)
            clear c127
            simp only [Option.some.injEq, Prod.mk.injEq] at H
            obtain ⟨rfl, rfl, rfl, rfl⟩ := H
            have hnb128 := NB199_184.out
            have hnc128 := NB184_199.out
            have hnb129 := NB199_185.out
            have hnc129 := NB185_199.out
            have hnb130 := NB199_186.out
            have hnc130 := NB186_199.out
            have hcz131_0 : wr.cell? ⟨gb199, 0, none⟩ = some (.slice Ao63 t193.length co63) := (blk_cell BK199.out 0).trans rfl
            have hcz131_1 : wr.cell? ⟨gb199, 1, none⟩ = some (.slice Ao62 t196.length co62) := (blk_cell BK199.out 1).trans rfl
            have hcz131_2 : wr.cell? ⟨gb199, 2, none⟩ = some (u200002) := (blk_cell BK199.out 2).trans rfl
            have hfz131_0 := blk_frozen BK199.out 0
            have hfz131_1 := blk_frozen BK199.out 1
            have hfz131_2 := blk_frozen BK199.out 2
            have hnb132 := NB186_184.out
            have hnc132 := NB184_186.out
            have hnb133 := NB186_185.out
            have hnc133 := NB185_186.out
            have hcz134_0 : wr.cell? ⟨gb186, 0, none⟩ = some (.slice none 0 0) := (blk_cell BK186.out 0).trans rfl
            have hcz134_1 : wr.cell? ⟨gb186, 1, none⟩ = some (.slice none 0 0) := (blk_cell BK186.out 1).trans rfl
            have hcz134_2 : wr.cell? ⟨gb186, 2, none⟩ = some (.slice none 0 0) := (blk_cell BK186.out 2).trans rfl
            have hfz134_0 := blk_frozen BK186.out 0
            have hfz134_1 := blk_frozen BK186.out 1
            have hfz134_2 := blk_frozen BK186.out 2
            go_wp2
            refine bodyPost_ret (results_ct rfl _ _ gb186 53 #[.slice none 0 0, .slice none 0 0, .slice none 0 0] (0, 0) _ rfl (by refine Kp ?_; refine blk_put (cs := #[.slice none 0 0, .slice none 0 0, .slice none 0 0]) ?_ 2 _ rfl; refine Kp ?_; refine blk_put (cs := #[.slice none 0 0, .slice none 0 0, .slice none 0 0]) ?_ 1 _ rfl; refine Kp ?_; refine blk_put (cs := #[.slice none 0 0, .slice none 0 0, .slice none 0 0]) ?_ 0 _ rfl; refine Kp ?_; exact BK186.out) Try.underlying53 rfl (by kernel_rfl)) rfl ?_
            exact ⟨_, _, _, by first | rfl | (simp [errW_none, errW_some] <;> rfl) | (simp [*, errW_none, errW_some] <;> rfl), by first | exact Kd.R_nil _ _ _ _ _ | exact Kd.N_nil _ _ _ _ _ | exact Kd.V_nil _ _ _ _ _ | exact Kd.Q_nil _ _ _ _ _ | exact Kd.S_nil _ _ _ _ _, by first | exact Kd.R_nil _ _ _ _ _ | exact Kd.N_nil _ _ _ _ _ | exact Kd.V_nil _ _ _ _ _ | exact Kd.Q_nil _ _ _ _ _ | exact Kd.S_nil _ _ _ _ _, by first | exact Kd.S_nil _ _ _ _ _ | exact Kd.N_nil _ _ _ _ _ | exact Kd.V_nil _ _ _ _ _ | exact Kd.Q_nil _ _ _ _ _ | exact Kd.R_nil _ _ _ _ _, by repeat first | exact Bl HB | refine Bp (below_set ?_ GE184.out) | refine Bp (below_set ?_ GE185.out) | refine Bp (below_set ?_ GE186.out) | refine Bp (below_set ?_ GE199.out)⟩
           ·rw [if_neg c127] at H
            have c127b0 : decide (60 < (t196.length : Int)) = false := decide_eq_false c127
            have c127b1 : decide (60 < t196.length) = false := decide_eq_false (by omega)
            clear c127
            simp only [Option.some.injEq, Prod.mk.injEq] at H
            obtain ⟨rfl, rfl, rfl, rfl⟩ := H
            have hnb135 := NB199_184.out
            have hnc135 := NB184_199.out
            have hnb136 := NB199_185.out
            have hnc136 := NB185_199.out
            have hnb137 := NB199_186.out
            have hnc137 := NB186_199.out
            have hcz138_0 : wr.cell? ⟨gb199, 0, none⟩ = some (.slice Ao63 t193.length co63) := (blk_cell BK199.out 0).trans rfl
            have hcz138_1 : wr.cell? ⟨gb199, 1, none⟩ = some (.slice Ao62 t196.length co62) := (blk_cell BK199.out 1).trans rfl
            have hcz138_2 : wr.cell? ⟨gb199, 2, none⟩ = some (u200002) := (blk_cell BK199.out 2).trans rfl
            have hfz138_0 := blk_frozen BK199.out 0
            have hfz138_1 := blk_frozen BK199.out 1
            have hfz138_2 := blk_frozen BK199.out 2
            have hnb139 := NB186_184.out
            have hnc139 := NB184_186.out
            have hnb140 := NB186_185.out
            have hnc140 := NB185_186.out
            have hcz141_0 : wr.cell? ⟨gb186, 0, none⟩ = some (.slice none 0 0) := (blk_cell BK186.out 0).trans rfl
            have hcz141_1 : wr.cell? ⟨gb186, 1, none⟩ = some (.slice none 0 0) := (blk_cell BK186.out 1).trans rfl
            have hcz141_2 : wr.cell? ⟨gb186, 2, none⟩ = some (.slice none 0 0) := (blk_cell BK186.out 2).trans rfl
            have hfz141_0 := blk_frozen BK186.out 0
            have hfz141_1 := blk_frozen BK186.out 1
            have hfz141_2 := blk_frozen BK186.out 2
            obtain ⟨Ao142, co142, eo142⟩ := Kd.S_slice HO_200002.out
            subst eo142
            go_wp2
            refine bodyPost_ret (results_ct rfl _ _ gb186 53 #[.slice Ao63 t193.length co63, .slice Ao62 t196.length co62, .slice Ao142 x200002_3.length co142] (0, 0) _ rfl (by refine Kp ?_; refine blk_put (cs := #[.slice Ao63 t193.length co63, .slice Ao62 t196.length co62, .slice none 0 0]) ?_ 2 _ rfl; refine Kp ?_; refine blk_put (cs := #[.slice Ao63 t193.length co63, .slice none 0 0, .slice none 0 0]) ?_ 1 _ rfl; refine Kp ?_; refine blk_put (cs := #[.slice none 0 0, .slice none 0 0, .slice none 0 0]) ?_ 0 _ rfl; refine Kp ?_; exact BK186.out) Try.underlying53 rfl (by kernel_rfl)) rfl ?_
            exact ⟨_, _, _, by first | rfl | (simp [errW_none, errW_some] <;> rfl) | (simp [*, errW_none, errW_some] <;> rfl), Rm (Kd.R_mono (Kd.R_far (p := ⟨gb186, 2, none⟩) (Kd.R_far (p := ⟨gb186, 1, none⟩) (Kd.R_far (p := ⟨gb186, 0, none⟩) (Kd.R_types HO_52.out BK186.out (by decide)) (fun _ hk => hk.2) (.slice Ao63 t193.length co63)) (fun _ hk => hk.2) (.slice Ao62 t196.length co62)) (fun _ hk => hk.2) (.slice Ao142 x200002_3.length co142)) (fun _ hk => hk.1)), Rm (Kd.R_mono (Kd.R_far (p := ⟨gb186, 2, none⟩) (Kd.R_far (p := ⟨gb186, 1, none⟩) (Kd.R_far (p := ⟨gb186, 0, none⟩) (Kd.R_types HO_57.out BK186.out (by decide)) (fun _ hk => hk.2) (.slice Ao63 t193.length co63)) (fun _ hk => hk.2) (.slice Ao62 t196.length co62)) (fun _ hk => hk.2) (.slice Ao142 x200002_3.length co142)) (fun _ hk => hk.1)), Sm (Kd.S_mono (Kd.S_far (p := ⟨gb186, 2, none⟩) (Kd.S_far (p := ⟨gb186, 1, none⟩) (Kd.S_far (p := ⟨gb186, 0, none⟩) (Kd.S_types HO_200002.out BK186.out (by decide)) (fun _ hk => hk.2) (.slice Ao63 t193.length co63)) (fun _ hk => hk.2) (.slice Ao62 t196.length co62)) (fun _ hk => hk.2) (.slice Ao142 x200002_3.length co142)) (fun _ hk => ⟨hk.1.1, hk.1.2⟩)), by repeat first | exact Bl HB | refine Bp (below_set ?_ GE184.out) | refine Bp (below_set ?_ GE185.out) | refine Bp (below_set ?_ GE186.out) | refine Bp (below_set ?_ GE199.out)⟩

end Go.Proofs.Ytgeplglggcoaiaa.Matrix
