/- The row of the law examboardlaw24_MatrixSelects, out of its pure statement and the walks: whatever the input, the call returns true and the input reads as it did. -/
import Derived.Test.YtgeplglggcoaiabRows
import Derived.Test.YtgeplglggcoaiabMatrixx43
import Derived.Test.YtgeplglggcoaiabPureMatrixSelects
import Derived.Test.YtgeplglggcoaiabOpens
import Derived.WalkKit
import Derived.ProofKit
import Derived.OpenShut
import Derived.ShutString
import Derived.ChangeOld
import Derived.Below
import Derived.SizedLaws
import Derived.Carry
namespace Go.Proofs.Ytgeplglggcoaiab.matrixSelects
open Go.ChangeShapes Go.WideShapes Go.ChangeAt Go.RowKit Go.Proofs.YtgeplglggcoaiabOpens Go.Proofs.Ytgeplglggcoaiab.Matrix Go.Proofs.YtgeplglggcoaiabW.PrintWords
open Go.ChangeMaps (open_string shut_string)
set_option linter.unusedVariables false
theorem own : ownKnob Try.prog.godebug = none := by kernel_rfl
theorem laidOut : laidOutB Try.prog = true := by kernel_rfl
theorem o3 : Opens Try.prog 3 (Kd.int .i64) (fun n : Int => (Lit.int .i64 n).wf = true) := opens_int Try.underlying3
theorem o36 : Opens Try.prog 36 (Kd.slice 3 (Kd.int .i64)) (fun l : List Int => l.length ≤ maxLen ∧ l.length * 8 ≤ 140737488351232 ∧ ∀ y ∈ l, (fun n : Int => (Lit.int .i64 n).wf = true) y) := opens_slice Try.underlying36 (by kernel_rfl) (by kernel_rfl) o3
theorem o37 : Opens Try.prog 37 (Kd.slice 36 (Kd.slice 3 (Kd.int .i64))) (fun l : List (List Int) => l.length ≤ maxLen ∧ l.length * 24 ≤ 140737488351232 ∧ ∀ y ∈ l, (fun l : List Int => l.length ≤ maxLen ∧ l.length * 8 ≤ 140737488351232 ∧ ∀ y ∈ l, (fun n : Int => (Lit.int .i64 n).wf = true) y) y) := opens_slice Try.underlying37 (by kernel_rfl) (by kernel_rfl) o36
set_option maxRecDepth 100000 in
set_option maxHeartbeats 1000000 in
theorem lifted (os : Os) (started : os.Started) (H : Type) (enc : TypeId × Value → H) :
    ReturnsInHanded {} Try.checked os 8 .any (Rows.matrixSelectsSpec.pre6 enc Try.prog Try.f8 Rows.matrixSelectsRow.domain false) (Rows.matrixSelectsSpec.post enc Try.prog Try.f8 false true false false) := by
  refine returnsInHanded_of_change_sized (C := Try.checked) own started (by kernel_rfl) Try.func8
    (ChangeSpec.witness6 (enc := enc) (C := Try.checked) false ⟨#[], #[.agg #[.slice none 0 0, .slice none 0 0, .slice none 0 0], .slice none 0 0, .slice none 0 0], []⟩ 8 (by kernel_rfl) (by kernel_rfl) (by kernel_rfl) (by kernel_rfl)) ?_
  intro W base args ds gs before hval0 hW hcnd hsz0 _
  have hsz : (DataW.weightsEach Try.prog (Try.f8.params.toList ++ Rows.matrixSelectsSpec.plain.varTypes Try.prog) (ds ++ gs)).all (· ≤ reachBytes) = true := hsz0
  have hval : ∀ (j : Nat) t v, Try.f8.params[j]? = some t → args[j]? = some v → Value.okWide Try.prog W .any base t v := hval0
  have hW' := hW
  obtain ⟨p, q, hA0, hV, rfl, hfz, hnd⟩ := hW
  have hA : DataW.TrodAll enc Try.prog W 0 (fun _ => true) true Try.f8.params.toList args.toList ds p := hA0
  rw [Try.params8] at hA hval hsz
  obtain ⟨v0, vs0, d0, ds0, p0, q0, hargs, rfl, rfl, h0, r0⟩ := trodAll_cons hA
  obtain ⟨v1, vs1, d1, ds1, p1, q1, rfl, rfl, rfl, h1, r1⟩ := trodAll_cons r0
  obtain ⟨v2, vs2, d2, ds2, p2, q2, rfl, rfl, rfl, h2, r2⟩ := trodAll_cons r1
  obtain ⟨rfl, rfl, rfl⟩ := trodAll_nil r2
  obtain rfl : args = #[v0, v1, v2] := by cases args; simp_all
  obtain ⟨rfl, rfl⟩ := trodVars_none hV
  have k0 := h0
  have lt0 : ∀ x ∈ p0, x.block < W.heap.size := by obtain ⟨m, hm⟩ := k0; exact DataW.trod_lt m _ _ _ hm
  have hag0 := agg_of Try.underlying39 (hval 0 39 v0 rfl rfl)
  obtain ⟨y0, hK0, hw0⟩ := arg_seq (d := (Kd.pair (Kd.slice 3 (Kd.int .i64)) (Kd.pair (Kd.slice 3 (Kd.int .i64)) (Kd.slice 36 (Kd.slice 3 (Kd.int .i64)))))) (φ := (fun y : (List Int) × (List Int) × (List (List Int)) => (fun l : List Int => l.length ≤ maxLen ∧ l.length * 8 ≤ 140737488351232 ∧ ∀ y ∈ l, (fun n : Int => (Lit.int .i64 n).wf = true) y) y.1 ∧ (fun y : (List Int) × (List (List Int)) => (fun l : List Int => l.length ≤ maxLen ∧ l.length * 8 ≤ 140737488351232 ∧ ∀ y ∈ l, (fun n : Int => (Lit.int .i64 n).wf = true) y) y.1 ∧ (fun l : List (List Int) => l.length ≤ maxLen ∧ l.length * 24 ≤ 140737488351232 ∧ ∀ y ∈ l, (fun l : List Int => l.length ≤ maxLen ∧ l.length * 8 ≤ 140737488351232 ∧ ∀ y ∈ l, (fun n : Int => (Lit.int .i64 n).wf = true) y) y) y.2) y.2)) Try.underlying39 (by kernel_rfl) (opens_next (φ := (fun l : List Int => l.length ≤ maxLen ∧ l.length * 8 ≤ 140737488351232 ∧ ∀ y ∈ l, (fun n : Int => (Lit.int .i64 n).wf = true) y)) (ψ := (fun y : (List Int) × (List (List Int)) => (fun l : List Int => l.length ≤ maxLen ∧ l.length * 8 ≤ 140737488351232 ∧ ∀ y ∈ l, (fun n : Int => (Lit.int .i64 n).wf = true) y) y.1 ∧ (fun l : List (List Int) => l.length ≤ maxLen ∧ l.length * 24 ≤ 140737488351232 ∧ ∀ y ∈ l, (fun l : List Int => l.length ≤ maxLen ∧ l.length * 8 ≤ 140737488351232 ∧ ∀ y ∈ l, (fun n : Int => (Lit.int .i64 n).wf = true) y) y) y.2)) rfl (by kernel_rfl) rfl o36 (opens_next (φ := (fun l : List Int => l.length ≤ maxLen ∧ l.length * 8 ≤ 140737488351232 ∧ ∀ y ∈ l, (fun n : Int => (Lit.int .i64 n).wf = true) y)) (ψ := (fun l : List (List Int) => l.length ≤ maxLen ∧ l.length * 24 ≤ 140737488351232 ∧ ∀ y ∈ l, (fun l : List Int => l.length ≤ maxLen ∧ l.length * 8 ≤ 140737488351232 ∧ ∀ y ∈ l, (fun n : Int => (Lit.int .i64 n).wf = true) y) y)) rfl (by kernel_rfl) rfl o36 (opens_last (φ := (fun l : List (List Int) => l.length ≤ maxLen ∧ l.length * 24 ≤ 140737488351232 ∧ ∀ y ∈ l, (fun l : List Int => l.length ≤ maxLen ∧ l.length * 8 ≤ 140737488351232 ∧ ∀ y ∈ l, (fun n : Int => (Lit.int .i64 n).wf = true) y) y)) rfl (by kernel_rfl) o37))) hsz (j := 0) (t := 39) rfl rfl h0
  obtain ⟨l0_0, l0_1, l0_2⟩ := y0
  obtain ⟨_, _, e0, ⟨A0_0, c0_0, rfl, hc0_0, hr0_0⟩, ⟨_, _, rfl, ⟨A0_1, c0_1, rfl, hc0_1, hr0_1⟩, ⟨A0_2, c0_2, rfl, hc0_2, hr0_2⟩⟩⟩ := hK0
  rw [e0] at hag0
  replace hag0 : v0 = .agg #[.slice A0_0 l0_0.length c0_0, .slice A0_1 l0_1.length c0_1, .slice A0_2 l0_2.length c0_2] := hag0
  subst hag0
  have k1 := h1
  have lt1 : ∀ x ∈ p1, x.block < W.heap.size := by obtain ⟨m, hm⟩ := k1; exact DataW.trod_lt m _ _ _ hm
  obtain ⟨l1, hK1, hm1, hy1, hw1⟩ := arg_opens o36 hsz (j := 1) (t := 36) rfl rfl h1
  rw [slice_cells Try.underlying36 (hval 1 36 v1 rfl rfl)] at hK1
  obtain ⟨A1, c1, hv1, hc1, hr1⟩ := hK1
  obtain rfl : v1 = .slice A1 l1.length c1 := by simpa using hv1
  have k2 := h2
  have lt2 : ∀ x ∈ p2, x.block < W.heap.size := by obtain ⟨m, hm⟩ := k2; exact DataW.trod_lt m _ _ _ hm
  obtain ⟨l2, hK2, hm2, hy2, hw2⟩ := arg_opens o36 hsz (j := 2) (t := 36) rfl rfl h2
  rw [slice_cells Try.underlying36 (hval 2 36 v2 rfl rfl)] at hK2
  obtain ⟨A2, c2, hv2, hc2, hr2⟩ := hK2
  obtain rfl : v2 = .slice A2 l2.length c2 := by simpa using hv2
  obtain ⟨k, hp⟩ := Pure.MatrixSelects l0_0 l0_1 l0_2 l1 l2 (hw0.1.1) (hw0.1.2.1) (hw0.1.2.2) (hw0.2.1.1) (hw0.2.1.2.1) (hw0.2.1.2.2) (hw0.2.2.1) (hw0.2.2.2.1) (hw0.2.2.2.2) (hm1) (hy1) (hw1) (hm2) (hy2) (hw2)
  clear hA0 hval0 hsz0 hsz
  refine (Matrix.examboardlaw24_MatrixSelects.calls k _ _ l0_0 _ _ l0_1 _ _ l0_2 _ _ l1 _ _ l2 true W hr0_0 hc0_0 hr0_1 hc0_1 hr0_2 hc0_2 hr1 hc1 hr2 hc2 hp).mono ?_
  rintro e W' ⟨rfl, hd⟩
  have bel : Below W.heap.size W W' := hd
  exact ⟨_, rfl, _, _, _, [], _, [], hW', trodAll_mk1 (shut_bool Try.underlying4 _), (trodAll_cons_mk (Below.trod laidOut (by kernel_rfl) (of_decide_eq_true (by kernel_rfl)) k0 bel lt0) (trodAll_cons_mk (Below.trod laidOut (by kernel_rfl) (of_decide_eq_true (by kernel_rfl)) k1 bel lt1) (trodAll_cons_mk (Below.trod laidOut (by kernel_rfl) (of_decide_eq_true (by kernel_rfl)) k2 bel lt2) trodAll_mk0))), rfl, bel.frame _, fun h => by cases h⟩
theorem over : Rows.matrixSelectsRow.holds Try.pinned (OpenSpec.ofChange Rows.matrixSelectsSpec) :=
  OpenClaim.holds_of_wide 8 Try.f8 rfl rfl rfl rfl rfl rfl rfl ⟨rfl, rfl, rfl, rfl, rfl⟩ rfl rfl rfl rfl rfl (by kernel_rfl) Try.func8 (by kernel_rfl)
    (of_decide_eq_true (by kernel_rfl)) (by unfold Func.isWrapper; first | (rw [if_pos (by decide +kernel)]; kernel_rfl) | (rw [if_neg (by decide +kernel)]; exact ⟨rfl, rfl⟩))
    (fun os started H enc _ => lifted os started H enc)
theorem proved : Rows.MatrixSelectsSaid := over
#print axioms proved
end Go.Proofs.Ytgeplglggcoaiab.matrixSelects
namespace Go.Proofs.Ytgeplglggcoaiab
/-- The row, under a short name, for the claim. -/
theorem matrixSelects_holds : Rows.MatrixSelectsSaid := matrixSelects.proved
end Go.Proofs.Ytgeplglggcoaiab
