/- The row (of the second form: where what is read is of bulk at most 1048576) of the law examboardlaw24_MatrixUnion, out of its pure statement and the walks: whatever the input, the call returns true and the input reads as it did. -/
import Derived.Test.YtgeplglggcoaiabRows
import Derived.Test.YtgeplglggcoaiabMatrixx44
import Derived.Test.YtgeplglggcoaiabPureMatrixUnion
import Derived.Test.YtgeplglggcoaiabOpens
import Derived.Test.YtgeplglggcoaiabBulk
import Derived.JoinedCond
import Derived.Deep.CondSized
import Derived.WalkKit
import Derived.ProofKit
import Derived.OpenShut
import Derived.ShutString
import Derived.ChangeOld
import Derived.Below
import Derived.SizedLaws
import Derived.Carry
namespace Go.Proofs.Ytgeplglggcoaiab.matrixUnion
open Go.ChangeShapes Go.WideShapes Go.ChangeAt Go.RowKit Go.Proofs.YtgeplglggcoaiabOpens Go.Proofs.Ytgeplglggcoaiab.Matrix Go.Proofs.YtgeplglggcoaiabW.PrintWords
open Go.ChangeMaps (open_string shut_string)
set_option linter.unusedVariables false
theorem own : ownKnob Try.prog.godebug = none := by kernel_rfl
theorem laidOut : laidOutB Try.prog = true := by kernel_rfl
theorem o3 : Opens Try.prog 3 (Kd.int .i64) (fun n : Int => (Lit.int .i64 n).wf = true) := opens_int Try.underlying3
theorem o36 : Opens Try.prog 36 (Kd.slice 3 (Kd.int .i64)) (fun l : List Int => l.length ≤ maxLen ∧ l.length * 8 ≤ 140737488351232 ∧ ∀ y ∈ l, (fun n : Int => (Lit.int .i64 n).wf = true) y) := opens_slice Try.underlying36 (by kernel_rfl) (by kernel_rfl) o3
theorem o37 : Opens Try.prog 37 (Kd.slice 36 (Kd.slice 3 (Kd.int .i64))) (fun l : List (List Int) => l.length ≤ maxLen ∧ l.length * 24 ≤ 140737488351232 ∧ ∀ y ∈ l, (fun l : List Int => l.length ≤ maxLen ∧ l.length * 8 ≤ 140737488351232 ∧ ∀ y ∈ l, (fun n : Int => (Lit.int .i64 n).wf = true) y) y) := opens_slice Try.underlying37 (by kernel_rfl) (by kernel_rfl) o36
theorem c36 : Try.prog.cellsOf 36 = 1 := by kernel_rfl
theorem c37 : Try.prog.cellsOf 37 = 1 := by kernel_rfl
set_option maxRecDepth 100000 in
set_option maxHeartbeats 1000000 in
theorem lifted (os : Os) (started : os.Started) (H : Type) (enc : TypeId × Value → H) (F : Stop.Interp) :
    ReturnsInHanded {} Try.checked os 9 .any ((Rows.OpenSpec.upto Rows.matrixUnionSpec).pre6 enc Try.prog Try.f9 Rows.matrixUnionUptoRow.domain false) (((Rows.OpenSpec.upto Rows.matrixUnionSpec).at F).post enc Try.prog Try.f9 false true false false) := by
  refine returnsInHanded_of_cond_sized (C := Try.checked) (s := Rows.OpenSpec.upto Rows.matrixUnionSpec) (k := Rows.uptoSmall) rfl own started (by kernel_rfl) Try.func9
    (OpenSpec.witness (enc := enc) (C := Try.checked) (s := Rows.OpenSpec.upto Rows.matrixUnionSpec) (k := Rows.uptoSmall) rfl false ⟨#[], #[.agg #[.slice none 0 0, .slice none 0 0, .slice none 0 0], .agg #[.slice none 0 0, .slice none 0 0, .slice none 0 0]], []⟩ 8 (by kernel_rfl) (by kernel_rfl) (by kernel_rfl)
      (x := ([.agg [.nil, .nil, .nil], .agg [.nil, .nil, .nil]], [], [])) (by kernel_rfl) rfl (by kernel_rfl)) ?_
  intro W base args ds gs before hval0 hW hcnd hk hsz0 _
  have hsz : (DataW.weightsEach Try.prog (Try.f9.params.toList ++ Rows.matrixUnionSpec.plain.varTypes Try.prog) (ds ++ gs)).all (· ≤ reachBytes) = true := hsz0
  have hval : ∀ (j : Nat) t v, Try.f9.params[j]? = some t → args[j]? = some v → Value.okWide Try.prog W .any base t v := hval0
  have hW' := hW
  obtain ⟨p, q, hA0, hV, rfl, hfz, hnd⟩ := hW
  have hA : DataW.TrodAll enc Try.prog W 0 (fun _ => true) true Try.f9.params.toList args.toList ds p := hA0
  rw [Try.params9] at hA hval hsz
  obtain ⟨v0, vs0, d0, ds0, p0, q0, hargs, rfl, rfl, h0, r0⟩ := trodAll_cons hA
  obtain ⟨v1, vs1, d1, ds1, p1, q1, rfl, rfl, rfl, h1, r1⟩ := trodAll_cons r0
  obtain ⟨rfl, rfl, rfl⟩ := trodAll_nil r1
  obtain rfl : args = #[v0, v1] := by cases args; simp_all
  obtain ⟨rfl, rfl⟩ := trodVars_none hV
  have k0 := h0
  have lt0 : ∀ x ∈ p0, x.block < W.heap.size := by obtain ⟨m, hm⟩ := k0; exact DataW.trod_lt m _ _ _ hm
  have hag0 := agg_of Try.underlying39 (hval 0 39 v0 rfl rfl)
  obtain ⟨y0, hK0, hw0⟩ := arg_seq (d := (Kd.pair (Kd.slice 3 (Kd.int .i64)) (Kd.pair (Kd.slice 3 (Kd.int .i64)) (Kd.slice 36 (Kd.slice 3 (Kd.int .i64)))))) (φ := (fun y : (List Int) × (List Int) × (List (List Int)) => (fun l : List Int => l.length ≤ maxLen ∧ l.length * 8 ≤ 140737488351232 ∧ ∀ y ∈ l, (fun n : Int => (Lit.int .i64 n).wf = true) y) y.1 ∧ (fun y : (List Int) × (List (List Int)) => (fun l : List Int => l.length ≤ maxLen ∧ l.length * 8 ≤ 140737488351232 ∧ ∀ y ∈ l, (fun n : Int => (Lit.int .i64 n).wf = true) y) y.1 ∧ (fun l : List (List Int) => l.length ≤ maxLen ∧ l.length * 24 ≤ 140737488351232 ∧ ∀ y ∈ l, (fun l : List Int => l.length ≤ maxLen ∧ l.length * 8 ≤ 140737488351232 ∧ ∀ y ∈ l, (fun n : Int => (Lit.int .i64 n).wf = true) y) y) y.2) y.2)) Try.underlying39 (by kernel_rfl) (opens_next (φ := (fun l : List Int => l.length ≤ maxLen ∧ l.length * 8 ≤ 140737488351232 ∧ ∀ y ∈ l, (fun n : Int => (Lit.int .i64 n).wf = true) y)) (ψ := (fun y : (List Int) × (List (List Int)) => (fun l : List Int => l.length ≤ maxLen ∧ l.length * 8 ≤ 140737488351232 ∧ ∀ y ∈ l, (fun n : Int => (Lit.int .i64 n).wf = true) y) y.1 ∧ (fun l : List (List Int) => l.length ≤ maxLen ∧ l.length * 24 ≤ 140737488351232 ∧ ∀ y ∈ l, (fun l : List Int => l.length ≤ maxLen ∧ l.length * 8 ≤ 140737488351232 ∧ ∀ y ∈ l, (fun n : Int => (Lit.int .i64 n).wf = true) y) y) y.2)) rfl (by kernel_rfl) rfl o36 (opens_next (φ := (fun l : List Int => l.length ≤ maxLen ∧ l.length * 8 ≤ 140737488351232 ∧ ∀ y ∈ l, (fun n : Int => (Lit.int .i64 n).wf = true) y)) (ψ := (fun l : List (List Int) => l.length ≤ maxLen ∧ l.length * 24 ≤ 140737488351232 ∧ ∀ y ∈ l, (fun l : List Int => l.length ≤ maxLen ∧ l.length * 8 ≤ 140737488351232 ∧ ∀ y ∈ l, (fun n : Int => (Lit.int .i64 n).wf = true) y) y)) rfl (by kernel_rfl) rfl o36 (opens_last (φ := (fun l : List (List Int) => l.length ≤ maxLen ∧ l.length * 24 ≤ 140737488351232 ∧ ∀ y ∈ l, (fun l : List Int => l.length ≤ maxLen ∧ l.length * 8 ≤ 140737488351232 ∧ ∀ y ∈ l, (fun n : Int => (Lit.int .i64 n).wf = true) y) y)) rfl (by kernel_rfl) o37))) hsz (j := 0) (t := 39) rfl rfl h0
  obtain ⟨l0_0, l0_1, l0_2⟩ := y0
  obtain ⟨_, _, e0, ⟨A0_0, c0_0, rfl, hc0_0, hr0_0⟩, ⟨_, _, rfl, ⟨A0_1, c0_1, rfl, hc0_1, hr0_1⟩, ⟨A0_2, c0_2, rfl, hc0_2, hr0_2⟩⟩⟩ := hK0
  rw [e0] at hag0
  replace hag0 : v0 = .agg #[.slice A0_0 l0_0.length c0_0, .slice A0_1 l0_1.length c0_1, .slice A0_2 l0_2.length c0_2] := hag0
  subst hag0
  have ⟨fu0, hfu0⟩ := h0
  have b0_0 : l0_0.length ≤ Rows.uptoBulk d0 := bulks.field_le (i := 0) Try.underlying39 hfu0 rfl Try.underlying36 (by show List.take (Try.prog.cellsOf 36) (List.drop 0 _) = _; rw [c36]; rfl)
  have b0_1 : l0_1.length ≤ Rows.uptoBulk d0 := bulks.field_le (i := 1) Try.underlying39 hfu0 rfl Try.underlying36 (by show List.take (Try.prog.cellsOf 36) (List.drop 1 _) = _; rw [c36]; rfl)
  have b0_2 : l0_2.length ≤ Rows.uptoBulk d0 := bulks.field_le (i := 2) Try.underlying39 hfu0 rfl Try.underlying37 (by show List.take (Try.prog.cellsOf 37) (List.drop 2 _) = _; rw [c37]; rfl)
  have k1 := h1
  have lt1 : ∀ x ∈ p1, x.block < W.heap.size := by obtain ⟨m, hm⟩ := k1; exact DataW.trod_lt m _ _ _ hm
  have hag1 := agg_of Try.underlying39 (hval 1 39 v1 rfl rfl)
  obtain ⟨y1, hK1, hw1⟩ := arg_seq (d := (Kd.pair (Kd.slice 3 (Kd.int .i64)) (Kd.pair (Kd.slice 3 (Kd.int .i64)) (Kd.slice 36 (Kd.slice 3 (Kd.int .i64)))))) (φ := (fun y : (List Int) × (List Int) × (List (List Int)) => (fun l : List Int => l.length ≤ maxLen ∧ l.length * 8 ≤ 140737488351232 ∧ ∀ y ∈ l, (fun n : Int => (Lit.int .i64 n).wf = true) y) y.1 ∧ (fun y : (List Int) × (List (List Int)) => (fun l : List Int => l.length ≤ maxLen ∧ l.length * 8 ≤ 140737488351232 ∧ ∀ y ∈ l, (fun n : Int => (Lit.int .i64 n).wf = true) y) y.1 ∧ (fun l : List (List Int) => l.length ≤ maxLen ∧ l.length * 24 ≤ 140737488351232 ∧ ∀ y ∈ l, (fun l : List Int => l.length ≤ maxLen ∧ l.length * 8 ≤ 140737488351232 ∧ ∀ y ∈ l, (fun n : Int => (Lit.int .i64 n).wf = true) y) y) y.2) y.2)) Try.underlying39 (by kernel_rfl) (opens_next (φ := (fun l : List Int => l.length ≤ maxLen ∧ l.length * 8 ≤ 140737488351232 ∧ ∀ y ∈ l, (fun n : Int => (Lit.int .i64 n).wf = true) y)) (ψ := (fun y : (List Int) × (List (List Int)) => (fun l : List Int => l.length ≤ maxLen ∧ l.length * 8 ≤ 140737488351232 ∧ ∀ y ∈ l, (fun n : Int => (Lit.int .i64 n).wf = true) y) y.1 ∧ (fun l : List (List Int) => l.length ≤ maxLen ∧ l.length * 24 ≤ 140737488351232 ∧ ∀ y ∈ l, (fun l : List Int => l.length ≤ maxLen ∧ l.length * 8 ≤ 140737488351232 ∧ ∀ y ∈ l, (fun n : Int => (Lit.int .i64 n).wf = true) y) y) y.2)) rfl (by kernel_rfl) rfl o36 (opens_next (φ := (fun l : List Int => l.length ≤ maxLen ∧ l.length * 8 ≤ 140737488351232 ∧ ∀ y ∈ l, (fun n : Int => (Lit.int .i64 n).wf = true) y)) (ψ := (fun l : List (List Int) => l.length ≤ maxLen ∧ l.length * 24 ≤ 140737488351232 ∧ ∀ y ∈ l, (fun l : List Int => l.length ≤ maxLen ∧ l.length * 8 ≤ 140737488351232 ∧ ∀ y ∈ l, (fun n : Int => (Lit.int .i64 n).wf = true) y) y)) rfl (by kernel_rfl) rfl o36 (opens_last (φ := (fun l : List (List Int) => l.length ≤ maxLen ∧ l.length * 24 ≤ 140737488351232 ∧ ∀ y ∈ l, (fun l : List Int => l.length ≤ maxLen ∧ l.length * 8 ≤ 140737488351232 ∧ ∀ y ∈ l, (fun n : Int => (Lit.int .i64 n).wf = true) y) y)) rfl (by kernel_rfl) o37))) hsz (j := 1) (t := 39) rfl rfl h1
  obtain ⟨l1_0, l1_1, l1_2⟩ := y1
  obtain ⟨_, _, e1, ⟨A1_0, c1_0, rfl, hc1_0, hr1_0⟩, ⟨_, _, rfl, ⟨A1_1, c1_1, rfl, hc1_1, hr1_1⟩, ⟨A1_2, c1_2, rfl, hc1_2, hr1_2⟩⟩⟩ := hK1
  rw [e1] at hag1
  replace hag1 : v1 = .agg #[.slice A1_0 l1_0.length c1_0, .slice A1_1 l1_1.length c1_1, .slice A1_2 l1_2.length c1_2] := hag1
  subst hag1
  have ⟨fu1, hfu1⟩ := h1
  have b1_0 : l1_0.length ≤ Rows.uptoBulk d1 := bulks.field_le (i := 0) Try.underlying39 hfu1 rfl Try.underlying36 (by show List.take (Try.prog.cellsOf 36) (List.drop 0 _) = _; rw [c36]; rfl)
  have b1_1 : l1_1.length ≤ Rows.uptoBulk d1 := bulks.field_le (i := 1) Try.underlying39 hfu1 rfl Try.underlying36 (by show List.take (Try.prog.cellsOf 36) (List.drop 1 _) = _; rw [c36]; rfl)
  have b1_2 : l1_2.length ≤ Rows.uptoBulk d1 := bulks.field_le (i := 2) Try.underlying39 hfu1 rfl Try.underlying37 (by show List.take (Try.prog.cellsOf 37) (List.drop 2 _) = _; rw [c37]; rfl)
  have hbk := bulks.bound hk
  simp only [List.cons_append, Rows.uptoBulkAll] at hbk
  obtain ⟨k, hp⟩ := Pure.MatrixUnion l0_0 l0_1 l0_2 l1_0 l1_1 l1_2 (by omega) (by omega) (by omega) (by omega) (by omega) (by omega) (fun r hr => by have := (hw0.2.2.2.2 r hr).2.1; omega) (fun r hr => by have := (hw1.2.2.2.2 r hr).2.1; omega)
  clear hA0 hval0 hsz0 hsz
  refine (Matrix.examboardlaw24_MatrixUnion.calls k _ _ l0_0 _ _ l0_1 _ _ l0_2 _ _ l1_0 _ _ l1_1 _ _ l1_2 true W hr0_0 hc0_0 hr0_1 hc0_1 hr0_2 hc0_2 hr1_0 hc1_0 hr1_1 hc1_1 hr1_2 hc1_2 hp).mono ?_
  rintro e W' ⟨rfl, hd⟩
  have bel : Below W.heap.size W W' := hd
  exact ⟨_, rfl, _, _, _, [], _, [], hW', trodAll_mk1 (shut_bool Try.underlying4 _), (trodAll_cons_mk (Below.trod laidOut (by kernel_rfl) (of_decide_eq_true (by kernel_rfl)) k0 bel lt0) (trodAll_cons_mk (Below.trod laidOut (by kernel_rfl) (of_decide_eq_true (by kernel_rfl)) k1 bel lt1) trodAll_mk0)), rfl, bel.frame _, fun h => by cases h⟩
theorem over : Rows.matrixUnionUptoRow.holds Try.pinned (Rows.OpenSpec.upto Rows.matrixUnionSpec) :=
  OpenClaim.holds_of_cond 9 Try.f9 rfl rfl rfl rfl rfl rfl rfl ⟨rfl, rfl, rfl, rfl, rfl⟩ rfl rfl rfl rfl rfl (by kernel_rfl) Try.func9 (by kernel_rfl)
    (of_decide_eq_true (by kernel_rfl)) (by unfold Func.isWrapper; first | (rw [if_pos (by decide +kernel)]; kernel_rfl) | (rw [if_neg (by decide +kernel)]; exact ⟨rfl, rfl⟩))
    (fun os started H enc _ F => lifted os started H enc F)
theorem proved : Rows.MatrixUnionUptoSaid := over
#print axioms proved
end Go.Proofs.Ytgeplglggcoaiab.matrixUnion
namespace Go.Proofs.Ytgeplglggcoaiab
/-- The row, under a short name, for the claim. -/
theorem matrixUnionUpto_holds : Rows.MatrixUnionUptoSaid := matrixUnion.proved
end Go.Proofs.Ytgeplglggcoaiab
