/- The row of the law examboardlaw54_HoldBlocks, out of its pure statement and the walks: whatever the input, the call returns true and the input reads as it did. -/
import Derived.Test.YtgeplglggcoaiaaRows
import Derived.Test.YtgeplglggcoaiaaHoldx36
import Derived.Test.YtgeplglggcoaiaaPureHoldBlocks
import Derived.Test.YtgeplglggcoaiaaOpens
import Derived.WalkKit
import Derived.ProofKit
import Derived.OpenShut
import Derived.ShutString
import Derived.ChangeOld
import Derived.Below
import Derived.SizedLaws
import Derived.Carry
namespace Go.Proofs.Ytgeplglggcoaiaa.holdBlocks
open Go.ChangeShapes Go.WideShapes Go.ChangeAt Go.RowKit Go.Proofs.YtgeplglggcoaiaaOpens Go.Proofs.Ytgeplglggcoaiaa.Hold Go.Proofs.YtgeplglggcoaiaaW.PrintWords
open Go.ChangeMaps (open_string shut_string)
set_option linter.unusedVariables false
theorem own : ownKnob Try.prog.godebug = none := by kernel_rfl
theorem laidOut : laidOutB Try.prog = true := by kernel_rfl
theorem o3 : Opens Try.prog 3 (Kd.int .i64) (fun n : Int => (Lit.int .i64 n).wf = true) := opens_int Try.underlying3
theorem o76 : Opens Try.prog 76 k76 (fun x : S76 => (fun y : (Int) × (Int) × (Int) => (fun n : Int => (Lit.int .i64 n).wf = true) y.1 ∧ (fun y : (Int) × (Int) => (fun n : Int => (Lit.int .i64 n).wf = true) y.1 ∧ (fun n : Int => (Lit.int .i64 n).wf = true) y.2) y.2) ((x.f0, x.f1, x.f2))) :=
  opens_struct (g := fun x : S76 => (x.f0, x.f1, x.f2)) (d := (Kd.pair (Kd.int .i64) (Kd.pair (Kd.int .i64) (Kd.int .i64)))) (φ := (fun y : (Int) × (Int) × (Int) => (fun n : Int => (Lit.int .i64 n).wf = true) y.1 ∧ (fun y : (Int) × (Int) => (fun n : Int => (Lit.int .i64 n).wf = true) y.1 ∧ (fun n : Int => (Lit.int .i64 n).wf = true) y.2) y.2)) Try.underlying76 (fun y => ⟨y.1, y.2.1, y.2.2⟩) (fun _ => rfl) (by kernel_rfl) (opens_next (φ := (fun n : Int => (Lit.int .i64 n).wf = true)) (ψ := (fun y : (Int) × (Int) => (fun n : Int => (Lit.int .i64 n).wf = true) y.1 ∧ (fun n : Int => (Lit.int .i64 n).wf = true) y.2)) rfl (by kernel_rfl) rfl o3 (opens_next (φ := (fun n : Int => (Lit.int .i64 n).wf = true)) (ψ := (fun n : Int => (Lit.int .i64 n).wf = true)) rfl (by kernel_rfl) rfl o3 (opens_last (φ := (fun n : Int => (Lit.int .i64 n).wf = true)) rfl (by kernel_rfl) o3)))
theorem o73 : Opens Try.prog 73 (Kd.slice 76 k76) (fun l : List (S76) => l.length ≤ maxLen ∧ l.length * 24 ≤ 140737488351232 ∧ ∀ y ∈ l, (fun x : S76 => (fun y : (Int) × (Int) × (Int) => (fun n : Int => (Lit.int .i64 n).wf = true) y.1 ∧ (fun y : (Int) × (Int) => (fun n : Int => (Lit.int .i64 n).wf = true) y.1 ∧ (fun n : Int => (Lit.int .i64 n).wf = true) y.2) y.2) ((x.f0, x.f1, x.f2))) y) := opens_slice Try.underlying73 (by kernel_rfl) (by kernel_rfl) o76
set_option maxRecDepth 100000 in
set_option maxHeartbeats 1000000 in
theorem lifted (os : Os) (started : os.Started) (H : Type) (enc : TypeId × Value → H) :
    ReturnsInHanded {} Try.checked os 14 .any (Rows.holdBlocksSpec.pre6 enc Try.prog Try.f14 Rows.holdBlocksRow.domain false) (Rows.holdBlocksSpec.post enc Try.prog Try.f14 false true false false) := by
  refine returnsInHanded_of_change_sized (C := Try.checked) own started (by kernel_rfl) Try.func14
    (ChangeSpec.witness6 (enc := enc) (C := Try.checked) false ⟨#[], #[.slice none 0 0], []⟩ 8 (by kernel_rfl) (by kernel_rfl) (by kernel_rfl) (by kernel_rfl)) ?_
  intro W base args ds gs before hval0 hW hcnd hsz0 _
  have hsz : (DataW.weightsEach Try.prog (Try.f14.params.toList ++ Rows.holdBlocksSpec.plain.varTypes Try.prog) (ds ++ gs)).all (· ≤ reachBytes) = true := hsz0
  have hval : ∀ (j : Nat) t v, Try.f14.params[j]? = some t → args[j]? = some v → Value.okWide Try.prog W .any base t v := hval0
  have hW' := hW
  obtain ⟨p, q, hA0, hV, rfl, hfz, hnd⟩ := hW
  have hA : DataW.TrodAll enc Try.prog W 0 (fun _ => true) true Try.f14.params.toList args.toList ds p := hA0
  rw [Try.params14] at hA hval hsz
  obtain ⟨v0, vs0, d0, ds0, p0, q0, hargs, rfl, rfl, h0, r0⟩ := trodAll_cons hA
  obtain ⟨rfl, rfl, rfl⟩ := trodAll_nil r0
  obtain rfl : args = #[v0] := by cases args; simp_all
  obtain ⟨rfl, rfl⟩ := trodVars_none hV
  have k0 := h0
  have lt0 : ∀ x ∈ p0, x.block < W.heap.size := by obtain ⟨m, hm⟩ := k0; exact DataW.trod_lt m _ _ _ hm
  obtain ⟨l0, hK0, hm0, hy0, hw0⟩ := arg_opens o73 hsz (j := 0) (t := 73) rfl rfl h0
  rw [slice_cells Try.underlying73 (hval 0 73 v0 rfl rfl)] at hK0
  obtain ⟨A0, c0, hv0, hc0, hr0⟩ := hK0
  obtain rfl : v0 = .slice A0 l0.length c0 := by simpa using hv0
  obtain ⟨k, hp⟩ := Pure.HoldBlocks l0 (hm0) (hy0) (hw0)
  clear hA0 hval0 hsz0 hsz
  refine (Hold.examboardlaw54_HoldBlocks.calls k _ _ l0 true W hr0 hc0 hp).mono ?_
  rintro e W' ⟨rfl, hd⟩
  have bel : Below W.heap.size W W' := hd
  exact ⟨_, rfl, _, _, _, [], _, [], hW', trodAll_mk1 (shut_bool Try.underlying4 _), (trodAll_cons_mk (Below.trod laidOut (by kernel_rfl) (of_decide_eq_true (by kernel_rfl)) k0 bel lt0) trodAll_mk0), rfl, bel.frame _, fun h => by cases h⟩
theorem over : Rows.holdBlocksRow.holds Try.pinned (OpenSpec.ofChange Rows.holdBlocksSpec) :=
  OpenClaim.holds_of_wide 14 Try.f14 rfl rfl rfl rfl rfl rfl rfl ⟨rfl, rfl, rfl, rfl, rfl⟩ rfl rfl rfl rfl rfl (by kernel_rfl) Try.func14 (by kernel_rfl)
    (of_decide_eq_true (by kernel_rfl)) (by unfold Func.isWrapper; first | (rw [if_pos (by decide +kernel)]; kernel_rfl) | (rw [if_neg (by decide +kernel)]; exact ⟨rfl, rfl⟩))
    (fun os started H enc _ => lifted os started H enc)
theorem proved : Rows.HoldBlocksSaid := over
#print axioms proved
end Go.Proofs.Ytgeplglggcoaiaa.holdBlocks
namespace Go.Proofs.Ytgeplglggcoaiaa
/-- The row, under a short name, for the claim. -/
theorem holdBlocks_holds : Rows.HoldBlocksSaid := holdBlocks.proved
end Go.Proofs.Ytgeplglggcoaiaa
