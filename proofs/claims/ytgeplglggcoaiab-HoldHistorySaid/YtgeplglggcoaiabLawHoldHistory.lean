/- The row of the law examboardlaw54_HoldHistory, out of its pure statement and the walks: whatever the input, the call returns true and the input reads as it did. -/
import Derived.Test.YtgeplglggcoaiabRows
import Derived.Test.YtgeplglggcoaiabHoldx18
import Derived.Test.YtgeplglggcoaiabPureHoldHistory
import Derived.Test.YtgeplglggcoaiabOpens
import Derived.WalkKit
import Derived.ProofKit
import Derived.OpenShut
import Derived.ShutString
import Derived.ChangeOld
import Derived.Below
import Derived.SizedLaws
import Derived.Carry
namespace Go.Proofs.Ytgeplglggcoaiab.holdHistory
open Go.ChangeShapes Go.WideShapes Go.ChangeAt Go.RowKit Go.Proofs.YtgeplglggcoaiabOpens Go.Proofs.Ytgeplglggcoaiab.Hold Go.Proofs.YtgeplglggcoaiabW.PrintWords
open Go.ChangeMaps (open_string shut_string)
set_option linter.unusedVariables false
theorem own : ownKnob Try.prog.godebug = none := by kernel_rfl
theorem laidOut : laidOutB Try.prog = true := by kernel_rfl
theorem o3 : Opens Try.prog 3 (Kd.int .i64) (fun n : Int => (Lit.int .i64 n).wf = true) := opens_int Try.underlying3
theorem o32 : Opens Try.prog 32 k32 (fun x : S32 => (fun y : (Int) × (Int) × (Int) => (fun n : Int => (Lit.int .i64 n).wf = true) y.1 ∧ (fun y : (Int) × (Int) => (fun n : Int => (Lit.int .i64 n).wf = true) y.1 ∧ (fun n : Int => (Lit.int .i64 n).wf = true) y.2) y.2) ((x.f0, x.f1, x.f2))) :=
  opens_struct (g := fun x : S32 => (x.f0, x.f1, x.f2)) (d := (Kd.pair (Kd.int .i64) (Kd.pair (Kd.int .i64) (Kd.int .i64)))) (φ := (fun y : (Int) × (Int) × (Int) => (fun n : Int => (Lit.int .i64 n).wf = true) y.1 ∧ (fun y : (Int) × (Int) => (fun n : Int => (Lit.int .i64 n).wf = true) y.1 ∧ (fun n : Int => (Lit.int .i64 n).wf = true) y.2) y.2)) Try.underlying32 (fun y => ⟨y.1, y.2.1, y.2.2⟩) (fun _ => rfl) (by kernel_rfl) (opens_next (φ := (fun n : Int => (Lit.int .i64 n).wf = true)) (ψ := (fun y : (Int) × (Int) => (fun n : Int => (Lit.int .i64 n).wf = true) y.1 ∧ (fun n : Int => (Lit.int .i64 n).wf = true) y.2)) rfl (by kernel_rfl) rfl o3 (opens_next (φ := (fun n : Int => (Lit.int .i64 n).wf = true)) (ψ := (fun n : Int => (Lit.int .i64 n).wf = true)) rfl (by kernel_rfl) rfl o3 (opens_last (φ := (fun n : Int => (Lit.int .i64 n).wf = true)) rfl (by kernel_rfl) o3)))
theorem o22 : Opens Try.prog 22 (Kd.slice 32 k32) (fun l : List (S32) => l.length ≤ maxLen ∧ l.length * 24 ≤ 140737488351232 ∧ ∀ y ∈ l, (fun x : S32 => (fun y : (Int) × (Int) × (Int) => (fun n : Int => (Lit.int .i64 n).wf = true) y.1 ∧ (fun y : (Int) × (Int) => (fun n : Int => (Lit.int .i64 n).wf = true) y.1 ∧ (fun n : Int => (Lit.int .i64 n).wf = true) y.2) y.2) ((x.f0, x.f1, x.f2))) y) := opens_slice Try.underlying22 (by kernel_rfl) (by kernel_rfl) o32
set_option maxRecDepth 100000 in
set_option maxHeartbeats 1000000 in
theorem lifted (os : Os) (started : os.Started) (H : Type) (enc : TypeId × Value → H) :
    ReturnsInHanded {} Try.checked os 3 .any (Rows.holdHistorySpec.pre6 enc Try.prog Try.f3 Rows.holdHistoryRow.domain false) (Rows.holdHistorySpec.post enc Try.prog Try.f3 false true false false) := by
  refine returnsInHanded_of_change_sized (C := Try.checked) own started (by kernel_rfl) Try.func3
    (ChangeSpec.witness6 (enc := enc) (C := Try.checked) false ⟨#[], #[.slice none 0 0], []⟩ 8 (by kernel_rfl) (by kernel_rfl) (by kernel_rfl) (by kernel_rfl)) ?_
  intro W base args ds gs before hval0 hW hcnd hsz0 _
  have hsz : (DataW.weightsEach Try.prog (Try.f3.params.toList ++ Rows.holdHistorySpec.plain.varTypes Try.prog) (ds ++ gs)).all (· ≤ reachBytes) = true := hsz0
  have hval : ∀ (j : Nat) t v, Try.f3.params[j]? = some t → args[j]? = some v → Value.okWide Try.prog W .any base t v := hval0
  have hW' := hW
  obtain ⟨p, q, hA0, hV, rfl, hfz, hnd⟩ := hW
  have hA : DataW.TrodAll enc Try.prog W 0 (fun _ => true) true Try.f3.params.toList args.toList ds p := hA0
  rw [Try.params3] at hA hval hsz
  obtain ⟨v0, vs0, d0, ds0, p0, q0, hargs, rfl, rfl, h0, r0⟩ := trodAll_cons hA
  obtain ⟨rfl, rfl, rfl⟩ := trodAll_nil r0
  obtain rfl : args = #[v0] := by cases args; simp_all
  obtain ⟨rfl, rfl⟩ := trodVars_none hV
  have k0 := h0
  have lt0 : ∀ x ∈ p0, x.block < W.heap.size := by obtain ⟨m, hm⟩ := k0; exact DataW.trod_lt m _ _ _ hm
  obtain ⟨l0, hK0, hm0, hy0, hw0⟩ := arg_opens o22 hsz (j := 0) (t := 22) rfl rfl h0
  rw [slice_cells Try.underlying22 (hval 0 22 v0 rfl rfl)] at hK0
  obtain ⟨A0, c0, hv0, hc0, hr0⟩ := hK0
  obtain rfl : v0 = .slice A0 l0.length c0 := by simpa using hv0
  obtain ⟨k, hp⟩ := Pure.HoldHistory l0 (hm0) (hy0) (hw0)
  clear hA0 hval0 hsz0 hsz
  refine (Hold.examboardlaw54_HoldHistory.calls k _ _ l0 true W hr0 hc0 hp).mono ?_
  rintro e W' ⟨rfl, hd⟩
  have bel : Below W.heap.size W W' := hd
  exact ⟨_, rfl, _, _, _, [], _, [], hW', trodAll_mk1 (shut_bool Try.underlying4 _), (trodAll_cons_mk (Below.trod laidOut (by kernel_rfl) (of_decide_eq_true (by kernel_rfl)) k0 bel lt0) trodAll_mk0), rfl, bel.frame _, fun h => by cases h⟩
theorem over : Rows.holdHistoryRow.holds Try.pinned (OpenSpec.ofChange Rows.holdHistorySpec) :=
  OpenClaim.holds_of_wide 3 Try.f3 rfl rfl rfl rfl rfl rfl rfl ⟨rfl, rfl, rfl, rfl, rfl⟩ rfl rfl rfl rfl rfl (by kernel_rfl) Try.func3 (by kernel_rfl)
    (of_decide_eq_true (by kernel_rfl)) (by unfold Func.isWrapper; first | (rw [if_pos (by decide +kernel)]; kernel_rfl) | (rw [if_neg (by decide +kernel)]; exact ⟨rfl, rfl⟩))
    (fun os started H enc _ => lifted os started H enc)
theorem proved : Rows.HoldHistorySaid := over
#print axioms proved
end Go.Proofs.Ytgeplglggcoaiab.holdHistory
namespace Go.Proofs.Ytgeplglggcoaiab
/-- The row, under a short name, for the claim. -/
theorem holdHistory_holds : Rows.HoldHistorySaid := holdHistory.proved
end Go.Proofs.Ytgeplglggcoaiab
