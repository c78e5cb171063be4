/- The row of the law examboardlaw17_AssetRules, out of its pure statement and the walks: whatever the input, the call returns true and the input reads as it did. -/
import Derived.Test.YtgeplglggcoaiaaRows
import Derived.Test.YtgeplglggcoaiaaAssetx15
import Derived.Test.YtgeplglggcoaiaaPureAssetRules
import Derived.Test.YtgeplglggcoaiaaOpens
import Derived.WalkKit
import Derived.ProofKit
import Derived.OpenShut
import Derived.ShutString
import Derived.ChangeOld
import Derived.Below
import Derived.SizedLaws
import Derived.Carry
namespace Go.Proofs.Ytgeplglggcoaiaa.assetRules
open Go.ChangeShapes Go.WideShapes Go.ChangeAt Go.RowKit Go.Proofs.YtgeplglggcoaiaaOpens Go.Proofs.Ytgeplglggcoaiaa.Asset Go.Proofs.YtgeplglggcoaiaaW.PrintWords
open Go.ChangeMaps (open_string shut_string)
set_option linter.unusedVariables false
theorem own : ownKnob Try.prog.godebug = none := by kernel_rfl
theorem laidOut : laidOutB Try.prog = true := by kernel_rfl
theorem o3 : Opens Try.prog 3 (Kd.int .i64) (fun n : Int => (Lit.int .i64 n).wf = true) := opens_int Try.underlying3
theorem o9 : Opens Try.prog 9 Kd.string (fun s : ByteArray => s.size ≤ 140737488351232) := opens_string Try.underlying9
set_option maxRecDepth 100000 in
set_option maxHeartbeats 1000000 in
theorem lifted (os : Os) (started : os.Started) (H : Type) (enc : TypeId × Value → H) :
    ReturnsInHanded {} Try.checked os 5 .any (Rows.assetRulesSpec.pre6 enc Try.prog Try.f5 Rows.assetRulesRow.domain false) (Rows.assetRulesSpec.post enc Try.prog Try.f5 false true false false) := by
  refine returnsInHanded_of_change_sized (C := Try.checked) own started (by kernel_rfl) Try.func5
    (ChangeSpec.witness6 (enc := enc) (C := Try.checked) false ⟨#[], #[.agg #[.int .i64 0, .int .i64 0, .string ByteArray.empty, .int .i64 0, .int .i64 0], .int .i64 0], []⟩ 8 (by kernel_rfl) (by kernel_rfl) (by kernel_rfl) (by kernel_rfl)) ?_
  intro W base args ds gs before hval0 hW hcnd hsz0 _
  have hsz : (DataW.weightsEach Try.prog (Try.f5.params.toList ++ Rows.assetRulesSpec.plain.varTypes Try.prog) (ds ++ gs)).all (· ≤ reachBytes) = true := hsz0
  have hval : ∀ (j : Nat) t v, Try.f5.params[j]? = some t → args[j]? = some v → Value.okWide Try.prog W .any base t v := hval0
  have hW' := hW
  obtain ⟨p, q, hA0, hV, rfl, hfz, hnd⟩ := hW
  have hA : DataW.TrodAll enc Try.prog W 0 (fun _ => true) true Try.f5.params.toList args.toList ds p := hA0
  rw [Try.params5] at hA hval hsz
  obtain ⟨v0, vs0, d0, ds0, p0, q0, hargs, rfl, rfl, h0, r0⟩ := trodAll_cons hA
  obtain ⟨v1, vs1, d1, ds1, p1, q1, rfl, rfl, rfl, h1, r1⟩ := trodAll_cons r0
  obtain ⟨rfl, rfl, rfl⟩ := trodAll_nil r1
  obtain rfl : args = #[v0, v1] := by cases args; simp_all
  obtain ⟨rfl, rfl⟩ := trodVars_none hV
  have k0 := h0
  have lt0 : ∀ x ∈ p0, x.block < W.heap.size := by obtain ⟨m, hm⟩ := k0; exact DataW.trod_lt m _ _ _ hm
  have hag0 := agg_of Try.underlying39 (hval 0 39 v0 rfl rfl)
  obtain ⟨y0, hK0, hw0⟩ := arg_seq (d := (Kd.pair (Kd.int .i64) (Kd.pair (Kd.int .i64) (Kd.pair Kd.string (Kd.pair (Kd.int .i64) (Kd.int .i64)))))) (φ := (fun y : (Int) × (Int) × (ByteArray) × (Int) × (Int) => (fun n : Int => (Lit.int .i64 n).wf = true) y.1 ∧ (fun y : (Int) × (ByteArray) × (Int) × (Int) => (fun n : Int => (Lit.int .i64 n).wf = true) y.1 ∧ (fun y : (ByteArray) × (Int) × (Int) => (fun s : ByteArray => s.size ≤ 140737488351232) y.1 ∧ (fun y : (Int) × (Int) => (fun n : Int => (Lit.int .i64 n).wf = true) y.1 ∧ (fun n : Int => (Lit.int .i64 n).wf = true) y.2) y.2) y.2) y.2)) Try.underlying39 (by kernel_rfl) (opens_next (φ := (fun n : Int => (Lit.int .i64 n).wf = true)) (ψ := (fun y : (Int) × (ByteArray) × (Int) × (Int) => (fun n : Int => (Lit.int .i64 n).wf = true) y.1 ∧ (fun y : (ByteArray) × (Int) × (Int) => (fun s : ByteArray => s.size ≤ 140737488351232) y.1 ∧ (fun y : (Int) × (Int) => (fun n : Int => (Lit.int .i64 n).wf = true) y.1 ∧ (fun n : Int => (Lit.int .i64 n).wf = true) y.2) y.2) y.2)) rfl (by kernel_rfl) rfl o3 (opens_next (φ := (fun n : Int => (Lit.int .i64 n).wf = true)) (ψ := (fun y : (ByteArray) × (Int) × (Int) => (fun s : ByteArray => s.size ≤ 140737488351232) y.1 ∧ (fun y : (Int) × (Int) => (fun n : Int => (Lit.int .i64 n).wf = true) y.1 ∧ (fun n : Int => (Lit.int .i64 n).wf = true) y.2) y.2)) rfl (by kernel_rfl) rfl o3 (opens_next (φ := (fun s : ByteArray => s.size ≤ 140737488351232)) (ψ := (fun y : (Int) × (Int) => (fun n : Int => (Lit.int .i64 n).wf = true) y.1 ∧ (fun n : Int => (Lit.int .i64 n).wf = true) y.2)) rfl (by kernel_rfl) rfl o9 (opens_next (φ := (fun n : Int => (Lit.int .i64 n).wf = true)) (ψ := (fun n : Int => (Lit.int .i64 n).wf = true)) rfl (by kernel_rfl) rfl o3 (opens_last (φ := (fun n : Int => (Lit.int .i64 n).wf = true)) rfl (by kernel_rfl) o3))))) hsz (j := 0) (t := 39) rfl rfl h0
  obtain ⟨a0_0, a0_1, a0_2, a0_3, a0_4⟩ := y0
  obtain ⟨_, _, e0, rfl, ⟨_, _, rfl, rfl, ⟨_, _, rfl, rfl, ⟨_, _, rfl, rfl, rfl⟩⟩⟩⟩ := hK0
  rw [e0] at hag0
  replace hag0 : v0 = .agg #[.int .i64 a0_0, .int .i64 a0_1, .string a0_2, .int .i64 a0_3, .int .i64 a0_4] := hag0
  subst hag0
  obtain ⟨a1, rfl, rfl, rfl, w1⟩ := open_int Try.underlying3 (hval 1 3 v1 rfl rfl) h1
  obtain ⟨k, hp⟩ := Pure.AssetRules a0_0 a0_1 a0_2 a0_3 a0_4 a1 (hw0.1) (hw0.2.1) (hw0.2.2.1) (hw0.2.2.2.1) (hw0.2.2.2.2) (w1)
  clear hA0 hval0 hsz0 hsz
  refine (Asset.examboardlaw17_AssetRules.calls k a0_0 a0_1 a0_2 a0_3 a0_4 a1 true W  hp).mono ?_
  rintro e W' ⟨rfl, hd⟩
  have bel : Below W.heap.size W W' := hd
  exact ⟨_, rfl, _, _, _, [], _, [], hW', trodAll_mk1 (shut_bool Try.underlying4 _), (trodAll_cons_mk (Below.trod laidOut (by kernel_rfl) (of_decide_eq_true (by kernel_rfl)) k0 bel lt0) (trodAll_cons_mk (shut_int Try.underlying3 w1) trodAll_mk0)), rfl, bel.frame _, fun h => by cases h⟩
theorem over : Rows.assetRulesRow.holds Try.pinned (OpenSpec.ofChange Rows.assetRulesSpec) :=
  OpenClaim.holds_of_wide 5 Try.f5 rfl rfl rfl rfl rfl rfl rfl ⟨rfl, rfl, rfl, rfl, rfl⟩ rfl rfl rfl rfl rfl (by kernel_rfl) Try.func5 (by kernel_rfl)
    (of_decide_eq_true (by kernel_rfl)) (by unfold Func.isWrapper; first | (rw [if_pos (by decide +kernel)]; kernel_rfl) | (rw [if_neg (by decide +kernel)]; exact ⟨rfl, rfl⟩))
    (fun os started H enc _ => lifted os started H enc)
theorem proved : Rows.AssetRulesSaid := over
#print axioms proved
end Go.Proofs.Ytgeplglggcoaiaa.assetRules
namespace Go.Proofs.Ytgeplglggcoaiaa
/-- The row, under a short name, for the claim. -/
theorem assetRules_holds : Rows.AssetRulesSaid := assetRules.proved
end Go.Proofs.Ytgeplglggcoaiaa
