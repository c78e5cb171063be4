/- The row of the law examboardlaw17_AssetRights, out of its pure statement and the walks: whatever the input, the call returns true and the input reads as it did. -/
import Derived.Test.YtgeplglggcoaiaaRows
import Derived.Test.YtgeplglggcoaiaaAssetx26
import Derived.Test.YtgeplglggcoaiaaPureAssetRights
import Derived.Test.YtgeplglggcoaiaaOpens
import Derived.WalkKit
import Derived.ProofKit
import Derived.OpenShut
import Derived.ShutString
import Derived.ChangeOld
import Derived.Below
import Derived.SizedLaws
import Derived.Carry
namespace Go.Proofs.Ytgeplglggcoaiaa.assetRights
open Go.ChangeShapes Go.WideShapes Go.ChangeAt Go.RowKit Go.Proofs.YtgeplglggcoaiaaOpens Go.Proofs.Ytgeplglggcoaiaa.Asset Go.Proofs.YtgeplglggcoaiaaW.PrintWords
open Go.ChangeMaps (open_string shut_string)
set_option linter.unusedVariables false
theorem own : ownKnob Try.prog.godebug = none := by kernel_rfl
theorem laidOut : laidOutB Try.prog = true := by kernel_rfl
theorem o3 : Opens Try.prog 3 (Kd.int .i64) (fun n : Int => (Lit.int .i64 n).wf = true) := opens_int Try.underlying3
theorem o9 : Opens Try.prog 9 Kd.string (fun s : ByteArray => s.size ≤ 140737488351232) := opens_string Try.underlying9
set_option maxRecDepth 100000 in
set_option maxHeartbeats 1000000 in
theorem lifted (os : Os) (started : os.Started) (H : Type) (enc : TypeId × Value → H) :
    ReturnsInHanded {} Try.checked os 11 .any (Rows.assetRightsSpec.pre6 enc Try.prog Try.f11 Rows.assetRightsRow.domain false) (Rows.assetRightsSpec.post enc Try.prog Try.f11 false true false false) := by
  refine returnsInHanded_of_change_sized (C := Try.checked) own started (by kernel_rfl) Try.func11
    (ChangeSpec.witness6 (enc := enc) (C := Try.checked) false ⟨#[], #[.agg #[.int .i64 0, .int .i64 0, .string ByteArray.empty, .int .i64 0, .int .i64 0], .int .i64 0, .int .i64 0, .int .i64 0], []⟩ 8 (by kernel_rfl) (by kernel_rfl) (by kernel_rfl) (by kernel_rfl)) ?_
  intro W base args ds gs before hval0 hW hcnd hsz0 _
  have hsz : (DataW.weightsEach Try.prog (Try.f11.params.toList ++ Rows.assetRightsSpec.plain.varTypes Try.prog) (ds ++ gs)).all (· ≤ reachBytes) = true := hsz0
  have hval : ∀ (j : Nat) t v, Try.f11.params[j]? = some t → args[j]? = some v → Value.okWide Try.prog W .any base t v := hval0
  have hW' := hW
  obtain ⟨p, q, hA0, hV, rfl, hfz, hnd⟩ := hW
  have hA : DataW.TrodAll enc Try.prog W 0 (fun _ => true) true Try.f11.params.toList args.toList ds p := hA0
  rw [Try.params11] at hA hval hsz
  obtain ⟨v0, vs0, d0, ds0, p0, q0, hargs, rfl, rfl, h0, r0⟩ := trodAll_cons hA
  obtain ⟨v1, vs1, d1, ds1, p1, q1, rfl, rfl, rfl, h1, r1⟩ := trodAll_cons r0
  obtain ⟨v2, vs2, d2, ds2, p2, q2, rfl, rfl, rfl, h2, r2⟩ := trodAll_cons r1
  obtain ⟨v3, vs3, d3, ds3, p3, q3, rfl, rfl, rfl, h3, r3⟩ := trodAll_cons r2
  obtain ⟨rfl, rfl, rfl⟩ := trodAll_nil r3
  obtain rfl : args = #[v0, v1, v2, v3] := by cases args; simp_all
  obtain ⟨rfl, rfl⟩ := trodVars_none hV
  have k0 := h0
  have lt0 : ∀ x ∈ p0, x.block < W.heap.size := by obtain ⟨m, hm⟩ := k0; exact DataW.trod_lt m _ _ _ hm
  have hag0 := agg_of Try.underlying39 (hval 0 39 v0 rfl rfl)
  obtain ⟨y0, hK0, hw0⟩ := arg_seq (d := (Kd.pair (Kd.int .i64) (Kd.pair (Kd.int .i64) (Kd.pair Kd.string (Kd.pair (Kd.int .i64) (Kd.int .i64)))))) (φ := (fun y : (Int) × (Int) × (ByteArray) × (Int) × (Int) => (fun n : Int => (Lit.int .i64 n).wf = true) y.1 ∧ (fun y : (Int) × (ByteArray) × (Int) × (Int) => (fun n : Int => (Lit.int .i64 n).wf = true) y.1 ∧ (fun y : (ByteArray) × (Int) × (Int) => (fun s : ByteArray => s.size ≤ 140737488351232) y.1 ∧ (fun y : (Int) × (Int) => (fun n : Int => (Lit.int .i64 n).wf = true) y.1 ∧ (fun n : Int => (Lit.int .i64 n).wf = true) y.2) y.2) y.2) y.2)) Try.underlying39 (by kernel_rfl) (opens_next (φ := (fun n : Int => (Lit.int .i64 n).wf = true)) (ψ := (fun y : (Int) × (ByteArray) × (Int) × (Int) => (fun n : Int => (Lit.int .i64 n).wf = true) y.1 ∧ (fun y : (ByteArray) × (Int) × (Int) => (fun s : ByteArray => s.size ≤ 140737488351232) y.1 ∧ (fun y : (Int) × (Int) => (fun n : Int => (Lit.int .i64 n).wf = true) y.1 ∧ (fun n : Int => (Lit.int .i64 n).wf = true) y.2) y.2) y.2)) rfl (by kernel_rfl) rfl o3 (opens_next (φ := (fun n : Int => (Lit.int .i64 n).wf = true)) (ψ := (fun y : (ByteArray) × (Int) × (Int) => (fun s : ByteArray => s.size ≤ 140737488351232) y.1 ∧ (fun y : (Int) × (Int) => (fun n : Int => (Lit.int .i64 n).wf = true) y.1 ∧ (fun n : Int => (Lit.int .i64 n).wf = true) y.2) y.2)) rfl (by kernel_rfl) rfl o3 (opens_next (φ := (fun s : ByteArray => s.size ≤ 140737488351232)) (ψ := (fun y : (Int) × (Int) => (fun n : Int => (Lit.int .i64 n).wf = true) y.1 ∧ (fun n : Int => (Lit.int .i64 n).wf = true) y.2)) rfl (by kernel_rfl) rfl o9 (opens_next (φ := (fun n : Int => (Lit.int .i64 n).wf = true)) (ψ := (fun n : Int => (Lit.int .i64 n).wf = true)) rfl (by kernel_rfl) rfl o3 (opens_last (φ := (fun n : Int => (Lit.int .i64 n).wf = true)) rfl (by kernel_rfl) o3))))) hsz (j := 0) (t := 39) rfl rfl h0
  obtain ⟨a0_0, a0_1, a0_2, a0_3, a0_4⟩ := y0
  obtain ⟨_, _, e0, rfl, ⟨_, _, rfl, rfl, ⟨_, _, rfl, rfl, ⟨_, _, rfl, rfl, rfl⟩⟩⟩⟩ := hK0
  rw [e0] at hag0
  replace hag0 : v0 = .agg #[.int .i64 a0_0, .int .i64 a0_1, .string a0_2, .int .i64 a0_3, .int .i64 a0_4] := hag0
  subst hag0
  obtain ⟨a1, rfl, rfl, rfl, w1⟩ := open_int Try.underlying3 (hval 1 3 v1 rfl rfl) h1
  obtain ⟨a2, rfl, rfl, rfl, w2⟩ := open_int Try.underlying3 (hval 2 3 v2 rfl rfl) h2
  obtain ⟨a3, rfl, rfl, rfl, w3⟩ := open_int Try.underlying3 (hval 3 3 v3 rfl rfl) h3
  obtain ⟨k, hp⟩ := Pure.AssetRights a0_0 a0_1 a0_2 a0_3 a0_4 a1 a2 a3 (hw0.1) (hw0.2.1) (hw0.2.2.1) (hw0.2.2.2.1) (hw0.2.2.2.2) (w1) (w2) (w3)
  clear hA0 hval0 hsz0 hsz
  refine (Asset.examboardlaw17_AssetRights.calls k a0_0 a0_1 a0_2 a0_3 a0_4 a1 a2 a3 true W  hp).mono ?_
  rintro e W' ⟨rfl, hd⟩
  have bel : Below W.heap.size W W' := hd
  exact ⟨_, rfl, _, _, _, [], _, [], hW', trodAll_mk1 (shut_bool Try.underlying4 _), (trodAll_cons_mk (Below.trod laidOut (by kernel_rfl) (of_decide_eq_true (by kernel_rfl)) k0 bel lt0) (trodAll_cons_mk (shut_int Try.underlying3 w1) (trodAll_cons_mk (shut_int Try.underlying3 w2) (trodAll_cons_mk (shut_int Try.underlying3 w3) trodAll_mk0)))), rfl, bel.frame _, fun h => by cases h⟩
theorem over : Rows.assetRightsRow.holds Try.pinned (OpenSpec.ofChange Rows.assetRightsSpec) :=
  OpenClaim.holds_of_wide 11 Try.f11 rfl rfl rfl rfl rfl rfl rfl ⟨rfl, rfl, rfl, rfl, rfl⟩ rfl rfl rfl rfl rfl (by kernel_rfl) Try.func11 (by kernel_rfl)
    (of_decide_eq_true (by kernel_rfl)) (by unfold Func.isWrapper; first | (rw [if_pos (by decide +kernel)]; kernel_rfl) | (rw [if_neg (by decide +kernel)]; exact ⟨rfl, rfl⟩))
    (fun os started H enc _ => lifted os started H enc)
theorem proved : Rows.AssetRightsSaid := over
#print axioms proved
end Go.Proofs.Ytgeplglggcoaiaa.assetRights
namespace Go.Proofs.Ytgeplglggcoaiaa
/-- The row, under a short name, for the claim. -/
theorem assetRights_holds : Rows.AssetRightsSaid := assetRights.proved
end Go.Proofs.Ytgeplglggcoaiaa
