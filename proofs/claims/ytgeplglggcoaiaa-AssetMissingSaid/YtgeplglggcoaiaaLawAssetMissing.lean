/- The row of the law examboardlaw17_AssetMissing, out of its pure statement and the walks: whatever the input, the call returns true and the input reads as it did. -/
import Derived.Test.YtgeplglggcoaiaaRows
import Derived.Test.YtgeplglggcoaiaaAssetx25
import Derived.Test.YtgeplglggcoaiaaPureAssetMissing
import Derived.Test.YtgeplglggcoaiaaOpens
import Derived.WalkKit
import Derived.ProofKit
import Derived.OpenShut
import Derived.ShutString
import Derived.ChangeOld
import Derived.Below
import Derived.SizedLaws
import Derived.Carry
namespace Go.Proofs.Ytgeplglggcoaiaa.assetMissing
open Go.ChangeShapes Go.WideShapes Go.ChangeAt Go.RowKit Go.Proofs.YtgeplglggcoaiaaOpens Go.Proofs.Ytgeplglggcoaiaa.Asset Go.Proofs.YtgeplglggcoaiaaW.PrintWords
open Go.ChangeMaps (open_string shut_string)
set_option linter.unusedVariables false
theorem own : ownKnob Try.prog.godebug = none := by kernel_rfl
theorem laidOut : laidOutB Try.prog = true := by kernel_rfl
theorem o3 : Opens Try.prog 3 (Kd.int .i64) (fun n : Int => (Lit.int .i64 n).wf = true) := opens_int Try.underlying3
theorem o34 : Opens Try.prog 34 (Kd.slice 3 (Kd.int .i64)) (fun l : List Int => l.length ≤ maxLen ∧ l.length * 8 ≤ 140737488351232 ∧ ∀ y ∈ l, (fun n : Int => (Lit.int .i64 n).wf = true) y) := opens_slice Try.underlying34 (by kernel_rfl) (by kernel_rfl) o3
theorem o9 : Opens Try.prog 9 Kd.string (fun s : ByteArray => s.size ≤ 140737488351232) := opens_string Try.underlying9
theorem o39 : Opens Try.prog 39 k39 (fun x : S39 => (fun y : (Int) × (Int) × (ByteArray) × (Int) × (Int) => (fun n : Int => (Lit.int .i64 n).wf = true) y.1 ∧ (fun y : (Int) × (ByteArray) × (Int) × (Int) => (fun n : Int => (Lit.int .i64 n).wf = true) y.1 ∧ (fun y : (ByteArray) × (Int) × (Int) => (fun s : ByteArray => s.size ≤ 140737488351232) y.1 ∧ (fun y : (Int) × (Int) => (fun n : Int => (Lit.int .i64 n).wf = true) y.1 ∧ (fun n : Int => (Lit.int .i64 n).wf = true) y.2) y.2) y.2) y.2) ((x.f0, x.f1, x.f2, x.f3, x.f4))) :=
  opens_struct (g := fun x : S39 => (x.f0, x.f1, x.f2, x.f3, x.f4)) (d := (Kd.pair (Kd.int .i64) (Kd.pair (Kd.int .i64) (Kd.pair Kd.string (Kd.pair (Kd.int .i64) (Kd.int .i64)))))) (φ := (fun y : (Int) × (Int) × (ByteArray) × (Int) × (Int) => (fun n : Int => (Lit.int .i64 n).wf = true) y.1 ∧ (fun y : (Int) × (ByteArray) × (Int) × (Int) => (fun n : Int => (Lit.int .i64 n).wf = true) y.1 ∧ (fun y : (ByteArray) × (Int) × (Int) => (fun s : ByteArray => s.size ≤ 140737488351232) y.1 ∧ (fun y : (Int) × (Int) => (fun n : Int => (Lit.int .i64 n).wf = true) y.1 ∧ (fun n : Int => (Lit.int .i64 n).wf = true) y.2) y.2) y.2) y.2)) Try.underlying39 (fun y => ⟨y.1, y.2.1, y.2.2.1, y.2.2.2.1, y.2.2.2.2⟩) (fun _ => rfl) (by kernel_rfl) (opens_next (φ := (fun n : Int => (Lit.int .i64 n).wf = true)) (ψ := (fun y : (Int) × (ByteArray) × (Int) × (Int) => (fun n : Int => (Lit.int .i64 n).wf = true) y.1 ∧ (fun y : (ByteArray) × (Int) × (Int) => (fun s : ByteArray => s.size ≤ 140737488351232) y.1 ∧ (fun y : (Int) × (Int) => (fun n : Int => (Lit.int .i64 n).wf = true) y.1 ∧ (fun n : Int => (Lit.int .i64 n).wf = true) y.2) y.2) y.2)) rfl (by kernel_rfl) rfl o3 (opens_next (φ := (fun n : Int => (Lit.int .i64 n).wf = true)) (ψ := (fun y : (ByteArray) × (Int) × (Int) => (fun s : ByteArray => s.size ≤ 140737488351232) y.1 ∧ (fun y : (Int) × (Int) => (fun n : Int => (Lit.int .i64 n).wf = true) y.1 ∧ (fun n : Int => (Lit.int .i64 n).wf = true) y.2) y.2)) rfl (by kernel_rfl) rfl o3 (opens_next (φ := (fun s : ByteArray => s.size ≤ 140737488351232)) (ψ := (fun y : (Int) × (Int) => (fun n : Int => (Lit.int .i64 n).wf = true) y.1 ∧ (fun n : Int => (Lit.int .i64 n).wf = true) y.2)) rfl (by kernel_rfl) rfl o9 (opens_next (φ := (fun n : Int => (Lit.int .i64 n).wf = true)) (ψ := (fun n : Int => (Lit.int .i64 n).wf = true)) rfl (by kernel_rfl) rfl o3 (opens_last (φ := (fun n : Int => (Lit.int .i64 n).wf = true)) rfl (by kernel_rfl) o3)))))
theorem o44 : Opens Try.prog 44 (Kd.slice 39 k39) (fun l : List (S39) => l.length ≤ maxLen ∧ l.length * 48 ≤ 140737488351232 ∧ ∀ y ∈ l, (fun x : S39 => (fun y : (Int) × (Int) × (ByteArray) × (Int) × (Int) => (fun n : Int => (Lit.int .i64 n).wf = true) y.1 ∧ (fun y : (Int) × (ByteArray) × (Int) × (Int) => (fun n : Int => (Lit.int .i64 n).wf = true) y.1 ∧ (fun y : (ByteArray) × (Int) × (Int) => (fun s : ByteArray => s.size ≤ 140737488351232) y.1 ∧ (fun y : (Int) × (Int) => (fun n : Int => (Lit.int .i64 n).wf = true) y.1 ∧ (fun n : Int => (Lit.int .i64 n).wf = true) y.2) y.2) y.2) y.2) ((x.f0, x.f1, x.f2, x.f3, x.f4))) y) := opens_slice Try.underlying44 (by kernel_rfl) (by kernel_rfl) o39
set_option maxRecDepth 100000 in
set_option maxHeartbeats 1000000 in
theorem lifted (os : Os) (started : os.Started) (H : Type) (enc : TypeId × Value → H) :
    ReturnsInHanded {} Try.checked os 10 .any (Rows.assetMissingSpec.pre6 enc Try.prog Try.f10 Rows.assetMissingRow.domain false) (Rows.assetMissingSpec.post enc Try.prog Try.f10 false true false false) := by
  refine returnsInHanded_of_change_sized (C := Try.checked) own started (by kernel_rfl) Try.func10
    (ChangeSpec.witness6 (enc := enc) (C := Try.checked) false ⟨#[], #[.slice none 0 0, .slice none 0 0, .slice none 0 0, .int .i64 0], []⟩ 8 (by kernel_rfl) (by kernel_rfl) (by kernel_rfl) (by kernel_rfl)) ?_
  intro W base args ds gs before hval0 hW hcnd hsz0 _
  have hsz : (DataW.weightsEach Try.prog (Try.f10.params.toList ++ Rows.assetMissingSpec.plain.varTypes Try.prog) (ds ++ gs)).all (· ≤ reachBytes) = true := hsz0
  have hval : ∀ (j : Nat) t v, Try.f10.params[j]? = some t → args[j]? = some v → Value.okWide Try.prog W .any base t v := hval0
  have hW' := hW
  obtain ⟨p, q, hA0, hV, rfl, hfz, hnd⟩ := hW
  have hA : DataW.TrodAll enc Try.prog W 0 (fun _ => true) true Try.f10.params.toList args.toList ds p := hA0
  rw [Try.params10] at hA hval hsz
  obtain ⟨v0, vs0, d0, ds0, p0, q0, hargs, rfl, rfl, h0, r0⟩ := trodAll_cons hA
  obtain ⟨v1, vs1, d1, ds1, p1, q1, rfl, rfl, rfl, h1, r1⟩ := trodAll_cons r0
  obtain ⟨v2, vs2, d2, ds2, p2, q2, rfl, rfl, rfl, h2, r2⟩ := trodAll_cons r1
  obtain ⟨v3, vs3, d3, ds3, p3, q3, rfl, rfl, rfl, h3, r3⟩ := trodAll_cons r2
  obtain ⟨rfl, rfl, rfl⟩ := trodAll_nil r3
  obtain rfl : args = #[v0, v1, v2, v3] := by cases args; simp_all
  obtain ⟨rfl, rfl⟩ := trodVars_none hV
  have k0 := h0
  have lt0 : ∀ x ∈ p0, x.block < W.heap.size := by obtain ⟨m, hm⟩ := k0; exact DataW.trod_lt m _ _ _ hm
  obtain ⟨l0, hK0, hm0, hy0, hw0⟩ := arg_opens o34 hsz (j := 0) (t := 34) rfl rfl h0
  rw [slice_cells Try.underlying34 (hval 0 34 v0 rfl rfl)] at hK0
  obtain ⟨A0, c0, hv0, hc0, hr0⟩ := hK0
  obtain rfl : v0 = .slice A0 l0.length c0 := by simpa using hv0
  have k1 := h1
  have lt1 : ∀ x ∈ p1, x.block < W.heap.size := by obtain ⟨m, hm⟩ := k1; exact DataW.trod_lt m _ _ _ hm
  obtain ⟨l1, hK1, hm1, hy1, hw1⟩ := arg_opens o34 hsz (j := 1) (t := 34) rfl rfl h1
  rw [slice_cells Try.underlying34 (hval 1 34 v1 rfl rfl)] at hK1
  obtain ⟨A1, c1, hv1, hc1, hr1⟩ := hK1
  obtain rfl : v1 = .slice A1 l1.length c1 := by simpa using hv1
  have k2 := h2
  have lt2 : ∀ x ∈ p2, x.block < W.heap.size := by obtain ⟨m, hm⟩ := k2; exact DataW.trod_lt m _ _ _ hm
  obtain ⟨l2, hK2, hm2, hy2, hw2⟩ := arg_opens o44 hsz (j := 2) (t := 44) rfl rfl h2
  rw [slice_cells Try.underlying44 (hval 2 44 v2 rfl rfl)] at hK2
  obtain ⟨A2, c2, hv2, hc2, hr2⟩ := hK2
  obtain rfl : v2 = .slice A2 l2.length c2 := by simpa using hv2
  obtain ⟨a3, rfl, rfl, rfl, w3⟩ := open_int Try.underlying3 (hval 3 3 v3 rfl rfl) h3
  obtain ⟨k, hp⟩ := Pure.AssetMissing l0 l1 l2 a3 (hm0) (hy0) (hw0) (hm1) (hy1) (hw1) (hm2) (hy2) (hw2) (w3)
  clear hA0 hval0 hsz0 hsz
  refine (Asset.examboardlaw17_AssetMissing.calls k _ _ l0 _ _ l1 _ _ l2 a3 true W hr0 hc0 hr1 hc1 hr2 hc2 hp).mono ?_
  rintro e W' ⟨rfl, hd⟩
  have bel : Below W.heap.size W W' := hd
  exact ⟨_, rfl, _, _, _, [], _, [], hW', trodAll_mk1 (shut_bool Try.underlying4 _), (trodAll_cons_mk (Below.trod laidOut (by kernel_rfl) (of_decide_eq_true (by kernel_rfl)) k0 bel lt0) (trodAll_cons_mk (Below.trod laidOut (by kernel_rfl) (of_decide_eq_true (by kernel_rfl)) k1 bel lt1) (trodAll_cons_mk (Below.trod laidOut (by kernel_rfl) (of_decide_eq_true (by kernel_rfl)) k2 bel lt2) (trodAll_cons_mk (shut_int Try.underlying3 w3) trodAll_mk0)))), rfl, bel.frame _, fun h => by cases h⟩
theorem over : Rows.assetMissingRow.holds Try.pinned (OpenSpec.ofChange Rows.assetMissingSpec) :=
  OpenClaim.holds_of_wide 10 Try.f10 rfl rfl rfl rfl rfl rfl rfl ⟨rfl, rfl, rfl, rfl, rfl⟩ rfl rfl rfl rfl rfl (by kernel_rfl) Try.func10 (by kernel_rfl)
    (of_decide_eq_true (by kernel_rfl)) (by unfold Func.isWrapper; first | (rw [if_pos (by decide +kernel)]; kernel_rfl) | (rw [if_neg (by decide +kernel)]; exact ⟨rfl, rfl⟩))
    (fun os started H enc _ => lifted os started H enc)
theorem proved : Rows.AssetMissingSaid := over
#print axioms proved
end Go.Proofs.Ytgeplglggcoaiaa.assetMissing
namespace Go.Proofs.Ytgeplglggcoaiaa
/-- The row, under a short name, for the claim. -/
theorem assetMissing_holds : Rows.AssetMissingSaid := assetMissing.proved
end Go.Proofs.Ytgeplglggcoaiaa
