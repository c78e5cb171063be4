/- The row of the law examboardlaw54_HoldPublishes, out of its pure statement and the walks: whatever the input, the call returns true and the input reads as it did. -/
import Derived.Test.YtgeplglggcoaiaaRows
import Derived.Test.YtgeplglggcoaiaaHoldx34
import Derived.Test.YtgeplglggcoaiaaPureHoldPublishes
import Derived.Test.YtgeplglggcoaiaaOpens
import Derived.WalkKit
import Derived.ProofKit
import Derived.OpenShut
import Derived.ShutString
import Derived.ChangeOld
import Derived.Below
import Derived.SizedLaws
import Derived.Carry
namespace Go.Proofs.Ytgeplglggcoaiaa.holdPublishes
open Go.ChangeShapes Go.WideShapes Go.ChangeAt Go.RowKit Go.Proofs.YtgeplglggcoaiaaOpens Go.Proofs.Ytgeplglggcoaiaa.Hold Go.Proofs.YtgeplglggcoaiaaW.PrintWords
open Go.ChangeMaps (open_string shut_string)
set_option linter.unusedVariables false
theorem own : ownKnob Try.prog.godebug = none := by kernel_rfl
theorem laidOut : laidOutB Try.prog = true := by kernel_rfl
theorem o3 : Opens Try.prog 3 (Kd.int .i64) (fun n : Int => (Lit.int .i64 n).wf = true) := opens_int Try.underlying3
theorem o30 : Opens Try.prog 30 k30 (fun x : S30 => (fun y : (Int) × (Int) × (Int) => (fun n : Int => (Lit.int .i64 n).wf = true) y.1 ∧ (fun y : (Int) × (Int) => (fun n : Int => (Lit.int .i64 n).wf = true) y.1 ∧ (fun n : Int => (Lit.int .i64 n).wf = true) y.2) y.2) ((x.f0, x.f1, x.f2))) :=
  opens_struct (g := fun x : S30 => (x.f0, x.f1, x.f2)) (d := (Kd.pair (Kd.int .i64) (Kd.pair (Kd.int .i64) (Kd.int .i64)))) (φ := (fun y : (Int) × (Int) × (Int) => (fun n : Int => (Lit.int .i64 n).wf = true) y.1 ∧ (fun y : (Int) × (Int) => (fun n : Int => (Lit.int .i64 n).wf = true) y.1 ∧ (fun n : Int => (Lit.int .i64 n).wf = true) y.2) y.2)) Try.underlying30 (fun y => ⟨y.1, y.2.1, y.2.2⟩) (fun _ => rfl) (by kernel_rfl) (opens_next (φ := (fun n : Int => (Lit.int .i64 n).wf = true)) (ψ := (fun y : (Int) × (Int) => (fun n : Int => (Lit.int .i64 n).wf = true) y.1 ∧ (fun n : Int => (Lit.int .i64 n).wf = true) y.2)) rfl (by kernel_rfl) rfl o3 (opens_next (φ := (fun n : Int => (Lit.int .i64 n).wf = true)) (ψ := (fun n : Int => (Lit.int .i64 n).wf = true)) rfl (by kernel_rfl) rfl o3 (opens_last (φ := (fun n : Int => (Lit.int .i64 n).wf = true)) rfl (by kernel_rfl) o3)))
theorem o22 : Opens Try.prog 22 (Kd.slice 30 k30) (fun l : List (S30) => l.length ≤ maxLen ∧ l.length * 24 ≤ 140737488351232 ∧ ∀ y ∈ l, (fun x : S30 => (fun y : (Int) × (Int) × (Int) => (fun n : Int => (Lit.int .i64 n).wf = true) y.1 ∧ (fun y : (Int) × (Int) => (fun n : Int => (Lit.int .i64 n).wf = true) y.1 ∧ (fun n : Int => (Lit.int .i64 n).wf = true) y.2) y.2) ((x.f0, x.f1, x.f2))) y) := opens_slice Try.underlying22 (by kernel_rfl) (by kernel_rfl) o30
set_option maxRecDepth 100000 in
set_option maxHeartbeats 1000000 in
theorem lifted (os : Os) (started : os.Started) (H : Type) (enc : TypeId × Value → H) :
    ReturnsInHanded {} Try.checked os 13 .any (Rows.holdPublishesSpec.pre6 enc Try.prog Try.f13 Rows.holdPublishesRow.domain false) (Rows.holdPublishesSpec.post enc Try.prog Try.f13 false true false false) := by
  refine returnsInHanded_of_change_sized (C := Try.checked) own started (by kernel_rfl) Try.func13
    (ChangeSpec.witness6 (enc := enc) (C := Try.checked) false ⟨#[], #[.agg #[.int .i64 0, .int .i64 0, .int .i64 0, .slice none 0 0], .int .i64 0], []⟩ 8 (by kernel_rfl) (by kernel_rfl) (by kernel_rfl) (by kernel_rfl)) ?_
  intro W base args ds gs before hval0 hW hcnd hsz0 _
  have hsz : (DataW.weightsEach Try.prog (Try.f13.params.toList ++ Rows.holdPublishesSpec.plain.varTypes Try.prog) (ds ++ gs)).all (· ≤ reachBytes) = true := hsz0
  have hval : ∀ (j : Nat) t v, Try.f13.params[j]? = some t → args[j]? = some v → Value.okWide Try.prog W .any base t v := hval0
  have hW' := hW
  obtain ⟨p, q, hA0, hV, rfl, hfz, hnd⟩ := hW
  have hA : DataW.TrodAll enc Try.prog W 0 (fun _ => true) true Try.f13.params.toList args.toList ds p := hA0
  rw [Try.params13] at hA hval hsz
  obtain ⟨v0, vs0, d0, ds0, p0, q0, hargs, rfl, rfl, h0, r0⟩ := trodAll_cons hA
  obtain ⟨v1, vs1, d1, ds1, p1, q1, rfl, rfl, rfl, h1, r1⟩ := trodAll_cons r0
  obtain ⟨rfl, rfl, rfl⟩ := trodAll_nil r1
  obtain rfl : args = #[v0, v1] := by cases args; simp_all
  obtain ⟨rfl, rfl⟩ := trodVars_none hV
  have k0 := h0
  have lt0 : ∀ x ∈ p0, x.block < W.heap.size := by obtain ⟨m, hm⟩ := k0; exact DataW.trod_lt m _ _ _ hm
  have hag0 := agg_of Try.underlying24 (hval 0 24 v0 rfl rfl)
  obtain ⟨y0, hK0, hw0⟩ := arg_seq (d := (Kd.pair (Kd.int .i64) (Kd.pair (Kd.int .i64) (Kd.pair (Kd.int .i64) (Kd.slice 30 k30))))) (φ := (fun y : (Int) × (Int) × (Int) × (List (S30)) => (fun n : Int => (Lit.int .i64 n).wf = true) y.1 ∧ (fun y : (Int) × (Int) × (List (S30)) => (fun n : Int => (Lit.int .i64 n).wf = true) y.1 ∧ (fun y : (Int) × (List (S30)) => (fun n : Int => (Lit.int .i64 n).wf = true) y.1 ∧ (fun l : List (S30) => l.length ≤ maxLen ∧ l.length * 24 ≤ 140737488351232 ∧ ∀ y ∈ l, (fun x : S30 => (fun y : (Int) × (Int) × (Int) => (fun n : Int => (Lit.int .i64 n).wf = true) y.1 ∧ (fun y : (Int) × (Int) => (fun n : Int => (Lit.int .i64 n).wf = true) y.1 ∧ (fun n : Int => (Lit.int .i64 n).wf = true) y.2) y.2) ((x.f0, x.f1, x.f2))) y) y.2) y.2) y.2)) Try.underlying24 (by kernel_rfl) (opens_next (φ := (fun n : Int => (Lit.int .i64 n).wf = true)) (ψ := (fun y : (Int) × (Int) × (List (S30)) => (fun n : Int => (Lit.int .i64 n).wf = true) y.1 ∧ (fun y : (Int) × (List (S30)) => (fun n : Int => (Lit.int .i64 n).wf = true) y.1 ∧ (fun l : List (S30) => l.length ≤ maxLen ∧ l.length * 24 ≤ 140737488351232 ∧ ∀ y ∈ l, (fun x : S30 => (fun y : (Int) × (Int) × (Int) => (fun n : Int => (Lit.int .i64 n).wf = true) y.1 ∧ (fun y : (Int) × (Int) => (fun n : Int => (Lit.int .i64 n).wf = true) y.1 ∧ (fun n : Int => (Lit.int .i64 n).wf = true) y.2) y.2) ((x.f0, x.f1, x.f2))) y) y.2) y.2)) rfl (by kernel_rfl) rfl o3 (opens_next (φ := (fun n : Int => (Lit.int .i64 n).wf = true)) (ψ := (fun y : (Int) × (List (S30)) => (fun n : Int => (Lit.int .i64 n).wf = true) y.1 ∧ (fun l : List (S30) => l.length ≤ maxLen ∧ l.length * 24 ≤ 140737488351232 ∧ ∀ y ∈ l, (fun x : S30 => (fun y : (Int) × (Int) × (Int) => (fun n : Int => (Lit.int .i64 n).wf = true) y.1 ∧ (fun y : (Int) × (Int) => (fun n : Int => (Lit.int .i64 n).wf = true) y.1 ∧ (fun n : Int => (Lit.int .i64 n).wf = true) y.2) y.2) ((x.f0, x.f1, x.f2))) y) y.2)) rfl (by kernel_rfl) rfl o3 (opens_next (φ := (fun n : Int => (Lit.int .i64 n).wf = true)) (ψ := (fun l : List (S30) => l.length ≤ maxLen ∧ l.length * 24 ≤ 140737488351232 ∧ ∀ y ∈ l, (fun x : S30 => (fun y : (Int) × (Int) × (Int) => (fun n : Int => (Lit.int .i64 n).wf = true) y.1 ∧ (fun y : (Int) × (Int) => (fun n : Int => (Lit.int .i64 n).wf = true) y.1 ∧ (fun n : Int => (Lit.int .i64 n).wf = true) y.2) y.2) ((x.f0, x.f1, x.f2))) y)) rfl (by kernel_rfl) rfl o3 (opens_last (φ := (fun l : List (S30) => l.length ≤ maxLen ∧ l.length * 24 ≤ 140737488351232 ∧ ∀ y ∈ l, (fun x : S30 => (fun y : (Int) × (Int) × (Int) => (fun n : Int => (Lit.int .i64 n).wf = true) y.1 ∧ (fun y : (Int) × (Int) => (fun n : Int => (Lit.int .i64 n).wf = true) y.1 ∧ (fun n : Int => (Lit.int .i64 n).wf = true) y.2) y.2) ((x.f0, x.f1, x.f2))) y)) rfl (by kernel_rfl) o22)))) hsz (j := 0) (t := 24) rfl rfl h0
  obtain ⟨a0_0, a0_1, a0_2, l0_3⟩ := y0
  obtain ⟨_, _, e0, rfl, ⟨_, _, rfl, rfl, ⟨_, _, rfl, rfl, ⟨A0_3, c0_3, rfl, hc0_3, hr0_3⟩⟩⟩⟩ := hK0
  rw [e0] at hag0
  replace hag0 : v0 = .agg #[.int .i64 a0_0, .int .i64 a0_1, .int .i64 a0_2, .slice A0_3 l0_3.length c0_3] := hag0
  subst hag0
  obtain ⟨a1, rfl, rfl, rfl, w1⟩ := open_int Try.underlying3 (hval 1 3 v1 rfl rfl) h1
  obtain ⟨k, hp⟩ := Pure.HoldPublishes a0_0 a0_1 a0_2 l0_3 a1 (hw0.1) (hw0.2.1) (hw0.2.2.1) (hw0.2.2.2.1) (hw0.2.2.2.2.1) (hw0.2.2.2.2.2) (w1)
  clear hA0 hval0 hsz0 hsz
  refine (Hold.examboardlaw54_HoldPublishes.calls k a0_0 a0_1 a0_2 _ _ l0_3 a1 true W hr0_3 hc0_3 hp).mono ?_
  rintro e W' ⟨rfl, hd⟩
  have bel : Below W.heap.size W W' := hd
  exact ⟨_, rfl, _, _, _, [], _, [], hW', trodAll_mk1 (shut_bool Try.underlying4 _), (trodAll_cons_mk (Below.trod laidOut (by kernel_rfl) (of_decide_eq_true (by kernel_rfl)) k0 bel lt0) (trodAll_cons_mk (shut_int Try.underlying3 w1) trodAll_mk0)), rfl, bel.frame _, fun h => by cases h⟩
theorem over : Rows.holdPublishesRow.holds Try.pinned (OpenSpec.ofChange Rows.holdPublishesSpec) :=
  OpenClaim.holds_of_wide 13 Try.f13 rfl rfl rfl rfl rfl rfl rfl ⟨rfl, rfl, rfl, rfl, rfl⟩ rfl rfl rfl rfl rfl (by kernel_rfl) Try.func13 (by kernel_rfl)
    (of_decide_eq_true (by kernel_rfl)) (by unfold Func.isWrapper; first | (rw [if_pos (by decide +kernel)]; kernel_rfl) | (rw [if_neg (by decide +kernel)]; exact ⟨rfl, rfl⟩))
    (fun os started H enc _ => lifted os started H enc)
theorem proved : Rows.HoldPublishesSaid := over
#print axioms proved
end Go.Proofs.Ytgeplglggcoaiaa.holdPublishes
namespace Go.Proofs.Ytgeplglggcoaiaa
/-- The row, under a short name, for the claim. -/
theorem holdPublishes_holds : Rows.HoldPublishesSaid := holdPublishes.proved
end Go.Proofs.Ytgeplglggcoaiaa
