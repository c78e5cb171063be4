/- The pure statement of the law HoldPlaces: a hold placed or lifted gives the reference's record or error. -/
import Derived.Test.YtgeplglggcoaiaaHoldx9
import Derived.Test.YtgeplglggcoaiaaHoldA
namespace Go.Proofs.Ytgeplglggcoaiaa.Pure
open Go.RowKit Go.Proofs.Ytgeplglggcoaiaa.Hold Go.Proofs.Ytgeplglggcoaiaa.HoldPure Go.Proofs.YtgeplglggcoaiaaW.PrintWords Go.Proofs.YtgeplglggcoaiaaW.PrintLast Go.Proofs.YtgeplglggcoaiaaW.PrintMore

theorem place_len (st v last : Int) (l : List Hd) (reason time : Int) (hl : l.length ≤ 200) : (placeR st v last l reason time).2.2.2.1.length ≤ 201 := by
  unfold placeR
  split
  · split
    · simp
    · simp; omega
  · simp
theorem lift_len (st v last : Int) (l : List Hd) (reason time : Int) (hl : l.length ≤ 200) : (liftR st v last l reason time).2.2.2.1.length ≤ 200 := by
  unfold liftR
  split
  · split
    · simpa using hl
    · simp
  · simp
theorem places_loop (st v last reason time x10 : Int) (l : List Hd) (hl : l.length ≤ 200) (b0 b1 b2 c0 c1 c2 : Int) (m : List Hd) (h10 : (liftR st v last l reason time).2.2.2.2 = x10)
    (hs : sameB (liftR st v last l reason time).1 (liftR st v last l reason time).2.1 (liftR st v last l reason time).2.2.1 (liftR st v last l reason time).2.2.2.1 c0 c1 c2 m = true) : ∀ (d i : Nat) (q : List Hd), q.length ≤ 200 → i + d = q.length →
    Ev (fun k => examboardlaw54_HoldPlaces.l0 k reason time x10 (i : Int) st v last l b0 b1 b2 q c0 c1 c2 m) true := by
  intro d
  induction d with
  | zero =>
    intro i q hq hi
    refine Ev.step (f := fun k => (hold_Lift.f k st v last l reason time).bind fun bt => if bt.2.2.2.2 = x10 then ((examboardlaw54_same.f k bt.1 bt.2.1 bt.2.2.1 bt.2.2.2.1 c0 c1 c2 m).bind fun t => some t) else some false) (fun k => ?_) ?_
    · simp only [examboardlaw54_HoldPlaces.l0]
      rw [if_neg (by omega)]
    · refine Ev.bind (lift_ev st v last l reason time hl) ?_
      refine ev_if (fun _ => ?_) (fun h => absurd h10 h)
      have hle := lift_len st v last l reason time hl
      refine Ev.bind (same_ev _ _ _ _ _ _ _ _ (by omega)) ?_
      rw [hs]
      exact Ev.now _
  | succ d ih =>
    intro i q hq hi
    refine Ev.step (f := fun k => examboardlaw54_HoldPlaces.l0 k reason time x10 ((i + 1 : Nat) : Int) st v last l b0 b1 b2 (q.set i ⟨9, 9, 9⟩) c0 c1 c2 m) (fun k => ?_) (ih (i + 1) _ (by simpa using hq) (by simp; omega))
    simp only [examboardlaw54_HoldPlaces.l0]
    rw [if_pos (by omega), if_pos (by omega), wrap_id (by omega) (by omega)]
    rfl
theorem HoldPlaces : ∀ (a0_0 : Int) (a0_1 : Int) (a0_2 : Int) (l0_3 : List (S30)) (a1 : Int) (a2 : Int), (Lit.int .i64 a0_0).wf = true → (Lit.int .i64 a0_1).wf = true → (Lit.int .i64 a0_2).wf = true → l0_3.length ≤ maxLen → l0_3.length * 24 ≤ 140737488351232 → (∀ x_ ∈ l0_3, ((Lit.int .i64 x_.f0).wf = true ∧ (Lit.int .i64 x_.f1).wf = true ∧ (Lit.int .i64 x_.f2).wf = true)) → (Lit.int .i64 a1).wf = true → (Lit.int .i64 a2).wf = true → ∃ k, examboardlaw54_HoldPlaces.f k a0_0 a0_1 a0_2 l0_3 a1 a2 = some true := by
  intro st v last l reason time _ _ _ _ _ _ _ _
  refine Ev.rounds ?_
  unfold examboardlaw54_HoldPlaces.f
  refine ev_if (fun _ => Ev.now _) (fun hc => ?_)
  have hl : l.length ≤ 200 := by omega
  refine Ev.bind (place_ev st v last l reason time hl) ?_
  refine Ev.bind (ref_place_ev st v last l reason time hl) ?_
  refine ev_if (fun _ => ?_) (fun h => absurd rfl h)
  have hpl := place_len st v last l reason time hl
  refine Ev.bind (same_ev _ _ _ _ _ _ _ _ (by omega)) ?_
  rw [same_refl]
  refine Ev.step (fun k => examboardlaw54_HoldPlaces.j0.eq_2 ..) ?_
  simp only [Bool.not_true, Bool.false_eq_true, if_false]
  have hle := lift_len st v last l reason time hl
  refine Ev.bind (lift_ev st v last l reason time hl) ?_
  refine Ev.bind (ref_lift_ev st v last l reason time hl) ?_
  refine ev_if (fun _ => ?_) (fun h => absurd rfl h)
  refine Ev.bind (same_ev _ _ _ _ _ _ _ _ (by omega)) ?_
  rw [same_refl]
  refine Ev.step (fun k => examboardlaw54_HoldPlaces.j1.eq_2 ..) ?_
  simp only [Bool.not_true, Bool.false_eq_true, if_false]
  exact places_loop st v last reason time _ l hl _ _ _ _ _ _ _ rfl (same_refl _ _ _ _) _ 0 _ hle (Nat.zero_add _)
end Go.Proofs.Ytgeplglggcoaiaa.Pure
