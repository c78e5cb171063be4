/- The pure statement of the law HoldHistory: every record that the functions lead to is valid, its time never falls, and its holds are never forgotten. -/
import Derived.Test.YtgeplglggcoaiabHoldx10
import Derived.Test.YtgeplglggcoaiabHoldx11
import Derived.Test.YtgeplglggcoaiabHoldx14
import Derived.Test.YtgeplglggcoaiabHoldx15
import Derived.Test.YtgeplglggcoaiabHoldx16
import Derived.Test.YtgeplglggcoaiabHoldx17
import Derived.Test.YtgeplglggcoaiabHoldx18
import Derived.Test.YtgeplglggcoaiabHoldx3
import Derived.Test.YtgeplglggcoaiabHoldx4
import Derived.Test.YtgeplglggcoaiabHoldx5
import Derived.Test.YtgeplglggcoaiabHoldx6
import Derived.Test.YtgeplglggcoaiabHoldx7
import Derived.Test.YtgeplglggcoaiabHoldx9
import Derived.Lib.SlicesCompact
import Derived.Lib.RowBridge
namespace Go.Proofs.Ytgeplglggcoaiab.Pure
open Go.RowKit Go.Lib Go.Proofs.Ytgeplglggcoaiab.Hold Go.Proofs.YtgeplglggcoaiabW.PrintWords Go.Proofs.YtgeplglggcoaiabW.PrintLast Go.Proofs.YtgeplglggcoaiabW.PrintMore

theorem wrap_id {n : Int} (h0 : -9223372036854775808 ≤ n) (h1 : n ≤ 9223372036854775807) : wrap64 n = n := by unfold wrap64; omega
theorem ev_now {α : Type} {g : Nat → Option α} {r : α} (h : ∀ k, g (k + 1) = some r) : Ev g r := Ev.step (f := fun _ => some r) h (Ev.now r)
theorem ev_const {α : Type} {o : Option α} {r : α} (h : o = some r) : Ev (fun _ => o) r := ⟨0, fun _ _ => h⟩
theorem ev_bindc {α β : Type} {o : Option α} {f : Nat → α → Option β} {a : α} {r : β} (h : o = some a) (k : Ev (fun n => f n a) r) : Ev (fun n => o.bind (f n)) r := by
  subst h
  exact k
theorem ev_if {α : Type} {c : Prop} [Decidable c] {f g : Nat → Option α} {r : α} (hy : c → Ev f r) (hn : ¬ c → Ev g r) : Ev (fun k => if c then f k else g k) r := by
  by_cases h : c
  · simp only [if_pos h]; exact hy h
  · simp only [if_neg h]; exact hn h

abbrev Hd := S34
instance hdEq : DecidableEq S34 := fun a b =>
  if h : a.f0 = b.f0 ∧ a.f1 = b.f1 ∧ a.f2 = b.f2 then isTrue (by cases a; cases b; simp_all) else isFalse (fun e => h (by rw [e]; exact ⟨rfl, rfl, rfl⟩))
theorem rd_at {l : List Hd} {i : Nat} (h : i < l.length) : rd_T34 l (i : Int) = l[i] := by
  unfold rd_T34
  simp [h]
theorem drop_at {l : List Hd} {i : Nat} (h : i < l.length) : l.drop i = l[i] :: l.drop (i + 1) := by simp

/-! ### validity -/
def holdErr (last : Int) (h : Hd) : Int := if h.f0 < 1 ∨ 5 < h.f0 then 1 else if h.f1 < 0 ∨ last < h.f1 ∨ h.f2 < 0 ∨ last < h.f2 then 3 else if 0 < h.f2 ∧ h.f2 < h.f1 then 15 else 0
def holdsErr (last : Int) : List Hd → Int
  | [] => 0
  | h :: t => if holdErr last h = 0 then holdsErr last t else holdErr last h
def stErr (st v : Int) : Int := if (st = 1 ∧ v ≠ 0) ∨ (st = 2 ∧ v ≠ 1) ∨ (st = 3 ∧ v < 2) then 8 else 0
def bodyErr (st v last : Int) (l : List Hd) : Int := if holdsErr last l = 0 then stErr st v else holdsErr last l
theorem bodyErr_cons (st v last : Int) (h : Hd) (t : List Hd) : bodyErr st v last (h :: t) = if holdErr last h = 0 then bodyErr st v last t else holdErr last h := by
  unfold bodyErr
  by_cases c : holdErr last h = 0
  · have e : holdsErr last (h :: t) = holdsErr last t := by simp only [holdsErr]; rw [if_pos c]
    rw [e, if_pos c]
  · have e : holdsErr last (h :: t) = holdErr last h := by simp only [holdsErr]; rw [if_neg c]
    rw [e, if_neg c, if_neg c]
def validE (st v last : Int) (l : List Hd) : Int :=
  if st < 1 ∨ 4 < st then 1 else if v < 0 ∨ 9999999 < v ∨ last < 0 ∨ 1099511627776 < last then 3 else if 20 < l.length then 5 else bodyErr st v last l

/-- The last test of both texts. -/
theorem st_text (st v : Int) : (if st = 1 then (if v = 0 then (if st = 2 then (if v = 1 then (if st = 3 then (if v < 2 then (some 8) else (some 0)) else (some 0)) else (some 8)) else (if st = 3 then (if v < 2 then (some 8) else (some 0)) else (some 0))) else (some 8)) else (if st = 2 then (if v = 1 then (if st = 3 then (if v < 2 then (some 8) else (some 0)) else (some 0)) else (some 8)) else (if st = 3 then (if v < 2 then (some 8) else (some 0)) else (some (0 : Int))))) = some (stErr st v) := by
  unfold stErr
  by_cases h1 : st = 1
  · subst h1
    by_cases h : v = 0 <;> simp [h]
  · by_cases h2 : st = 2
    · subst h2
      by_cases h : v = 1 <;> simp [h]
    · by_cases h3 : st = 3
      · subst h3
        by_cases h : v < 2 <;> simp [h]
      · simp [h1, h2, h3]

/-! ### changes -/
def changeE (st last time : Int) : Int := if time < 1 ∨ time < last ∨ 1099511627776 < time then 15 else if st = 4 then 21 else 0
def aboutE (st v last : Int) (l : List Hd) (reason time : Int) : Int := if validE st v last l = 0 then (if reason < 1 ∨ 5 < reason then 1 else changeE st last time) else validE st v last l
def changeNilE (st v last : Int) (l : List Hd) (time : Int) : Int := if validE st v last l = 0 then changeE st last time else validE st v last l

theorem valid_last {st v last : Int} {l : List Hd} (h : validE st v last l = 0) : (1 ≤ st ∧ st ≤ 4) ∧ (0 ≤ v ∧ v ≤ 9999999) ∧ (0 ≤ last ∧ last ≤ 1099511627776) ∧ l.length ≤ 20 ∧ bodyErr st v last l = 0 := by
  unfold validE at h
  split at h
  · omega
  split at h
  · omega
  split at h
  · omega
  exact ⟨by omega, by omega, by omega, by omega, h⟩

theorem within_ev (a b c : Int) : hold_within.f a b c = some (decide (b ≤ a ∧ a ≤ c)) := by
  unfold hold_within.f
  by_cases h : b ≤ a <;> simp [h]
theorem reasons_ev (a : Int) : hold_reasons.f a = some (decide (1 ≤ a ∧ a ≤ 5)) := by
  unfold hold_reasons.f
  rw [within_ev]; rfl

theorem holds_ev (last : Int) (h : Hd) : Ev (fun k => hold_holds.f k h.f0 h.f1 h.f2 last) (holdErr last h) := by
  unfold hold_holds.f
  refine ev_bindc (reasons_ev _) ?_
  refine ev_if (fun c0 => ?_) (fun c0 => ?_)
  · have c0 : 1 ≤ h.f0 ∧ h.f0 ≤ 5 := by simpa using c0
    refine ev_bindc (within_ev _ _ _) ?_
    refine ev_if (fun c1 => ?_) (fun c1 => ?_)
    · have c1 : 0 ≤ h.f1 ∧ h.f1 ≤ last := by simpa using c1
      refine ev_bindc (within_ev _ _ _) ?_
      refine ev_now (fun k => ?_)
      by_cases c2 : 0 ≤ h.f2 ∧ h.f2 ≤ last
      · by_cases c3 : 0 < h.f2 ∧ h.f2 < h.f1
        · unfold holdErr
          rw [if_neg (by omega), if_neg (by omega), if_pos c3]
          simp only [hold_holds.j0, c2, and_self, decide_true, Bool.not_true, Bool.false_eq_true, if_false]
          rw [if_pos (by omega), if_pos (by omega)]
        · unfold holdErr
          rw [if_neg (by omega), if_neg (by omega), if_neg c3]
          simp only [hold_holds.j0, c2, and_self, decide_true, Bool.not_true, Bool.false_eq_true, if_false]
          by_cases c4 : h.f2 > 0
          · rw [if_pos c4, if_neg (by omega)]
          · rw [if_neg c4]
      · unfold holdErr
        rw [if_neg (by omega), if_pos (by omega)]
        simp [hold_holds.j0, c2]
    · have c1 : ¬ (0 ≤ h.f1 ∧ h.f1 ≤ last) := by simpa using c1
      refine ev_now (fun k => ?_)
      unfold holdErr
      rw [if_neg (by omega), if_pos (by omega)]
      simp [hold_holds.j0]
  · have c0 : ¬ (1 ≤ h.f0 ∧ h.f0 ≤ 5) := by simpa using c0
    refine ev_const ?_
    unfold holdErr
    rw [if_pos (by omega)]

theorem valid_loop (l : List Hd) (st v last : Int) (hl : l.length ≤ 4611686018427387904) : ∀ (d i : Nat), i + d = l.length → Ev (fun k => hold_Valid.l0 k l (l.length : Int) (i : Int) st v last l) (bodyErr st v last (l.drop i)) := by
  intro d
  induction d with
  | zero =>
    intro i hi
    refine ev_now (fun k => ?_)
    simp only [hold_Valid.l0]
    rw [if_neg (by omega), List.drop_of_length_le (by omega)]
    simp only [bodyErr, holdsErr, if_true]
    exact st_text st v
  | succ d ih =>
    intro i hi
    have hlt : i < l.length := by omega
    refine Ev.step (f := fun k => (hold_holds.f k (l[i]).f0 (l[i]).f1 (l[i]).f2 last).bind fun t => if t = 0 then hold_Valid.l0 k l (l.length : Int) ((i + 1 : Nat) : Int) st v last l else some t) (fun k => ?_) ?_
    · simp only [hold_Valid.l0]
      rw [if_pos (by omega), if_pos (by omega), if_pos (by omega), rd_at hlt, wrap_id (by omega) (by omega)]
      rfl
    · refine Ev.bind (holds_ev last l[i]) ?_
      rw [drop_at hlt]
      refine ev_if (fun c => ?_) (fun c => ?_)
      · have := ih (i + 1) (by omega)
        rw [bodyErr_cons, if_pos c]
        exact this
      · refine ev_const ?_
        rw [bodyErr_cons, if_neg c]
theorem valid_ev (st v last : Int) (l : List Hd) (hl : l.length ≤ 4611686018427387904) : Ev (fun k => hold_Valid.f k st v last l) (validE st v last l) := by
  unfold hold_Valid.f
  have j0t : Ev (fun k => hold_Valid.j0 k true st v last l) 3 := ev_now (fun k => by simp [hold_Valid.j0])
  refine ev_bindc (within_ev _ _ _) ?_
  refine ev_if (fun c0 => ?_) (fun c0 => ?_)
  · have c0 : 1 ≤ st ∧ st ≤ 4 := by simpa using c0
    refine ev_bindc (within_ev _ _ _) ?_
    refine ev_if (fun c1 => ?_) (fun c1 => ?_)
    · have c1 : 0 ≤ v ∧ v ≤ 9999999 := by simpa using c1
      refine ev_bindc (within_ev _ _ _) ?_
      by_cases c2 : 0 ≤ last ∧ last ≤ 1099511627776
      · have e : (!decide (0 ≤ last ∧ last ≤ 1099511627776)) = false := by simp [c2]
        rw [e]
        unfold validE
        rw [if_neg (by omega), if_neg (by omega)]
        refine Ev.step (f := fun k => if (l.length : Int) > 20 then some 5 else hold_Valid.l0 k l (l.length : Int) 0 st v last l) (fun k => by simp only [hold_Valid.j0]; rfl) ?_
        refine ev_if (fun c3 => ?_) (fun c3 => ?_)
        · rw [if_pos (by omega)]; exact Ev.now _
        · rw [if_neg (by omega)]
          have := valid_loop l st v last hl l.length 0 (by omega)
          simpa using this
      · have e : (!decide (0 ≤ last ∧ last ≤ 1099511627776)) = true := by simp [c2]
        rw [e]
        unfold validE
        rw [if_neg (by omega), if_pos (by omega)]
        exact j0t
    · have c1 : ¬ (0 ≤ v ∧ v ≤ 9999999) := by simpa using c1
      unfold validE
      rw [if_neg (by omega), if_pos (by omega)]
      exact j0t
  · have c0 : ¬ (1 ≤ st ∧ st ≤ 4) := by simpa using c0
    unfold validE
    rw [if_pos (by omega)]
    exact Ev.now _

/-- hold.change's two tests of the time are the reference's. -/
theorem change_text {st last time : Int} (hl : 0 ≤ last) : (if time = 0 then some 15 else ((hold_within.f time last 1099511627776).bind fun t2 => if t2 = true then (if st = 4 then some 21 else some 0) else some (15 : Int))) = some (changeE st last time) := by
  rw [within_ev]
  unfold changeE
  by_cases h0 : time = 0
  · rw [if_pos h0, if_pos (by omega)]
  · rw [if_neg h0]
    by_cases h1 : last ≤ time ∧ time ≤ 1099511627776
    · have hc : ¬ (time < 1 ∨ time < last ∨ 1099511627776 < time) := by omega
      rw [if_neg hc]
      simp only [Option.bind_some, h1, and_self, decide_true, if_true]
      by_cases h2 : st = 4 <;> simp [h2]
    · have hc : time < 1 ∨ time < last ∨ 1099511627776 < time := by omega
      rw [if_pos hc]
      simp [h1]

theorem change_nil_ev (st v last : Int) (l : List Hd) (time : Int) (hl : l.length ≤ 4611686018427387904) : Ev (fun k => hold_change_nil.f k st v last l time) (changeNilE st v last l time) := by
  unfold hold_change_nil.f
  refine Ev.bind (valid_ev st v last l hl) ?_
  unfold changeNilE
  refine ev_if (fun c => ?_) (fun c => ?_)
  · rw [if_pos c]
    exact ev_const (change_text (valid_last c).2.2.1.1)
  · rw [if_neg c]; exact Ev.now _

theorem change_some_ev (st v last : Int) (l : List Hd) (reason time : Int) (hl : l.length ≤ 4611686018427387904) : Ev (fun k => hold_change_some.f k st v last l reason time) (aboutE st v last l reason time) := by
  unfold hold_change_some.f
  refine Ev.bind (valid_ev st v last l hl) ?_
  unfold aboutE
  refine ev_if (fun c => ?_) (fun c => ?_)
  · rw [if_pos c]
    refine ev_bindc (reasons_ev _) ?_
    refine ev_if (fun c1 => ?_) (fun c1 => ?_)
    · have c1 : 1 ≤ reason ∧ reason ≤ 5 := by simpa using c1
      have hc : ¬ (reason < 1 ∨ 5 < reason) := by omega
      rw [if_neg hc]
      exact ev_const (change_text (valid_last c).2.2.1.1)
    · have c1 : ¬ (1 ≤ reason ∧ reason ≤ 5) := by simpa using c1
      rw [if_pos (by omega)]
      exact Ev.now _
  · rw [if_neg c]; exact Ev.now _

/-! ### copies -/
theorem at_ev (st v last : Int) (l : List Hd) (time : Int) (hl : l.length ≤ 200) : hold_at.f st v last l time = some (st, v, time, l) := by
  unfold hold_at.f api_Hold.f
  rw [if_pos (by omega)]; rfl

/-! ### a hold placed -/
def placeR (st v last : Int) (l : List Hd) (reason time : Int) : Int × Int × Int × List Hd × Int :=
  if aboutE st v last l reason time = 0 then (if l.length ≥ 20 then (0, 0, 0, [], 5) else (st, v, time, l ++ [⟨reason, time, 0⟩], 0)) else (0, 0, 0, [], aboutE st v last l reason time)

theorem place_ev (st v last : Int) (l : List Hd) (reason time : Int) (hl : l.length ≤ 200) : Ev (fun k => hold_Place.f k st v last l reason time) (placeR st v last l reason time) := by
  unfold hold_Place.f
  refine Ev.bind (change_some_ev st v last l reason time (by omega)) ?_
  unfold placeR
  refine ev_if (fun c => ?_) (fun c => ?_)
  · rw [if_pos c]
    refine ev_if (fun c1 => ?_) (fun c1 => ?_)
    · rw [if_pos (by omega)]; exact Ev.now _
    · rw [if_neg (by omega)]
      refine ev_bindc (at_ev _ _ _ _ _ hl) ?_
      refine ev_const ?_
      rw [if_pos (by show l.length < _; omega)]
  · rw [if_neg c]; exact Ev.now _

/-! ### holds lifted -/
def liftH (reason time : Int) (h : Hd) : Hd := if h.f0 = reason ∧ h.f2 = 0 then ⟨h.f0, h.f1, time⟩ else h
def stands (reason : Int) (h : Hd) : Bool := decide (h.f0 = reason ∧ h.f2 = 0)
def liftR (st v last : Int) (l : List Hd) (reason time : Int) : Int × Int × Int × List Hd × Int :=
  if aboutE st v last l reason time = 0 then (if l.any (stands reason) = true then (st, v, time, l.map (liftH reason time), 0) else (0, 0, 0, [], 6)) else (0, 0, 0, [], aboutE st v last l reason time)
/-- The row behind i rounds. -/
def lifted (reason time : Int) (l : List Hd) (i : Nat) : List Hd := (l.take i).map (liftH reason time) ++ l.drop i
theorem lifted_length (reason time : Int) (l : List Hd) (i : Nat) : (lifted reason time l i).length = l.length := by
  simp [lifted]; omega
theorem lifted_at {reason time : Int} {l : List Hd} {i : Nat} (h : i < l.length) : rd_T34 (lifted reason time l i) (i : Int) = l[i] := by
  rw [rd_at (by rw [lifted_length]; exact h)]
  simp only [lifted]
  rw [List.getElem_append_right (by simp; omega)]
  simp [Nat.min_eq_left (Nat.le_of_lt h)]
theorem lifted_zero (reason time : Int) (l : List Hd) : lifted reason time l 0 = l := by simp [lifted]
theorem lifted_all (reason time : Int) (l : List Hd) : lifted reason time l l.length = l.map (liftH reason time) := by simp [lifted]
theorem lifted_next {reason time : Int} {l : List Hd} {i : Nat} (h : i < l.length) : lifted reason time l (i + 1) = (lifted reason time l i).set i (liftH reason time l[i]) := by
  apply List.ext_getElem?
  intro j
  simp only [lifted, List.getElem?_set]
  rw [List.take_succ_eq_append_getElem h, List.map_append]
  by_cases hj : i = j
  · subst hj
    have h1 : i < ((l.take i).map (liftH reason time) ++ l.drop i).length := by simp; omega
    rw [if_pos rfl, if_pos h1, List.getElem?_append_left (by simp; omega), List.getElem?_append_right (by simp; omega)]
    simp [Nat.min_eq_left (Nat.le_of_lt h)]
  · rw [if_neg hj]
    rcases Nat.lt_or_ge j i with hlt | hge
    · rw [List.getElem?_append_left (by simp; omega), List.getElem?_append_left (by simp; omega), List.getElem?_append_left (by simp; omega)]
    · rw [List.getElem?_append_right (by simp; omega), List.getElem?_append_right (by simp; omega)]
      simp [Nat.min_eq_left (Nat.le_of_lt h)]
      congr 1; omega
theorem any_next {reason : Int} {l : List Hd} {i : Nat} (h : i < l.length) : (l.take (i + 1)).any (stands reason) = ((l.take i).any (stands reason) || stands reason l[i]) := by
  rw [List.take_succ_eq_append_getElem h, List.any_append]
  simp only [List.any_cons, List.any_nil, Bool.or_false]

theorem lift_loop (l : List Hd) (st v t2 reason time : Int) (hl : l.length ≤ 200) : ∀ (d i : Nat), i + d = l.length →
    Ev (fun k => hold_Lift.l0 k time ((l.take i).any (stands reason)) (lifted reason time l i) (l.length : Int) (i : Int) reason st v t2) (if l.any (stands reason) = true then (st, v, t2, l.map (liftH reason time), 0) else (0, 0, 0, [], 6)) := by
  intro d
  induction d with
  | zero =>
    intro i hi
    obtain rfl : i = l.length := by omega
    refine ev_now (fun k => ?_)
    simp only [hold_Lift.l0]
    rw [if_neg (by omega), lifted_all, List.take_of_length_le (Nat.le_refl _)]
    split <;> rfl
  | succ d ih =>
    intro i hi
    have hlt : i < l.length := by omega
    refine Ev.step (f := fun k => hold_Lift.l0 k time ((l.take (i + 1)).any (stands reason)) (lifted reason time l (i + 1)) (l.length : Int) ((i + 1 : Nat) : Int) reason st v t2) (fun k => ?_) (ih (i + 1) (by omega))
    simp only [hold_Lift.l0]
    rw [if_pos (by omega), if_pos (by omega), if_pos (by rw [lifted_length]; omega), lifted_at hlt, wrap_id (by omega) (by omega), any_next hlt, lifted_next hlt]
    by_cases c : (l[i]).f0 = reason
    · by_cases c2 : (l[i]).f2 = 0
      · have hs : stands reason l[i] = true := by simp [stands, c, c2]
        have hh : liftH reason time l[i] = ⟨(l[i]).f0, (l[i]).f1, time⟩ := by simp [liftH, c, c2]
        rw [if_pos c, if_pos c2, hs, hh, Bool.or_true]
        rfl
      · have hs : stands reason l[i] = false := by simp [stands, c2]
        have hh : liftH reason time l[i] = l[i] := by simp [liftH, c2]
        rw [if_pos c, if_neg c2, hs, hh, Bool.or_false]
        rw [show (lifted reason time l i).set i l[i] = lifted reason time l i from ?_]
        · rfl
        · have := lifted_at (reason := reason) (time := time) hlt
          rw [rd_at (by rw [lifted_length]; exact hlt)] at this
          rw [← this]
          simp
    · have hs : stands reason l[i] = false := by simp [stands, c]
      have hh : liftH reason time l[i] = l[i] := by simp [liftH, c]
      rw [if_neg c, hs, hh, Bool.or_false]
      rw [show (lifted reason time l i).set i l[i] = lifted reason time l i from ?_]
      · rfl
      · have := lifted_at (reason := reason) (time := time) hlt
        rw [rd_at (by rw [lifted_length]; exact hlt)] at this
        rw [← this]
        simp
theorem lift_ev (st v last : Int) (l : List Hd) (reason time : Int) (hl : l.length ≤ 200) : Ev (fun k => hold_Lift.f k st v last l reason time) (liftR st v last l reason time) := by
  unfold hold_Lift.f
  refine Ev.bind (change_some_ev st v last l reason time (by omega)) ?_
  unfold liftR
  refine ev_if (fun c => ?_) (fun c => ?_)
  · rw [if_pos c]
    refine ev_bindc (at_ev _ _ _ _ _ hl) ?_
    have := lift_loop l st v time reason time hl l.length 0 (by omega)
    rw [lifted_zero] at this
    exact this
  · rw [if_neg c]; exact Ev.now _

def Rising (l : List Int) : Prop := l.Pairwise (· < ·)
theorem rising_unique : ∀ {a b : List Int}, Rising a → Rising b → (∀ x, x ∈ a ↔ x ∈ b) → a = b
  | [], [], _, _, _ => rfl
  | [], y :: b, _, _, h => by have := (h y).2 (List.mem_cons_self); cases this
  | x :: a, [], _, _, h => by have := (h x).1 (List.mem_cons_self); cases this
  | x :: a, y :: b, ha, hb, h => by
    obtain ⟨ha1, ha2⟩ := List.pairwise_cons.1 ha
    obtain ⟨hb1, hb2⟩ := List.pairwise_cons.1 hb
    have hxy : x = y := by
      rcases List.mem_cons.1 ((h x).1 List.mem_cons_self) with h1 | h1
      · exact h1
      · rcases List.mem_cons.1 ((h y).2 List.mem_cons_self) with h2 | h2
        · exact h2.symm
        · have := ha1 y h2
          have := hb1 x h1
          omega
    subst hxy
    congr 1
    refine rising_unique ha2 hb2 (fun z => ⟨fun hz => ?_, fun hz => ?_⟩)
    · rcases List.mem_cons.1 ((h z).1 (List.mem_cons_of_mem _ hz)) with h1 | h1
      · have := ha1 z hz
        omega
      · exact h1
    · rcases List.mem_cons.1 ((h z).2 (List.mem_cons_of_mem _ hz)) with h1 | h1
      · have := hb1 z hz
        omega
      · exact h1

theorem sorted_at {l : List Int} (hs : l.Pairwise (· ≤ ·)) {i j : Nat} (hij : i ≤ j) (hj : j < l.length) : l[i]! ≤ l[j]! := by
  rw [getElem!_pos l i (by omega), getElem!_pos l j hj]
  rcases Nat.lt_or_ge i j with h | h
  · exact List.pairwise_iff_getElem.1 hs i j (by omega) hj h
  · have : i = j := by omega
    subst this
    exact Int.le_refl _
theorem toArray_get! (l : List Int) (i : Nat) : l.toArray[i]! = l[i]! := by simp
theorem compact_mem {l : List Int} (x : Int) : x ∈ compact l ↔ x ∈ l := by
  unfold compact compactUpTo
  simp only [List.mem_map, List.mem_filter, List.mem_range]
  constructor
  · rintro ⟨i, ⟨hi, _⟩, rfl⟩
    rw [toArray_get!, getElem!_pos l i hi]
    exact List.getElem_mem hi
  · intro hx
    have key : ∀ i, i < l.length → ∃ a, (a < l.length ∧ keeps l.toArray a = true) ∧ l.toArray[a]! = l[i]! := by
      intro i
      induction i with
      | zero => intro hi; exact ⟨0, ⟨hi, by simp [keeps]⟩, toArray_get! l 0⟩
      | succ i ih =>
        intro hi
        by_cases h : l[i + 1]! = l[i]!
        · obtain ⟨a, ha, hav⟩ := ih (by omega)
          exact ⟨a, ha, by rw [hav, h]⟩
        · refine ⟨i + 1, ⟨hi, ?_⟩, toArray_get! l _⟩
          simp only [keeps, toArray_get!, Nat.add_sub_cancel, decide_eq_true_eq]
          exact .inr h
    obtain ⟨i, hi, rfl⟩ := List.mem_iff_getElem.1 hx
    obtain ⟨a, ha, hav⟩ := key i hi
    exact ⟨a, ha, by rw [hav, getElem!_pos l i hi]⟩
theorem compact_rising {l : List Int} (hs : l.Pairwise (· ≤ ·)) : Rising (compact l) := by
  unfold compact compactUpTo Rising
  rw [List.pairwise_map, List.pairwise_filter]
  have h0 : (List.range l.length).Pairwise (fun a b => a < b ∧ b < l.length) := by
    rw [List.pairwise_iff_getElem]
    intro i j hi hj hij
    simp at hi hj ⊢
    exact ⟨hij, hj⟩
  refine h0.imp ?_
  rintro a b ⟨hab, hb⟩ _ hk
  simp only [toArray_get!]
  simp only [keeps, toArray_get!, decide_eq_true_eq] at hk
  have h1 := sorted_at hs (show a ≤ b - 1 by omega) (show b - 1 < l.length by omega)
  have h2 := sorted_at hs (show b - 1 ≤ b by omega) hb
  rcases hk with hk | hk
  · omega
  · omega
theorem compact_sublist_length (l : List Int) : (compact l).length ≤ l.length := compact_length_le l
def risen (l : List Int) : List Int := compact (l.mergeSort fun x y => decide (x ≤ y))
theorem risen_rising (l : List Int) : Rising (risen l) := by
  refine compact_rising ?_
  have := List.pairwise_mergeSort (le := fun x y : Int => decide (x ≤ y)) (fun a b c => by simp; omega) (fun a b => by simp; omega) l
  exact this.imp (fun h => by simpa using h)
theorem risen_mem (l : List Int) (x : Int) : x ∈ risen l ↔ x ∈ l := by
  unfold risen
  rw [compact_mem, List.mem_mergeSort]
theorem risen_length (l : List Int) : (risen l).length ≤ l.length := by
  unfold risen
  have := compact_length_le (l.mergeSort fun x y => decide (x ≤ y))
  rwa [List.length_mergeSort] at this
theorem risen_unique {l d : List Int} (hd : Rising d) (hm : ∀ x, x ∈ d ↔ x ∈ l) : d = risen l := rising_unique hd (risen_rising l) (fun x => (hm x).trans (risen_mem l x).symm)
theorem risen_of_rising {l : List Int} (h : Rising l) : risen l = l := (risen_unique h (fun _ => Iff.rfl)).symm

def up (h : Hd) : Bool := decide (h.f2 = 0)
def reasons (l : List Hd) : List Int := (l.filter up).map (·.f0)
theorem reasons_len (l : List Hd) : (reasons l).length ≤ l.length := by
  unfold reasons
  rw [List.length_map]
  exact List.length_filter_le _ _
theorem reasons_next {l : List Hd} {i : Nat} (h : i < l.length) : reasons (l.take (i + 1)) = reasons (l.take i) ++ (if (l[i]).f2 = 0 then [(l[i]).f0] else []) := by
  unfold reasons
  rw [List.take_succ_eq_append_getElem h, List.filter_append, List.map_append]
  by_cases c : (l[i]).f2 = 0 <;> simp [up, c]
theorem mem_reasons {l : List Hd} {r : Int} : r ∈ reasons l ↔ ∃ h ∈ l, h.f2 = 0 ∧ h.f0 = r := by
  unfold reasons
  simp only [List.mem_map, List.mem_filter, up, decide_eq_true_eq]
  constructor
  · rintro ⟨h, ⟨h1, h2⟩, h3⟩; exact ⟨h, h1, h2, h3⟩
  · rintro ⟨h, h1, h2, h3⟩; exact ⟨h, ⟨h1, h2⟩, h3⟩

theorem open_loop (l : List Hd) (hl : l.length ≤ 200) : ∀ (d i : Nat), i + d = l.length → Ev (fun k => hold_Open.l0 k (reasons (l.take i)) l (l.length : Int) (i : Int)) (risen (reasons l)) := by
  intro d
  induction d with
  | zero =>
    intro i hi
    refine ev_now (fun k => ?_)
    have hr := reasons_len l
    simp only [hold_Open.l0]
    rw [if_neg (by omega), List.take_of_length_le (by omega)]
    unfold slices_Sort_int_int.f slices_Compact_int_int.f
    rw [if_pos (by omega)]
    rfl
  | succ d ih =>
    intro i hi
    have hlt : i < l.length := by omega
    have hn := ih (i + 1) (by omega)
    rw [reasons_next hlt] at hn
    have hr : (reasons (l.take i)).length ≤ 200 := Nat.le_trans (reasons_len _) (by simp; omega)
    have e : wrap64 ((i : Int) + 1) = ((i + 1 : Nat) : Int) := by rw [wrap_id (by omega) (by omega)]; rfl
    by_cases c : (l[i]).f2 = 0
    · rw [if_pos c] at hn
      refine Ev.step (f := fun k => hold_Open.l0 k (reasons (l.take i) ++ [(l[i]).f0]) l (l.length : Int) ((i + 1 : Nat) : Int)) (fun k => ?_) hn
      simp only [hold_Open.l0]
      rw [if_pos (by omega), if_pos (by omega), if_pos (by omega), rd_at hlt, if_pos c, if_pos (by omega), e]
    · rw [if_neg c, List.append_nil] at hn
      refine Ev.step (f := fun k => hold_Open.l0 k (reasons (l.take i)) l (l.length : Int) ((i + 1 : Nat) : Int)) (fun k => ?_) hn
      simp only [hold_Open.l0]
      rw [if_pos (by omega), if_pos (by omega), if_pos (by omega), rd_at hlt, if_neg c, e]
theorem open_ev (st v last : Int) (l : List Hd) (hl : l.length ≤ 200) : Ev (fun k => hold_Open.f k st v last l) (risen (reasons l)) := by
  unfold hold_Open.f
  have := open_loop l hl l.length 0 (by omega)
  simpa [reasons] using this

def publishR (st v last : Int) (l : List Hd) (time : Int) : Int × Int × Int × List Hd × Int :=
  if changeNilE st v last l time = 0 then (if (risen (reasons l)).length > 0 then (0, 0, 0, [], 16) else if v = 9999999 then (0, 0, 0, [], 3) else if st = 1 then (2, v + 1, time, l, 0) else (3, v + 1, time, l, 0)) else (0, 0, 0, [], changeNilE st v last l time)

def voidR (st v last : Int) (l : List Hd) (time : Int) : Int × Int × Int × List Hd × Int :=
  if changeNilE st v last l time = 0 then (4, v, time, l, 0) else (0, 0, 0, [], changeNilE st v last l time)

theorem nil_valid {st v last : Int} {l : List Hd} {time : Int} (h : changeNilE st v last l time = 0) : validE st v last l = 0 := by
  unfold changeNilE at h
  split at h
  · assumption
  · exact h

theorem publish_ev (st v last : Int) (l : List Hd) (time : Int) (hl : l.length ≤ 200) : Ev (fun k => hold_Publish.f k st v last l time) (publishR st v last l time) := by
  unfold hold_Publish.f publishR
  refine Ev.bind (change_nil_ev st v last l time (by omega)) ?_
  refine ev_if (fun c => ?_) (fun c => by rw [if_neg c]; exact Ev.now _)
  rw [if_pos c]
  have hv := valid_last (nil_valid c)
  refine Ev.bind (open_ev st v last l hl) ?_
  refine ev_if (fun c1 => by rw [if_pos (by omega)]; exact Ev.now _) (fun c1 => ?_)
  rw [if_neg (show ¬ (risen (reasons l)).length > 0 by omega)]
  refine ev_if (fun c2 => by rw [if_pos c2]; exact Ev.now _) (fun c2 => ?_)
  rw [if_neg c2]
  refine ev_bindc (at_ev st v last l time hl) ?_
  have hw : wrap64 (v + 1) = v + 1 := wrap_id (by omega) (by omega)
  simp only [hw]
  refine ev_if (fun c3 => by rw [if_pos c3]; exact Ev.now _) (fun c3 => by rw [if_neg c3]; exact Ev.now _)

theorem void_ev (st v last : Int) (l : List Hd) (time : Int) (hl : l.length ≤ 200) : Ev (fun k => hold_Void.f k st v last l time) (voidR st v last l time) := by
  unfold hold_Void.f voidR
  refine Ev.bind (change_nil_ev st v last l time (by omega)) ?_
  refine ev_if (fun c => ?_) (fun c => by rw [if_neg c]; exact Ev.now _)
  rw [if_pos c]
  refine ev_bindc (at_ev st v last l time hl) ?_
  exact Ev.now _

def doR (st v last : Int) (l : List Hd) (kind reason time : Int) : Int × Int × Int × List Hd × Int :=
  if kind = 0 then placeR st v last l reason time else if kind = 1 then liftR st v last l reason time else if kind = 2 then publishR st v last l time else voidR st v last l time
theorem about_ok {st v last : Int} {l : List Hd} {reason time : Int} (h : aboutE st v last l reason time = 0) : validE st v last l = 0 ∧ (1 ≤ reason ∧ reason ≤ 5) ∧ changeE st last time = 0 := by
  unfold aboutE at h
  split at h
  · rename_i hv
    split at h
    · omega
    · exact ⟨hv, by omega, h⟩
  · rename_i hv; exact absurd h hv
theorem nil_ok {st v last : Int} {l : List Hd} {time : Int} (h : changeNilE st v last l time = 0) : validE st v last l = 0 ∧ changeE st last time = 0 := by
  unfold changeNilE at h
  split at h
  · rename_i hv; exact ⟨hv, h⟩
  · rename_i hv; exact absurd h hv
theorem change_ok {st last time : Int} (h : changeE st last time = 0) : 1 ≤ time ∧ last ≤ time ∧ time ≤ 1099511627776 ∧ st ≠ 4 := by
  unfold changeE at h
  split at h
  · omega
  · split at h <;> omega
theorem do_err {st v last : Int} {l : List Hd} {kind reason time : Int} (h : (doR st v last l kind reason time).2.2.2.2 ≠ 0) : doR st v last l kind reason time = (0, 0, 0, [], (doR st v last l kind reason time).2.2.2.2) := by
  revert h
  unfold doR placeR liftR publishR voidR
  repeat' split
  all_goals (intro h; first | rfl | exact absurd rfl h)
theorem do_place {st v last : Int} {l : List Hd} {kind reason time : Int} (hk : kind = 0) (h : (doR st v last l kind reason time).2.2.2.2 = 0) : aboutE st v last l reason time = 0 ∧ l.length < 20 ∧ doR st v last l kind reason time = (st, v, time, l ++ [⟨reason, time, 0⟩], 0) := by
  have e : doR st v last l kind reason time = placeR st v last l reason time := by unfold doR; rw [if_pos hk]
  rw [e] at h ⊢
  unfold placeR at h ⊢
  by_cases c : aboutE st v last l reason time = 0
  · rw [if_pos c] at h ⊢
    by_cases c2 : l.length ≥ 20
    · rw [if_pos c2] at h; simp at h
    · rw [if_neg c2]; exact ⟨c, by omega, rfl⟩
  · rw [if_neg c] at h; exact absurd h c
theorem do_lift {st v last : Int} {l : List Hd} {kind reason time : Int} (hk : kind = 1) (h : (doR st v last l kind reason time).2.2.2.2 = 0) : aboutE st v last l reason time = 0 ∧ doR st v last l kind reason time = (st, v, time, l.map (liftH reason time), 0) := by
  have e : doR st v last l kind reason time = liftR st v last l reason time := by unfold doR; rw [if_neg (by omega), if_pos hk]
  rw [e] at h ⊢
  unfold liftR at h ⊢
  by_cases c : aboutE st v last l reason time = 0
  · rw [if_pos c] at h ⊢
    by_cases c2 : l.any (stands reason) = true
    · rw [if_pos c2]; exact ⟨c, rfl⟩
    · rw [if_neg c2] at h; simp at h
  · rw [if_neg c] at h; exact absurd h c
theorem do_publish {st v last : Int} {l : List Hd} {kind reason time : Int} (hk : kind = 2) (h : (doR st v last l kind reason time).2.2.2.2 = 0) : changeNilE st v last l time = 0 ∧ reasons l = [] ∧ v ≠ 9999999 ∧ doR st v last l kind reason time = ((if st = 1 then 2 else 3), v + 1, time, l, 0) := by
  have e : doR st v last l kind reason time = publishR st v last l time := by unfold doR; rw [if_neg (by omega), if_neg (by omega), if_pos hk]
  rw [e] at h ⊢
  unfold publishR at h ⊢
  by_cases c : changeNilE st v last l time = 0
  · rw [if_pos c] at h ⊢
    by_cases c2 : (risen (reasons l)).length > 0
    · rw [if_pos c2] at h; simp at h
    · rw [if_neg c2] at h ⊢
      have hz : reasons l = [] := by
        cases hR : reasons l with
        | nil => rfl
        | cons x t =>
          have := (risen_mem (reasons l) x).2 (by rw [hR]; exact List.mem_cons_self)
          have := List.length_pos_of_mem this
          omega
      by_cases c3 : v = 9999999
      · rw [if_pos c3] at h; simp at h
      · rw [if_neg c3]
        refine ⟨c, hz, c3, ?_⟩
        by_cases c4 : st = 1
        · rw [if_pos c4, if_pos c4]
        · rw [if_neg c4, if_neg c4]
  · rw [if_neg c] at h; exact absurd h c
theorem do_void {st v last : Int} {l : List Hd} {kind reason time : Int} (h0 : kind ≠ 0) (h1 : kind ≠ 1) (h2 : kind ≠ 2) (h : (doR st v last l kind reason time).2.2.2.2 = 0) : changeNilE st v last l time = 0 ∧ doR st v last l kind reason time = (4, v, time, l, 0) := by
  have e : doR st v last l kind reason time = voidR st v last l time := by unfold doR; rw [if_neg h0, if_neg h1, if_neg h2]
  rw [e] at h ⊢
  unfold voidR at h ⊢
  by_cases c : changeNilE st v last l time = 0
  · rw [if_pos c]; exact ⟨c, rfl⟩
  · rw [if_neg c] at h; exact absurd h c

theorem do_ev (st v last : Int) (l : List Hd) (kind reason time : Int) (hl : l.length ≤ 200) : Ev (fun k => examboardlaw54_do.f k st v last l kind reason time) (doR st v last l kind reason time) := by
  unfold examboardlaw54_do.f doR
  refine ev_if (fun c => ?_) (fun c => ?_)
  · rw [if_pos c]; exact Ev.bind (place_ev st v last l reason time hl) (Ev.now _)
  rw [if_neg c]
  refine ev_if (fun c => ?_) (fun c => ?_)
  · rw [if_pos c]; exact Ev.bind (lift_ev st v last l reason time hl) (Ev.now _)
  rw [if_neg c]
  refine ev_if (fun c => ?_) (fun c => ?_)
  · rw [if_pos c]; exact Ev.bind (publish_ev st v last l time hl) (Ev.now _)
  rw [if_neg c]
  exact Ev.bind (void_ev st v last l time hl) (Ev.now _)

theorem holdsErr_zero {last : Int} : ∀ {l : List Hd}, holdsErr last l = 0 ↔ ∀ h ∈ l, holdErr last h = 0
  | [] => ⟨fun _ _ h => (nomatch h), fun _ => rfl⟩
  | h :: t => by
    simp only [holdsErr]
    by_cases c : holdErr last h = 0
    · rw [if_pos c, holdsErr_zero (l := t)]
      exact ⟨fun hh x hx => (List.mem_cons.1 hx).elim (fun e => e ▸ c) (hh x), fun hh x hx => hh x (List.mem_cons_of_mem _ hx)⟩
    · rw [if_neg c]
      exact ⟨fun hh => absurd hh c, fun hh => absurd (hh h List.mem_cons_self) c⟩
theorem holdErr_zero {last : Int} {h : Hd} : holdErr last h = 0 ↔ (1 ≤ h.f0 ∧ h.f0 ≤ 5) ∧ (0 ≤ h.f1 ∧ h.f1 ≤ last) ∧ (0 ≤ h.f2 ∧ h.f2 ≤ last) ∧ (0 < h.f2 → h.f1 ≤ h.f2) := by
  unfold holdErr
  constructor
  · intro e
    split at e
    · omega
    split at e
    · omega
    split at e
    · omega
    refine ⟨by omega, by omega, by omega, fun _ => by omega⟩
  · rintro ⟨h1, h2, h3, h4⟩
    rw [if_neg (by omega), if_neg (by omega), if_neg (fun c => by have := h4 c.1; omega)]
theorem stErr_zero {st v : Int} : stErr st v = 0 ↔ (st = 1 → v = 0) ∧ (st = 2 → v = 1) ∧ (st = 3 → 2 ≤ v) := by
  unfold stErr
  constructor
  · intro e
    split at e
    · omega
    · refine ⟨fun _ => by omega, fun _ => by omega, fun _ => by omega⟩
  · rintro ⟨h1, h2, h3⟩
    rw [if_neg (by rintro (⟨a, b⟩ | ⟨a, b⟩ | ⟨a, b⟩) <;> omega)]
theorem valid_mk {st v last : Int} {l : List Hd} (h1 : 1 ≤ st ∧ st ≤ 4) (h2 : 0 ≤ v ∧ v ≤ 9999999) (h3 : 0 ≤ last ∧ last ≤ 1099511627776) (h4 : l.length ≤ 20) (h5 : ∀ h ∈ l, holdErr last h = 0) (h6 : stErr st v = 0) : validE st v last l = 0 := by
  unfold validE bodyErr
  rw [if_neg (by omega), if_neg (by omega), if_neg (by omega), if_pos (holdsErr_zero.2 h5)]
  exact h6
theorem valid_of {st v last : Int} {l : List Hd} (h : validE st v last l = 0) : (∀ h ∈ l, holdErr last h = 0) ∧ stErr st v = 0 := by
  have hb := (valid_last h).2.2.2.2
  unfold bodyErr at hb
  by_cases c : holdsErr last l = 0
  · rw [if_pos c] at hb; exact ⟨holdsErr_zero.1 c, hb⟩
  · rw [if_neg c] at hb; exact absurd hb c
theorem later {last time : Int} {h : Hd} (ht : last ≤ time) (e : holdErr last h = 0) : holdErr time h = 0 := by
  obtain ⟨h1, h2, h3, h4⟩ := holdErr_zero.1 e
  exact holdErr_zero.2 ⟨h1, by omega, by omega, h4⟩

theorem do_ok {st v last : Int} {l : List Hd} {kind reason time : Int} (h : (doR st v last l kind reason time).2.2.2.2 = 0) :
    ∃ (st2 v2 : Int) (l2 : List Hd), doR st v last l kind reason time = (st2, v2, time, l2, 0) ∧ validE st2 v2 time l2 = 0 ∧ last ≤ time ∧ l.length ≤ l2.length ∧ ∀ (i : Nat) (h1 : i < l.length) (h2 : i < l2.length), l2[i].f0 = l[i].f0 ∧ l2[i].f1 = l[i].f1 := by
  by_cases k0 : kind = 0
  · obtain ⟨ha, hlen, hX⟩ := do_place k0 h
    obtain ⟨hv, hr, hc⟩ := about_ok ha
    obtain ⟨t1, t2, t3, t4⟩ := change_ok hc
    obtain ⟨v1, v2, v3, v4, _⟩ := valid_last hv
    obtain ⟨hh, hs⟩ := valid_of hv
    refine ⟨st, v, l ++ [⟨reason, time, 0⟩], hX, valid_mk v1 v2 (by omega) (by simp; omega) (fun x hx => ?_) hs, t2, by simp, fun i h1 h2 => by rw [List.getElem_append_left h1]; exact ⟨rfl, rfl⟩⟩
    rcases List.mem_append.1 hx with hx | hx
    · exact later t2 (hh x hx)
    · rw [List.mem_singleton.1 hx]
      exact holdErr_zero.2 ⟨hr, (show 0 ≤ time ∧ time ≤ time by omega), (show (0 : Int) ≤ 0 ∧ (0 : Int) ≤ time by omega), fun c => by have : (0 : Int) < 0 := c; omega⟩
  by_cases k1 : kind = 1
  · obtain ⟨ha, hX⟩ := do_lift k1 h
    obtain ⟨hv, hr, hc⟩ := about_ok ha
    obtain ⟨t1, t2, t3, t4⟩ := change_ok hc
    obtain ⟨v1, v2, v3, v4, _⟩ := valid_last hv
    obtain ⟨hh, hs⟩ := valid_of hv
    refine ⟨st, v, l.map (liftH reason time), hX, valid_mk v1 v2 (by omega) (by simp; omega) (fun x hx => ?_) hs, t2, by simp, fun i h1 h2 => ?_⟩
    · obtain ⟨y, hy, e⟩ := List.mem_map.1 hx
      rw [← e]
      have hy' := hh y hy
      unfold liftH
      by_cases c : y.f0 = reason ∧ y.f2 = 0
      · rw [if_pos c]
        obtain ⟨a1, a2, a3, a4⟩ := holdErr_zero.1 hy'
        exact holdErr_zero.2 ⟨a1, (show 0 ≤ y.f1 ∧ y.f1 ≤ time by omega), (show 0 ≤ time ∧ time ≤ time by omega), fun _ => (show y.f1 ≤ time by omega)⟩
      · rw [if_neg c]; exact later t2 hy'
    · rw [List.getElem_map]
      unfold liftH
      by_cases c : l[i].f0 = reason ∧ l[i].f2 = 0
      · rw [if_pos c]; exact ⟨rfl, rfl⟩
      · rw [if_neg c]; exact ⟨rfl, rfl⟩
  by_cases k2 : kind = 2
  · obtain ⟨ha, _, hvn, hX⟩ := do_publish k2 h
    obtain ⟨hv, hc⟩ := nil_ok ha
    obtain ⟨t1, t2, t3, t4⟩ := change_ok hc
    obtain ⟨v1, v2, v3, v4, _⟩ := valid_last hv
    obtain ⟨hh, hs⟩ := valid_of hv
    obtain ⟨s1, s2, s3⟩ := stErr_zero.1 hs
    refine ⟨_, v + 1, l, hX, valid_mk ?_ (by omega) (by omega) v4 (fun x hx => later t2 (hh x hx)) ?_, t2, Nat.le_refl _, fun i h1 h2 => ⟨rfl, rfl⟩⟩
    · split <;> omega
    · by_cases c : st = 1
      · rw [if_pos c]
        have := s1 c
        exact stErr_zero.2 ⟨fun e => by omega, fun _ => by omega, fun e => by omega⟩
      · rw [if_neg c]
        refine stErr_zero.2 ⟨fun e => by omega, fun e => by omega, fun _ => ?_⟩
        rcases (show st = 2 ∨ st = 3 by omega) with e | e
        · have := s2 e; omega
        · have := s3 e; omega
  · obtain ⟨ha, hX⟩ := do_void k0 k1 k2 h
    obtain ⟨hv, hc⟩ := nil_ok ha
    obtain ⟨t1, t2, t3, t4⟩ := change_ok hc
    obtain ⟨v1, v2, v3, v4, _⟩ := valid_last hv
    obtain ⟨hh, _⟩ := valid_of hv
    exact ⟨4, v, l, hX, valid_mk (by omega) v2 (by omega) v4 (fun x hx => later t2 (hh x hx)) (stErr_zero.2 ⟨fun e => by omega, fun e => by omega, fun e => by omega⟩), t2, Nat.le_refl _, fun i h1 h2 => ⟨rfl, rfl⟩⟩

theorem rd2_at {l : List S32} {i : Nat} (h : i < l.length) : rd_T32 l (i : Int) = l[i] := by
  unfold rd_T32
  simp [h]
theorem inner (x0 : List S32) (i4 : Int) (st v last : Int) (l : List Hd) (st2 v2 last2 : Int) (l2 : List Hd) (hl : l.length ≤ 20) (hle : l.length ≤ l2.length) (hs : ∀ (i : Nat) (h1 : i < l.length) (h2 : i < l2.length), l2[i].f0 = l[i].f0 ∧ l2[i].f1 = l[i].f1)
    (hend : Ev (fun k => examboardlaw54_HoldHistory.l0 k x0 (wrap64 (i4 + 1)) st2 v2 last2 l2) true) : ∀ (d i : Nat), i + d = l.length → Ev (fun k => examboardlaw54_HoldHistory.l1 k x0 i4 (i : Int) st v last l st2 v2 last2 l2) true := by
  intro d
  induction d with
  | zero =>
    intro i hi
    refine Ev.step (fun k => ?_) hend
    rw [examboardlaw54_HoldHistory.l1.eq_2, if_neg (by omega)]
  | succ d ih =>
    intro i hi
    have hlt : i < l.length := by omega
    have hlt2 : i < l2.length := by omega
    obtain ⟨e0, e1⟩ := hs i hlt hlt2
    refine Ev.step (fun k => ?_) (ih (i + 1) (by omega))
    rw [examboardlaw54_HoldHistory.l1.eq_2, if_pos (by omega), if_pos (by omega), if_pos (by omega), rd_at hlt, rd_at hlt2, if_pos e0, if_pos e1, wrap_id (n := (i : Int) + 1) (by omega) (by omega)]
    rfl
theorem history_loop (x0 : List S32) : ∀ (d i : Nat) (st v last : Int) (l : List Hd), i + d = 60 → l.length ≤ 20 → Ev (fun k => examboardlaw54_HoldHistory.l0 k x0 (i : Int) st v last l) true := by
  intro d
  induction d with
  | zero =>
    intro i st v last l hi hl
    have hend : Ev (fun k => examboardlaw54_HoldHistory.j2 k x0 (i : Int) false st v last l) true := ev_now (fun k => by rw [examboardlaw54_HoldHistory.j2.eq_2, if_neg (by simp)])
    refine Ev.step (fun k => examboardlaw54_HoldHistory.l0.eq_2 ..) ?_
    rw [decide_eq_false (show ¬ (i : Int) < 60 by omega)]
    exact ev_if (fun _ => hend) (fun _ => hend)
  | succ d ih =>
    intro i st v last l hi hl
    refine Ev.step (fun k => examboardlaw54_HoldHistory.l0.eq_2 ..) ?_
    refine ev_if (fun hlt' => ?_) (fun _ => ev_now (fun k => by rw [examboardlaw54_HoldHistory.j2.eq_2, if_neg (by simp)]))
    have hlt : i < x0.length := by omega
    rw [decide_eq_true (show (i : Int) < 60 by omega)]
    have hw : wrap64 ((i : Int) + 1) = ((i + 1 : Nat) : Int) := by rw [wrap_id (by omega) (by omega)]; rfl
    have hrd := rd2_at hlt
    generalize hD : x0[i] = D at hrd
    refine Ev.step (f := fun k => (examboardlaw54_do.f k st v last l D.f0 D.f1 D.f2).bind fun bt221 => (if bt221.2.2.2.2 = 0 then ((hold_Valid.f k bt221.1 bt221.2.1 bt221.2.2.1 bt221.2.2.2.1).bind fun t229 => (if t229 = 0 then (if bt221.2.2.1 = D.f2 then (if bt221.2.2.1 < last then (none) else (examboardlaw54_HoldHistory.j3 k x0 (i : Int) (decide ((bt221.2.2.2.1.length : Int) < (l.length : Int))) st v last l bt221.1 bt221.2.1 bt221.2.2.1 bt221.2.2.2.1)) else (none)) else (none))) else (examboardlaw54_HoldHistory.l0 k x0 ((i + 1 : Nat) : Int) st v last l))) (fun k => ?_) ?_
    · rw [examboardlaw54_HoldHistory.j2.eq_2, if_pos rfl, if_pos (by omega), if_pos (by omega), hrd, hw]
    refine Ev.bind (do_ev st v last l D.f0 D.f1 D.f2 (by omega)) ?_
    refine ev_if (fun hok => ?_) (fun _ => ih (i + 1) st v last l (by omega) hl)
    obtain ⟨st2, v2, l2, hX, hval, hle, hlen, hs⟩ := do_ok hok
    rw [hX]
    have hl2 := (valid_last hval).2.2.2.1
    refine Ev.bind (valid_ev st2 v2 D.f2 l2 (by omega)) ?_
    refine ev_if (fun _ => ?_) (fun c => absurd hval c)
    refine ev_if (fun _ => ?_) (fun c => absurd rfl c)
    refine ev_if (fun c => absurd (show D.f2 < last from c) (by omega)) (fun _ => ?_)
    rw [decide_eq_false (show ¬ (l2.length : Int) < (l.length : Int) by omega)]
    refine Ev.step (f := fun k => examboardlaw54_HoldHistory.l1 k x0 (i : Int) ((0 : Nat) : Int) st v last l st2 v2 D.f2 l2) (fun k => by rw [examboardlaw54_HoldHistory.j3.eq_2, if_neg (by simp)]; rfl) ?_
    exact inner x0 (i : Int) st v last l st2 v2 D.f2 l2 hl hlen hs (by rw [hw]; exact ih (i + 1) st2 v2 D.f2 l2 (by omega) hl2) l.length 0 (Nat.zero_add _)
theorem HoldHistory : ∀ (l0 : List (S32)), l0.length ≤ maxLen → l0.length * 24 ≤ 140737488351232 → (∀ x_ ∈ l0, ((Lit.int .i64 x_.f0).wf = true ∧ (Lit.int .i64 x_.f1).wf = true ∧ (Lit.int .i64 x_.f2).wf = true)) → ∃ k, examboardlaw54_HoldHistory.f k l0 = some true := by
  intro x0 _ _ _
  refine Ev.rounds ?_
  unfold examboardlaw54_HoldHistory.f
  refine ev_bindc (show hold_New.f = some (1, 0, 0, []) from rfl) ?_
  refine ev_if (fun _ => ?_) (fun c => absurd rfl c)
  refine Ev.bind (valid_ev 1 0 0 [] (by simp)) ?_
  refine ev_if (fun _ => ?_) (fun c => absurd (by decide) c)
  refine Ev.bind (valid_ev 0 0 0 [] (by simp)) ?_
  rw [show (validE 0 0 0 [] == 0) = false by decide]
  refine Ev.step (f := fun k => examboardlaw54_HoldHistory.l0 k x0 ((0 : Nat) : Int) 1 0 0 []) (fun k => by rw [examboardlaw54_HoldHistory.j0.eq_2, if_neg (by simp)]; rfl) ?_
  exact history_loop x0 60 0 1 0 0 [] rfl (by simp)
end Go.Proofs.Ytgeplglggcoaiab.Pure
