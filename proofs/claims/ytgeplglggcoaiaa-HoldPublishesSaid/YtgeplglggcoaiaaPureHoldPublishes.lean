/- The pure statement of the law HoldPublishes: a record released or voided is the reference's. -/
import Derived.Test.YtgeplglggcoaiaaHoldx12
import Derived.Test.YtgeplglggcoaiaaHoldx13
import Derived.Test.YtgeplglggcoaiaaHoldx15
import Derived.Test.YtgeplglggcoaiaaHoldx17
import Derived.Test.YtgeplglggcoaiaaHoldx24
import Derived.Test.YtgeplglggcoaiaaHoldx25
import Derived.Test.YtgeplglggcoaiaaHoldx3
import Derived.Test.YtgeplglggcoaiaaHoldx30
import Derived.Test.YtgeplglggcoaiaaHoldx31
import Derived.Test.YtgeplglggcoaiaaHoldx32
import Derived.Test.YtgeplglggcoaiaaHoldx33
import Derived.Test.YtgeplglggcoaiaaHoldx34
import Derived.Test.YtgeplglggcoaiaaHoldx4
import Derived.Test.YtgeplglggcoaiaaHoldx5
import Derived.Test.YtgeplglggcoaiaaHoldx6
import Derived.Test.YtgeplglggcoaiaaHoldx9
import Derived.Lib.SlicesCompact
import Derived.Lib.RowBridge
namespace Go.Proofs.Ytgeplglggcoaiaa.Pure
open Go.RowKit Go.Lib Go.Proofs.Ytgeplglggcoaiaa.Hold Go.Proofs.YtgeplglggcoaiaaW.PrintWords Go.Proofs.YtgeplglggcoaiaaW.PrintLast Go.Proofs.YtgeplglggcoaiaaW.PrintMore

theorem wrap_id {n : Int} (h0 : -9223372036854775808 ≤ n) (h1 : n ≤ 9223372036854775807) : wrap64 n = n := by unfold wrap64; omega
theorem ev_now {α : Type} {g : Nat → Option α} {r : α} (h : ∀ k, g (k + 1) = some r) : Ev g r := Ev.step (f := fun _ => some r) h (Ev.now r)
theorem ev_const {α : Type} {o : Option α} {r : α} (h : o = some r) : Ev (fun _ => o) r := ⟨0, fun _ _ => h⟩
theorem ev_bindc {α β : Type} {o : Option α} {f : Nat → α → Option β} {a : α} {r : β} (h : o = some a) (k : Ev (fun n => f n a) r) : Ev (fun n => o.bind (f n)) r := by
  subst h
  exact k
theorem ev_if {α : Type} {c : Prop} [Decidable c] {f g : Nat → Option α} {r : α} (hy : c → Ev f r) (hn : ¬ c → Ev g r) : Ev (fun k => if c then f k else g k) r := by
  by_cases h : c
  · simp only [if_pos h]; exact hy h
  · simp only [if_neg h]; exact hn h

abbrev Hd := S30
instance hdEq : DecidableEq S30 := fun a b =>
  if h : a.f0 = b.f0 ∧ a.f1 = b.f1 ∧ a.f2 = b.f2 then isTrue (by cases a; cases b; simp_all) else isFalse (fun e => h (by rw [e]; exact ⟨rfl, rfl, rfl⟩))
theorem rd_at {l : List Hd} {i : Nat} (h : i < l.length) : rd_T30 l (i : Int) = l[i] := by
  unfold rd_T30
  simp [h]
theorem drop_at {l : List Hd} {i : Nat} (h : i < l.length) : l.drop i = l[i] :: l.drop (i + 1) := by simp

/-! ### validity -/
def holdErr (last : Int) (h : Hd) : Int := if h.f0 < 1 ∨ 5 < h.f0 then 1 else if h.f1 < 0 ∨ last < h.f1 ∨ h.f2 < 0 ∨ last < h.f2 then 3 else if 0 < h.f2 ∧ h.f2 < h.f1 then 15 else 0
def holdsErr (last : Int) : List Hd → Int
  | [] => 0
  | h :: t => if holdErr last h = 0 then holdsErr last t else holdErr last h
def stErr (st v : Int) : Int := if (st = 1 ∧ v ≠ 0) ∨ (st = 2 ∧ v ≠ 1) ∨ (st = 3 ∧ v < 2) then 8 else 0
def bodyErr (st v last : Int) (l : List Hd) : Int := if holdsErr last l = 0 then stErr st v else holdsErr last l
theorem bodyErr_cons (st v last : Int) (h : Hd) (t : List Hd) : bodyErr st v last (h :: t) = if holdErr last h = 0 then bodyErr st v last t else holdErr last h := by
  unfold bodyErr
  by_cases c : holdErr last h = 0
  · have e : holdsErr last (h :: t) = holdsErr last t := by simp only [holdsErr]; rw [if_pos c]
    rw [e, if_pos c]
  · have e : holdsErr last (h :: t) = holdErr last h := by simp only [holdsErr]; rw [if_neg c]
    rw [e, if_neg c, if_neg c]
def validE (st v last : Int) (l : List Hd) : Int :=
  if st < 1 ∨ 4 < st then 1 else if v < 0 ∨ 9999999 < v ∨ last < 0 ∨ 1099511627776 < last then 3 else if 20 < l.length then 5 else bodyErr st v last l

/-- The last test of both texts. -/
theorem st_text (st v : Int) : (if st = 1 then (if v = 0 then (if st = 2 then (if v = 1 then (if st = 3 then (if v < 2 then (some 8) else (some 0)) else (some 0)) else (some 8)) else (if st = 3 then (if v < 2 then (some 8) else (some 0)) else (some 0))) else (some 8)) else (if st = 2 then (if v = 1 then (if st = 3 then (if v < 2 then (some 8) else (some 0)) else (some 0)) else (some 8)) else (if st = 3 then (if v < 2 then (some 8) else (some 0)) else (some (0 : Int))))) = some (stErr st v) := by
  unfold stErr
  by_cases h1 : st = 1
  · subst h1
    by_cases h : v = 0 <;> simp [h]
  · by_cases h2 : st = 2
    · subst h2
      by_cases h : v = 1 <;> simp [h]
    · by_cases h3 : st = 3
      · subst h3
        by_cases h : v < 2 <;> simp [h]
      · simp [h1, h2, h3]

/-! ### changes -/
def changeE (st last time : Int) : Int := if time < 1 ∨ time < last ∨ 1099511627776 < time then 15 else if st = 4 then 21 else 0
def aboutE (st v last : Int) (l : List Hd) (reason time : Int) : Int := if validE st v last l = 0 then (if reason < 1 ∨ 5 < reason then 1 else changeE st last time) else validE st v last l
def changeNilE (st v last : Int) (l : List Hd) (time : Int) : Int := if validE st v last l = 0 then changeE st last time else validE st v last l

theorem valid_last {st v last : Int} {l : List Hd} (h : validE st v last l = 0) : (1 ≤ st ∧ st ≤ 4) ∧ (0 ≤ v ∧ v ≤ 9999999) ∧ (0 ≤ last ∧ last ≤ 1099511627776) ∧ l.length ≤ 20 ∧ bodyErr st v last l = 0 := by
  unfold validE at h
  split at h
  · omega
  split at h
  · omega
  split at h
  · omega
  exact ⟨by omega, by omega, by omega, by omega, h⟩

theorem within_ev (a b c : Int) : hold_within.f a b c = some (decide (b ≤ a ∧ a ≤ c)) := by
  unfold hold_within.f
  by_cases h : b ≤ a <;> simp [h]
theorem reasons_ev (a : Int) : hold_reasons.f a = some (decide (1 ≤ a ∧ a ≤ 5)) := by
  unfold hold_reasons.f
  rw [within_ev]; rfl

theorem holds_ev (last : Int) (h : Hd) : Ev (fun k => hold_holds.f k h.f0 h.f1 h.f2 last) (holdErr last h) := by
  unfold hold_holds.f
  refine ev_bindc (reasons_ev _) ?_
  refine ev_if (fun c0 => ?_) (fun c0 => ?_)
  · have c0 : 1 ≤ h.f0 ∧ h.f0 ≤ 5 := by simpa using c0
    refine ev_bindc (within_ev _ _ _) ?_
    refine ev_if (fun c1 => ?_) (fun c1 => ?_)
    · have c1 : 0 ≤ h.f1 ∧ h.f1 ≤ last := by simpa using c1
      refine ev_bindc (within_ev _ _ _) ?_
      refine ev_now (fun k => ?_)
      by_cases c2 : 0 ≤ h.f2 ∧ h.f2 ≤ last
      · by_cases c3 : 0 < h.f2 ∧ h.f2 < h.f1
        · unfold holdErr
          rw [if_neg (by omega), if_neg (by omega), if_pos c3]
          simp only [hold_holds.j0, c2, and_self, decide_true, Bool.not_true, Bool.false_eq_true, if_false]
          rw [if_pos (by omega), if_pos (by omega)]
        · unfold holdErr
          rw [if_neg (by omega), if_neg (by omega), if_neg c3]
          simp only [hold_holds.j0, c2, and_self, decide_true, Bool.not_true, Bool.false_eq_true, if_false]
          by_cases c4 : h.f2 > 0
          · rw [if_pos c4, if_neg (by omega)]
          · rw [if_neg c4]
      · unfold holdErr
        rw [if_neg (by omega), if_pos (by omega)]
        simp [hold_holds.j0, c2]
    · have c1 : ¬ (0 ≤ h.f1 ∧ h.f1 ≤ last) := by simpa using c1
      refine ev_now (fun k => ?_)
      unfold holdErr
      rw [if_neg (by omega), if_pos (by omega)]
      simp [hold_holds.j0]
  · have c0 : ¬ (1 ≤ h.f0 ∧ h.f0 ≤ 5) := by simpa using c0
    refine ev_const ?_
    unfold holdErr
    rw [if_pos (by omega)]

theorem valid_loop (l : List Hd) (st v last : Int) (hl : l.length ≤ 4611686018427387904) : ∀ (d i : Nat), i + d = l.length → Ev (fun k => hold_Valid.l0 k l (l.length : Int) (i : Int) st v last l) (bodyErr st v last (l.drop i)) := by
  intro d
  induction d with
  | zero =>
    intro i hi
    refine ev_now (fun k => ?_)
    simp only [hold_Valid.l0]
    rw [if_neg (by omega), List.drop_of_length_le (by omega)]
    simp only [bodyErr, holdsErr, if_true]
    exact st_text st v
  | succ d ih =>
    intro i hi
    have hlt : i < l.length := by omega
    refine Ev.step (f := fun k => (hold_holds.f k (l[i]).f0 (l[i]).f1 (l[i]).f2 last).bind fun t => if t = 0 then hold_Valid.l0 k l (l.length : Int) ((i + 1 : Nat) : Int) st v last l else some t) (fun k => ?_) ?_
    · simp only [hold_Valid.l0]
      rw [if_pos (by omega), if_pos (by omega), if_pos (by omega), rd_at hlt, wrap_id (by omega) (by omega)]
      rfl
    · refine Ev.bind (holds_ev last l[i]) ?_
      rw [drop_at hlt]
      refine ev_if (fun c => ?_) (fun c => ?_)
      · have := ih (i + 1) (by omega)
        rw [bodyErr_cons, if_pos c]
        exact this
      · refine ev_const ?_
        rw [bodyErr_cons, if_neg c]
theorem valid_ev (st v last : Int) (l : List Hd) (hl : l.length ≤ 4611686018427387904) : Ev (fun k => hold_Valid.f k st v last l) (validE st v last l) := by
  unfold hold_Valid.f
  have j0t : Ev (fun k => hold_Valid.j0 k true st v last l) 3 := ev_now (fun k => by simp [hold_Valid.j0])
  refine ev_bindc (within_ev _ _ _) ?_
  refine ev_if (fun c0 => ?_) (fun c0 => ?_)
  · have c0 : 1 ≤ st ∧ st ≤ 4 := by simpa using c0
    refine ev_bindc (within_ev _ _ _) ?_
    refine ev_if (fun c1 => ?_) (fun c1 => ?_)
    · have c1 : 0 ≤ v ∧ v ≤ 9999999 := by simpa using c1
      refine ev_bindc (within_ev _ _ _) ?_
      by_cases c2 : 0 ≤ last ∧ last ≤ 1099511627776
      · have e : (!decide (0 ≤ last ∧ last ≤ 1099511627776)) = false := by simp [c2]
        rw [e]
        unfold validE
        rw [if_neg (by omega), if_neg (by omega)]
        refine Ev.step (f := fun k => if (l.length : Int) > 20 then some 5 else hold_Valid.l0 k l (l.length : Int) 0 st v last l) (fun k => by simp only [hold_Valid.j0]; rfl) ?_
        refine ev_if (fun c3 => ?_) (fun c3 => ?_)
        · rw [if_pos (by omega)]; exact Ev.now _
        · rw [if_neg (by omega)]
          have := valid_loop l st v last hl l.length 0 (by omega)
          simpa using this
      · have e : (!decide (0 ≤ last ∧ last ≤ 1099511627776)) = true := by simp [c2]
        rw [e]
        unfold validE
        rw [if_neg (by omega), if_pos (by omega)]
        exact j0t
    · have c1 : ¬ (0 ≤ v ∧ v ≤ 9999999) := by simpa using c1
      unfold validE
      rw [if_neg (by omega), if_pos (by omega)]
      exact j0t
  · have c0 : ¬ (1 ≤ st ∧ st ≤ 4) := by simpa using c0
    unfold validE
    rw [if_pos (by omega)]
    exact Ev.now _

theorem ref_loop (l : List Hd) (st v last : Int) (hl : l.length ≤ 4611686018427387904) : ∀ (d i : Nat), i + d = l.length → Ev (fun k => examboardref54_holds.l0 k (i : Int) st v last l) (holdsErr last (l.drop i)) := by
  intro d
  induction d with
  | zero =>
    intro i hi
    refine ev_now (fun k => ?_)
    simp only [examboardref54_holds.l0]
    rw [if_neg (by omega), List.drop_of_length_le (by omega)]
    rfl
  | succ d ih =>
    intro i hi
    have hlt : i < l.length := by omega
    have hw : wrap64 ((i : Int) + 1) = ((i + 1 : Nat) : Int) := by rw [wrap_id (by omega) (by omega)]; rfl
    have hn := ih (i + 1) (by omega)
    rw [drop_at hlt]
    generalize hx : l[i] = h at *
    have hrd : rd_T30 l (i : Int) = h := by rw [rd_at hlt, hx]
    -- behind the reason's test
    have j2t : Ev (fun k => examboardref54_holds.j2 k (i : Int) true st v last l h.f0 h.f1 h.f2) 3 := ev_now (fun k => by simp [examboardref54_holds.j2])
    have j1f : (1 ≤ h.f0 ∧ h.f0 ≤ 5) → Ev (fun k => examboardref54_holds.j1 k (i : Int) false st v last l h.f0 h.f1 h.f2) (holdsErr last (h :: l.drop (i + 1))) := by
      intro c0
      refine Ev.step (f := fun k => if h.f1 < 0 then (examboardref54_holds.j2 k (i : Int) true st v last l h.f0 h.f1 h.f2) else (if h.f1 > last then (examboardref54_holds.j2 k (i : Int) true st v last l h.f0 h.f1 h.f2) else (if h.f2 < 0 then (examboardref54_holds.j2 k (i : Int) true st v last l h.f0 h.f1 h.f2) else (examboardref54_holds.j2 k (i : Int) (decide (h.f2 > last)) st v last l h.f0 h.f1 h.f2)))) (fun k => by simp only [examboardref54_holds.j1]; rfl) ?_
      have bad : (h.f1 < 0 ∨ last < h.f1 ∨ h.f2 < 0 ∨ last < h.f2) → holdsErr last (h :: l.drop (i + 1)) = 3 := by
        intro c
        have e : holdErr last h = 3 := by unfold holdErr; rw [if_neg (by omega), if_pos c]
        simp only [holdsErr]
        rw [e]; rfl
      refine ev_if (fun c1 => ?_) (fun c1 => ?_)
      · rw [bad (by omega)]; exact j2t
      refine ev_if (fun c2 => ?_) (fun c2 => ?_)
      · rw [bad (by omega)]; exact j2t
      refine ev_if (fun c3 => ?_) (fun c3 => ?_)
      · rw [bad (by omega)]; exact j2t
      by_cases c4 : h.f2 > last
      · rw [bad (by omega), decide_eq_true c4]; exact j2t
      rw [decide_eq_false c4]
      refine Ev.step (f := fun k => if h.f2 > 0 then (if h.f2 < h.f1 then some 15 else examboardref54_holds.l0 k (wrap64 ((i : Int) + 1)) st v last l) else examboardref54_holds.l0 k (wrap64 ((i : Int) + 1)) st v last l) (fun k => by simp only [examboardref54_holds.j2]; rfl) ?_
      have good : ¬ (0 < h.f2 ∧ h.f2 < h.f1) → holdsErr last (h :: l.drop (i + 1)) = holdsErr last (l.drop (i + 1)) := by
        intro c
        have e : holdErr last h = 0 := by unfold holdErr; rw [if_neg (by omega), if_neg (by omega), if_neg c]
        simp only [holdsErr]
        rw [if_pos e]
      rw [hw]
      refine ev_if (fun c5 => ?_) (fun c5 => ?_)
      · refine ev_if (fun c6 => ?_) (fun c6 => ?_)
        · have e : holdErr last h = 15 := by unfold holdErr; rw [if_neg (by omega), if_neg (by omega), if_pos (by omega)]
          simp only [holdsErr]
          rw [e]
          exact Ev.now _
        · rw [good (by omega)]; exact hn
      · rw [good (by omega)]; exact hn
    have j1t : Ev (fun k => examboardref54_holds.j1 k (i : Int) true st v last l h.f0 h.f1 h.f2) 1 := ev_now (fun k => by simp [examboardref54_holds.j1])
    have bad : (h.f0 < 1 ∨ 5 < h.f0) → holdsErr last (h :: l.drop (i + 1)) = 1 := by
      intro c
      have e : holdErr last h = 1 := by unfold holdErr; rw [if_pos c]
      simp only [holdsErr]
      rw [e]; rfl
    refine Ev.step (f := fun k => if h.f0 < 1 then examboardref54_holds.j1 k (i : Int) true st v last l h.f0 h.f1 h.f2 else examboardref54_holds.j1 k (i : Int) (decide (h.f0 > 5)) st v last l h.f0 h.f1 h.f2) (fun k => ?_) ?_
    · simp only [examboardref54_holds.l0]
      rw [if_pos (by omega), if_pos (by omega), hrd]
    refine ev_if (fun c => ?_) (fun c => ?_)
    · rw [bad (by omega)]; exact j1t
    by_cases c' : h.f0 > 5
    · rw [bad (by omega), decide_eq_true c']; exact j1t
    · rw [decide_eq_false c']; exact j1f (by omega)
theorem ref_valid_ev (st v last : Int) (l : List Hd) (hl : l.length ≤ 4611686018427387904) : Ev (fun k => examboardref54_Valid.f k st v last l) (validE st v last l) := by
  unfold examboardref54_Valid.f
  have j1f : (1 ≤ st ∧ st ≤ 4) → (0 ≤ v ∧ v ≤ 9999999 ∧ 0 ≤ last ∧ last ≤ 1099511627776) → Ev (fun k => examboardref54_Valid.j1 k false st v last l) (validE st v last l) := by
    intro c0 c1
    refine Ev.step (f := fun k => if (l.length : Int) > 20 then some 5 else (examboardref54_holds.f k st v last l).bind fun t => if t = 0 then some (stErr st v) else some t) (fun k => ?_) ?_
    · simp only [examboardref54_Valid.j1, st_text]; rfl
    unfold validE
    rw [if_neg (by omega), if_neg (by omega)]
    refine ev_if (fun c3 => ?_) (fun c3 => ?_)
    · rw [if_pos (by omega)]; exact Ev.now _
    · rw [if_neg (by omega)]
      have h := ref_loop l st v last hl l.length 0 (by omega)
      refine Ev.bind (a := holdsErr last l) (by simpa [examboardref54_holds.f] using h) ?_
      unfold bodyErr
      refine ev_if (fun c => ?_) (fun c => ?_)
      · rw [if_pos c]; exact Ev.now _
      · rw [if_neg c]; exact Ev.now _
  have j1t : Ev (fun k => examboardref54_Valid.j1 k true st v last l) 3 := ev_now (fun k => by simp [examboardref54_Valid.j1])
  have j0t : Ev (fun k => examboardref54_Valid.j0 k true st v last l) 1 := ev_now (fun k => by simp [examboardref54_Valid.j0])
  have j0f : (1 ≤ st ∧ st ≤ 4) → Ev (fun k => examboardref54_Valid.j0 k false st v last l) (validE st v last l) := by
    intro c0
    have bad : (v < 0 ∨ 9999999 < v ∨ last < 0 ∨ 1099511627776 < last) → validE st v last l = 3 := by
      intro c
      unfold validE
      rw [if_neg (by omega), if_pos c]
    refine Ev.step (f := fun k => if v < 0 then (examboardref54_Valid.j1 k true st v last l) else (if v > 9999999 then (examboardref54_Valid.j1 k true st v last l) else (if last < 0 then (examboardref54_Valid.j1 k true st v last l) else (examboardref54_Valid.j1 k (decide (last > 1099511627776)) st v last l)))) (fun k => by simp only [examboardref54_Valid.j0]; rfl) ?_
    refine ev_if (fun c1 => ?_) (fun c1 => ?_)
    · rw [bad (by omega)]; exact j1t
    refine ev_if (fun c2 => ?_) (fun c2 => ?_)
    · rw [bad (by omega)]; exact j1t
    refine ev_if (fun c3 => ?_) (fun c3 => ?_)
    · rw [bad (by omega)]; exact j1t
    by_cases c4 : last > 1099511627776
    · rw [bad (by omega), decide_eq_true c4]; exact j1t
    · rw [decide_eq_false c4]; exact j1f c0 (by omega)
  refine ev_if (fun c => ?_) (fun c => ?_)
  · unfold validE; rw [if_pos (by omega)]; exact j0t
  by_cases c' : st > 4
  · rw [decide_eq_true c']; unfold validE; rw [if_pos (by omega)]; exact j0t
  · rw [decide_eq_false c']; exact j0f (by omega)

/-- hold.change's two tests of the time are the reference's. -/
theorem change_text {st last time : Int} (hl : 0 ≤ last) : (if time = 0 then some 15 else ((hold_within.f time last 1099511627776).bind fun t2 => if t2 = true then (if st = 4 then some 21 else some 0) else some (15 : Int))) = some (changeE st last time) := by
  rw [within_ev]
  unfold changeE
  by_cases h0 : time = 0
  · rw [if_pos h0, if_pos (by omega)]
  · rw [if_neg h0]
    by_cases h1 : last ≤ time ∧ time ≤ 1099511627776
    · have hc : ¬ (time < 1 ∨ time < last ∨ 1099511627776 < time) := by omega
      rw [if_neg hc]
      simp only [Option.bind_some, h1, and_self, decide_true, if_true]
      by_cases h2 : st = 4 <;> simp [h2]
    · have hc : time < 1 ∨ time < last ∨ 1099511627776 < time := by omega
      rw [if_pos hc]
      simp [h1]

theorem change_nil_ev (st v last : Int) (l : List Hd) (time : Int) (hl : l.length ≤ 4611686018427387904) : Ev (fun k => hold_change_nil.f k st v last l time) (changeNilE st v last l time) := by
  unfold hold_change_nil.f
  refine Ev.bind (valid_ev st v last l hl) ?_
  unfold changeNilE
  refine ev_if (fun c => ?_) (fun c => ?_)
  · rw [if_pos c]
    exact ev_const (change_text (valid_last c).2.2.1.1)
  · rw [if_neg c]; exact Ev.now _

theorem ref_change_ev (st v last : Int) (l : List Hd) (time : Int) : Ev (fun k => examboardref54_change.f k st v last l time) (changeE st last time) := by
  unfold examboardref54_change.f
  have jt : Ev (fun k => examboardref54_change.j0 k true st v last l) 15 := ev_now (fun k => by simp [examboardref54_change.j0])
  unfold changeE
  refine ev_if (fun c => ?_) (fun c => ?_)
  · rw [if_pos (by omega)]; exact jt
  refine ev_if (fun c1 => ?_) (fun c1 => ?_)
  · rw [if_pos (by omega)]; exact jt
  by_cases c2 : time > 1099511627776
  · rw [if_pos (by omega), decide_eq_true c2]; exact jt
  · rw [if_neg (by omega), decide_eq_false c2]
    refine ev_now (fun k => ?_)
    by_cases h4 : st = 4 <;> simp [examboardref54_change.j0, h4]

/-! ### copies -/
theorem at_ev (st v last : Int) (l : List Hd) (time : Int) (hl : l.length ≤ 200) : hold_at.f st v last l time = some (st, v, time, l) := by
  unfold hold_at.f api_Hold.f
  rw [if_pos (by omega)]; rfl

theorem ref_at_loop (l : List Hd) (st v last a b c : Int) (hl : l.length ≤ 200) : ∀ (d i : Nat), i + d = l.length → Ev (fun k => examboardref54_at.l0 k (i : Int) st v last l a b c (l.take i)) (a, b, c, l) := by
  intro d
  induction d with
  | zero =>
    intro i hi
    refine ev_now (fun k => ?_)
    simp only [examboardref54_at.l0]
    rw [if_neg (by omega), List.take_of_length_le (by omega)]
  | succ d ih =>
    intro i hi
    have hlt : i < l.length := by omega
    refine Ev.step (f := fun k => examboardref54_at.l0 k ((i + 1 : Nat) : Int) st v last l a b c (l.take (i + 1))) (fun k => ?_) (ih (i + 1) (by omega))
    simp only [examboardref54_at.l0]
    rw [if_pos (by omega), if_pos (by omega), if_pos (by rw [List.length_take]; omega), rd_at hlt, wrap_id (by omega) (by omega), List.take_succ_eq_append_getElem hlt]
    rfl
theorem ref_at_ev (st v last : Int) (l : List Hd) (time : Int) (hl : l.length ≤ 200) : Ev (fun k => examboardref54_at.f k st v last l time) (st, v, time, l) := by
  unfold examboardref54_at.f
  have := ref_at_loop l st v last st v time hl l.length 0 (by omega)
  simpa using this

/-! ### two records are the same -/
def sameB (a0 a1 a2 : Int) (l : List Hd) (b0 b1 b2 : Int) (m : List Hd) : Bool := decide (a0 = b0 ∧ a1 = b1 ∧ a2 = b2 ∧ l = m)
theorem drop_eq_iff {l m : List Hd} {i : Nat} (hl : i < l.length) (hm : i < m.length) : (l.drop i = m.drop i) ↔ (l[i] = m[i] ∧ l.drop (i + 1) = m.drop (i + 1)) := by
  rw [drop_at hl, drop_at hm, List.cons.injEq]
theorem same_loop (l m : List Hd) (a0 a1 a2 b0 b1 b2 : Int) (he : l.length = m.length) (hl : l.length ≤ 4611686018427387904) : ∀ (d i : Nat), i + d = l.length →
    Ev (fun k => examboardlaw54_same.l0 k (i : Int) a0 a1 a2 l b0 b1 b2 m) (decide (l.drop i = m.drop i)) := by
  intro d
  induction d with
  | zero =>
    intro i hi
    refine ev_now (fun k => ?_)
    simp only [examboardlaw54_same.l0]
    rw [if_neg (by omega), List.drop_of_length_le (by omega), List.drop_of_length_le (by omega)]
    simp
  | succ d ih =>
    intro i hi
    have hlt : i < l.length := by omega
    have hlm : i < m.length := by omega
    refine Ev.step (f := fun k => if l[i] = m[i] then examboardlaw54_same.l0 k ((i + 1 : Nat) : Int) a0 a1 a2 l b0 b1 b2 m else some false) (fun k => ?_) ?_
    · simp only [examboardlaw54_same.l0]
      rw [if_pos (by omega), if_pos (by omega), if_pos (by omega), rd_at hlt, rd_at hlm, wrap_id (by omega) (by omega)]
      have key : ((!(l[i].f0 == m[i].f0) || (!(l[i].f1 == m[i].f1) || (!(l[i].f2 == m[i].f2)))) = true) ↔ ¬ l[i] = m[i] := by
        generalize l[i] = x
        generalize m[i] = y
        obtain ⟨x0, x1, x2⟩ := x
        obtain ⟨y0, y1, y2⟩ := y
        by_cases h0 : x0 = y0 <;> by_cases h1 : x1 = y1 <;> by_cases h2 : x2 = y2 <;> simp [h0, h1, h2]
      by_cases c : l[i] = m[i]
      · rw [if_neg (by rw [key]; simp [c]), if_pos c]; rfl
      · rw [if_pos (key.2 c), if_neg c]
    · refine ev_if (fun c => ?_) (fun c => ?_)
      · have := ih (i + 1) (by omega)
        rw [show decide (l.drop i = m.drop i) = decide (l.drop (i + 1) = m.drop (i + 1)) from by
          rw [decide_eq_decide, drop_eq_iff hlt hlm]; simp [c]]
        exact this
      · rw [show decide (l.drop i = m.drop i) = false from by
          rw [decide_eq_false_iff_not, drop_eq_iff hlt hlm]; simp [c]]
        exact Ev.now _
theorem same_ev (a0 a1 a2 : Int) (l : List Hd) (b0 b1 b2 : Int) (m : List Hd) (hl : l.length ≤ 4611686018427387904) : Ev (fun k => examboardlaw54_same.f k a0 a1 a2 l b0 b1 b2 m) (sameB a0 a1 a2 l b0 b1 b2 m) := by
  unfold examboardlaw54_same.f
  have jt : Ev (fun k => examboardlaw54_same.j0 k true a0 a1 a2 l b0 b1 b2 m) false := ev_now (fun k => by simp [examboardlaw54_same.j0])
  refine ev_if (fun c0 => ?_) (fun c0 => ?_)
  · refine ev_if (fun c1 => ?_) (fun c1 => ?_)
    · refine ev_if (fun c2 => ?_) (fun c2 => ?_)
      · by_cases c3 : l.length = m.length
        · have e : ((l.length : Int) != (m.length : Int)) = false := by simp [c3]
          rw [e]
          refine Ev.step (f := fun k => examboardlaw54_same.l0 k 0 a0 a1 a2 l b0 b1 b2 m) (fun k => by simp [examboardlaw54_same.j0]) ?_
          have := same_loop l m a0 a1 a2 b0 b1 b2 c3 hl l.length 0 (by omega)
          simp only [List.drop_zero] at this
          rw [show sameB a0 a1 a2 l b0 b1 b2 m = decide (l = m) from by simp [sameB, c0, c1, c2]]
          exact this
        · have e : ((l.length : Int) != (m.length : Int)) = true := by simp; omega
          rw [e, show sameB a0 a1 a2 l b0 b1 b2 m = false from by simp [sameB]; intro _ _ _ h; exact c3 (by rw [h])]
          exact jt
      · rw [show sameB a0 a1 a2 l b0 b1 b2 m = false from by simp [sameB, c2]]; exact jt
    · rw [show sameB a0 a1 a2 l b0 b1 b2 m = false from by simp [sameB, c1]]; exact jt
  · rw [show sameB a0 a1 a2 l b0 b1 b2 m = false from by simp [sameB, c0]]; exact jt
theorem same_refl (a0 a1 a2 : Int) (l : List Hd) : sameB a0 a1 a2 l a0 a1 a2 l = true := by simp [sameB]

def Rising (l : List Int) : Prop := l.Pairwise (· < ·)
theorem rising_unique : ∀ {a b : List Int}, Rising a → Rising b → (∀ x, x ∈ a ↔ x ∈ b) → a = b
  | [], [], _, _, _ => rfl
  | [], y :: b, _, _, h => by have := (h y).2 (List.mem_cons_self); cases this
  | x :: a, [], _, _, h => by have := (h x).1 (List.mem_cons_self); cases this
  | x :: a, y :: b, ha, hb, h => by
    obtain ⟨ha1, ha2⟩ := List.pairwise_cons.1 ha
    obtain ⟨hb1, hb2⟩ := List.pairwise_cons.1 hb
    have hxy : x = y := by
      rcases List.mem_cons.1 ((h x).1 List.mem_cons_self) with h1 | h1
      · exact h1
      · rcases List.mem_cons.1 ((h y).2 List.mem_cons_self) with h2 | h2
        · exact h2.symm
        · have := ha1 y h2
          have := hb1 x h1
          omega
    subst hxy
    congr 1
    refine rising_unique ha2 hb2 (fun z => ⟨fun hz => ?_, fun hz => ?_⟩)
    · rcases List.mem_cons.1 ((h z).1 (List.mem_cons_of_mem _ hz)) with h1 | h1
      · have := ha1 z hz
        omega
      · exact h1
    · rcases List.mem_cons.1 ((h z).2 (List.mem_cons_of_mem _ hz)) with h1 | h1
      · have := hb1 z hz
        omega
      · exact h1

theorem sorted_at {l : List Int} (hs : l.Pairwise (· ≤ ·)) {i j : Nat} (hij : i ≤ j) (hj : j < l.length) : l[i]! ≤ l[j]! := by
  rw [getElem!_pos l i (by omega), getElem!_pos l j hj]
  rcases Nat.lt_or_ge i j with h | h
  · exact List.pairwise_iff_getElem.1 hs i j (by omega) hj h
  · have : i = j := by omega
    subst this
    exact Int.le_refl _
theorem toArray_get! (l : List Int) (i : Nat) : l.toArray[i]! = l[i]! := by simp
theorem compact_mem {l : List Int} (x : Int) : x ∈ compact l ↔ x ∈ l := by
  unfold compact compactUpTo
  simp only [List.mem_map, List.mem_filter, List.mem_range]
  constructor
  · rintro ⟨i, ⟨hi, _⟩, rfl⟩
    rw [toArray_get!, getElem!_pos l i hi]
    exact List.getElem_mem hi
  · intro hx
    have key : ∀ i, i < l.length → ∃ a, (a < l.length ∧ keeps l.toArray a = true) ∧ l.toArray[a]! = l[i]! := by
      intro i
      induction i with
      | zero => intro hi; exact ⟨0, ⟨hi, by simp [keeps]⟩, toArray_get! l 0⟩
      | succ i ih =>
        intro hi
        by_cases h : l[i + 1]! = l[i]!
        · obtain ⟨a, ha, hav⟩ := ih (by omega)
          exact ⟨a, ha, by rw [hav, h]⟩
        · refine ⟨i + 1, ⟨hi, ?_⟩, toArray_get! l _⟩
          simp only [keeps, toArray_get!, Nat.add_sub_cancel, decide_eq_true_eq]
          exact .inr h
    obtain ⟨i, hi, rfl⟩ := List.mem_iff_getElem.1 hx
    obtain ⟨a, ha, hav⟩ := key i hi
    exact ⟨a, ha, by rw [hav, getElem!_pos l i hi]⟩
theorem compact_rising {l : List Int} (hs : l.Pairwise (· ≤ ·)) : Rising (compact l) := by
  unfold compact compactUpTo Rising
  rw [List.pairwise_map, List.pairwise_filter]
  have h0 : (List.range l.length).Pairwise (fun a b => a < b ∧ b < l.length) := by
    rw [List.pairwise_iff_getElem]
    intro i j hi hj hij
    simp at hi hj ⊢
    exact ⟨hij, hj⟩
  refine h0.imp ?_
  rintro a b ⟨hab, hb⟩ _ hk
  simp only [toArray_get!]
  simp only [keeps, toArray_get!, decide_eq_true_eq] at hk
  have h1 := sorted_at hs (show a ≤ b - 1 by omega) (show b - 1 < l.length by omega)
  have h2 := sorted_at hs (show b - 1 ≤ b by omega) hb
  rcases hk with hk | hk
  · omega
  · omega
theorem compact_sublist_length (l : List Int) : (compact l).length ≤ l.length := compact_length_le l
def risen (l : List Int) : List Int := compact (l.mergeSort fun x y => decide (x ≤ y))
theorem risen_rising (l : List Int) : Rising (risen l) := by
  refine compact_rising ?_
  have := List.pairwise_mergeSort (le := fun x y : Int => decide (x ≤ y)) (fun a b c => by simp; omega) (fun a b => by simp; omega) l
  exact this.imp (fun h => by simpa using h)
theorem risen_mem (l : List Int) (x : Int) : x ∈ risen l ↔ x ∈ l := by
  unfold risen
  rw [compact_mem, List.mem_mergeSort]
theorem risen_length (l : List Int) : (risen l).length ≤ l.length := by
  unfold risen
  have := compact_length_le (l.mergeSort fun x y => decide (x ≤ y))
  rwa [List.length_mergeSort] at this
theorem risen_unique {l d : List Int} (hd : Rising d) (hm : ∀ x, x ∈ d ↔ x ∈ l) : d = risen l := rising_unique hd (risen_rising l) (fun x => (hm x).trans (risen_mem l x).symm)
theorem risen_of_rising {l : List Int} (h : Rising l) : risen l = l := (risen_unique h (fun _ => Iff.rfl)).symm

def up (h : Hd) : Bool := decide (h.f2 = 0)
def reasons (l : List Hd) : List Int := (l.filter up).map (·.f0)
theorem reasons_len (l : List Hd) : (reasons l).length ≤ l.length := by
  unfold reasons
  rw [List.length_map]
  exact List.length_filter_le _ _
theorem reasons_next {l : List Hd} {i : Nat} (h : i < l.length) : reasons (l.take (i + 1)) = reasons (l.take i) ++ (if (l[i]).f2 = 0 then [(l[i]).f0] else []) := by
  unfold reasons
  rw [List.take_succ_eq_append_getElem h, List.filter_append, List.map_append]
  by_cases c : (l[i]).f2 = 0 <;> simp [up, c]
theorem mem_reasons {l : List Hd} {r : Int} : r ∈ reasons l ↔ ∃ h ∈ l, h.f2 = 0 ∧ h.f0 = r := by
  unfold reasons
  simp only [List.mem_map, List.mem_filter, up, decide_eq_true_eq]
  constructor
  · rintro ⟨h, ⟨h1, h2⟩, h3⟩; exact ⟨h, h1, h2, h3⟩
  · rintro ⟨h, h1, h2, h3⟩; exact ⟨h, ⟨h1, h2⟩, h3⟩

theorem open_loop (l : List Hd) (hl : l.length ≤ 200) : ∀ (d i : Nat), i + d = l.length → Ev (fun k => hold_Open.l0 k (reasons (l.take i)) l (l.length : Int) (i : Int)) (risen (reasons l)) := by
  intro d
  induction d with
  | zero =>
    intro i hi
    refine ev_now (fun k => ?_)
    have hr := reasons_len l
    simp only [hold_Open.l0]
    rw [if_neg (by omega), List.take_of_length_le (by omega)]
    unfold slices_Sort_int_int.f slices_Compact_int_int.f
    rw [if_pos (by omega)]
    rfl
  | succ d ih =>
    intro i hi
    have hlt : i < l.length := by omega
    have hn := ih (i + 1) (by omega)
    rw [reasons_next hlt] at hn
    have hr : (reasons (l.take i)).length ≤ 200 := Nat.le_trans (reasons_len _) (by simp; omega)
    have e : wrap64 ((i : Int) + 1) = ((i + 1 : Nat) : Int) := by rw [wrap_id (by omega) (by omega)]; rfl
    by_cases c : (l[i]).f2 = 0
    · rw [if_pos c] at hn
      refine Ev.step (f := fun k => hold_Open.l0 k (reasons (l.take i) ++ [(l[i]).f0]) l (l.length : Int) ((i + 1 : Nat) : Int)) (fun k => ?_) hn
      simp only [hold_Open.l0]
      rw [if_pos (by omega), if_pos (by omega), if_pos (by omega), rd_at hlt, if_pos c, if_pos (by omega), e]
    · rw [if_neg c, List.append_nil] at hn
      refine Ev.step (f := fun k => hold_Open.l0 k (reasons (l.take i)) l (l.length : Int) ((i + 1 : Nat) : Int)) (fun k => ?_) hn
      simp only [hold_Open.l0]
      rw [if_pos (by omega), if_pos (by omega), if_pos (by omega), rd_at hlt, if_neg c, e]
theorem open_ev (st v last : Int) (l : List Hd) (hl : l.length ≤ 200) : Ev (fun k => hold_Open.f k st v last l) (risen (reasons l)) := by
  unfold hold_Open.f
  have := open_loop l hl l.length 0 (by omega)
  simpa [reasons] using this

/-! ### the reference: the least one above those that were found -/
def above (out : List Int) (r : Int) : Prop := out = [] ∨ out.getD (out.length - 1) 0 < r
instance (out : List Int) (r : Int) : Decidable (above out r) := by unfold above; exact inferInstance
def cand (out : List Int) (h : Hd) : Prop := h.f2 = 0 ∧ above out h.f0
instance (out : List Int) (h : Hd) : Decidable (cand out h) := by unfold cand; exact inferInstance
def step (out : List Int) (s : Int × Bool) (h : Hd) : Int × Bool := if cand out h ∧ (s.2 = true → h.f0 < s.1) then (h.f0, true) else s
theorem scan (out : List Int) : ∀ (l : List Hd) (b : Int) (f : Bool),
    ((l.foldl (step out) (b, f)).2 = false → f = false ∧ ∀ h ∈ l, ¬ cand out h) ∧
    ((l.foldl (step out) (b, f)).2 = true → ((f = true ∧ (l.foldl (step out) (b, f)).1 = b) ∨ ∃ h ∈ l, cand out h ∧ h.f0 = (l.foldl (step out) (b, f)).1) ∧ (f = true → (l.foldl (step out) (b, f)).1 ≤ b) ∧ ∀ h ∈ l, cand out h → (l.foldl (step out) (b, f)).1 ≤ h.f0) := by
  intro l
  induction l with
  | nil => intro b f; exact ⟨fun h => ⟨h, fun _ hh => nomatch hh⟩, fun h => ⟨.inl ⟨h, rfl⟩, fun _ => Int.le_refl _, fun _ hh => nomatch hh⟩⟩
  | cons h t ih =>
    intro b f
    simp only [List.foldl_cons]
    by_cases c : cand out h ∧ ((b, f).2 = true → h.f0 < (b, f).1)
    · have e : step out (b, f) h = (h.f0, true) := by unfold step; rw [if_pos c]
      rw [e]
      obtain ⟨i1, i2⟩ := ih h.f0 true
      refine ⟨fun hf => (by have := (i1 hf).1; cases this), fun ht => ?_⟩
      obtain ⟨j1, j2, j3⟩ := i2 ht
      have j2' := j2 rfl
      refine ⟨?_, fun hf => ?_, fun x hx hc => ?_⟩
      · rcases j1 with ⟨_, j1⟩ | ⟨x, hx, hc, he⟩
        · exact .inr ⟨h, List.mem_cons_self, c.1, j1.symm⟩
        · exact .inr ⟨x, List.mem_cons_of_mem _ hx, hc, he⟩
      · have := c.2 hf
        simp only at this
        omega
      · rcases List.mem_cons.1 hx with rfl | hx
        · exact j2'
        · exact j3 x hx hc
    · have e : step out (b, f) h = (b, f) := by unfold step; rw [if_neg c]
      rw [e]
      obtain ⟨i1, i2⟩ := ih b f
      refine ⟨fun hf => ?_, fun ht => ?_⟩
      · obtain ⟨k1, k2⟩ := i1 hf
        refine ⟨k1, fun x hx hc => ?_⟩
        rcases List.mem_cons.1 hx with rfl | hx
        · exact c ⟨hc, fun h2 => by simp only at h2; rw [k1] at h2; cases h2⟩
        · exact k2 x hx hc
      · obtain ⟨j1, j2, j3⟩ := i2 ht
        refine ⟨?_, j2, fun x hx hc => ?_⟩
        · rcases j1 with j1 | ⟨x, hx, hc, he⟩
          · exact .inl j1
          · exact .inr ⟨x, List.mem_cons_of_mem _ hx, hc, he⟩
        · rcases List.mem_cons.1 hx with rfl | hx
          · by_cases hf : f = true
            · have h1 := j2 hf
              have h2 : ¬ x.f0 < b := fun h3 => c ⟨hc, fun _ => h3⟩
              omega
            · exact absurd ⟨hc, fun h2 => absurd h2 hf⟩ c
          · exact j3 x hx hc

theorem ref_inner (l : List Hd) (out : List Int) (st v last : Int) (r : List Int) (hl : l.length ≤ 200) (ho : out.length ≤ 200) : ∀ (d i : Nat) (b : Int) (f : Bool), i + d = l.length →
    Ev (fun k => if ((l.drop i).foldl (step out) (b, f)).2 = true then examboardref54_Open.l0 k (out ++ [((l.drop i).foldl (step out) (b, f)).1]) st v last l else some out) r →
    Ev (fun k => examboardref54_Open.l1 k out b f (i : Int) st v last l) r := by
  intro d
  induction d with
  | zero =>
    intro i b f hi h
    rw [List.drop_of_length_le (by omega), List.foldl_nil] at h
    refine Ev.step (fun k => ?_) h
    simp only [examboardref54_Open.l1]
    rw [if_neg (by omega), if_pos (show out.length < 17592186044416 by omega)]
  | succ d ih =>
    intro i b f hi h
    have hlt : i < l.length := by omega
    rw [drop_at hlt, List.foldl_cons] at h
    have hw : wrap64 ((i : Int) + 1) = ((i + 1 : Nat) : Int) := by rw [wrap_id (by omega) (by omega)]; rfl
    refine Ev.step (f := fun k => examboardref54_Open.l1 k out (step out (b, f) l[i]).1 (step out (b, f) l[i]).2 ((i + 1 : Nat) : Int) st v last l) (fun k => ?_) (ih (i + 1) _ _ (by omega) h)
    simp only [examboardref54_Open.l1]
    rw [if_pos (by omega), if_pos (by omega), rd_at hlt, hw]
    generalize l[i] = x
    by_cases c : x.f2 = 0
    · rw [if_pos c]
      by_cases c1 : out = []
      · subst c1
        have hc : cand [] x := ⟨c, .inl rfl⟩
        rw [if_pos (by simp)]
        cases f with
        | true =>
          rw [if_pos rfl]
          by_cases c2 : x.f0 < b
          · rw [if_pos c2]
            have e : step [] (b, true) x = (x.f0, true) := by unfold step; rw [if_pos ⟨hc, fun _ => c2⟩]
            rw [e]
          · rw [if_neg c2]
            have e : step [] (b, true) x = (b, true) := by unfold step; rw [if_neg (fun h => c2 (h.2 rfl))]
            rw [e]
        | false =>
          rw [if_neg (by simp)]
          have e : step [] (b, false) x = (x.f0, true) := by unfold step; rw [if_pos ⟨hc, fun h => by cases h⟩]
          rw [e]
      · have hpos : 0 < out.length := List.length_pos_iff.2 c1
        have hw2 : wrap64 ((out.length : Int) - 1) = ((out.length - 1 : Nat) : Int) := by rw [wrap_id (by omega) (by omega)]; omega
        have hrd : rd out ((out.length - 1 : Nat) : Int) = out.getD (out.length - 1) 0 := by unfold rd; simp
        rw [if_neg (by omega), hw2, if_pos (by omega), if_pos (by omega), hrd]
        by_cases c3 : x.f0 > out.getD (out.length - 1) 0
        · have hc : cand out x := ⟨c, .inr c3⟩
          rw [if_pos c3]
          cases f with
          | true =>
            rw [if_pos rfl]
            by_cases c2 : x.f0 < b
            · rw [if_pos c2]
              have e : step out (b, true) x = (x.f0, true) := by unfold step; rw [if_pos ⟨hc, fun _ => c2⟩]
              rw [e]
            · rw [if_neg c2]
              have e : step out (b, true) x = (b, true) := by unfold step; rw [if_neg (fun h => c2 (h.2 rfl))]
              rw [e]
          | false =>
            rw [if_neg (by simp)]
            have e : step out (b, false) x = (x.f0, true) := by unfold step; rw [if_pos ⟨hc, fun h => by cases h⟩]
            rw [e]
        · rw [if_neg c3]
          have hc : ¬ cand out x := fun h => by
            rcases h.2 with h2 | h2
            · exact c1 h2
            · exact c3 h2
          have e : step out (b, f) x = (b, f) := by unfold step; rw [if_neg (fun h => hc h.1)]
          rw [e]
    · rw [if_neg c]
      have e : step out (b, f) x = (b, f) := by unfold step; rw [if_neg (fun h => c h.1.1)]
      rw [e]
theorem rising_lt {D : List Int} (hD : Rising D) {i j : Nat} (hi : i < D.length) (hj : j < D.length) (h : i < j) : D[i] < D[j] := List.pairwise_iff_getElem.1 hD i j hi hj h
theorem above_take {D : List Int} (hD : Rising D) {j m : Nat} (hj : j ≤ D.length) (hm : m < D.length) : above (D.take j) D[m] ↔ j ≤ m := by
  unfold above
  cases j with
  | zero => simp
  | succ j =>
    have hj' : j < D.length := by omega
    have hne : D.take (j + 1) ≠ [] := by
      intro h
      have := congrArg List.length h
      rw [List.length_take, List.length_nil] at this
      omega
    have hlen : (D.take (j + 1)).length = j + 1 := by simp; omega
    have hlast : (D.take (j + 1)).getD ((D.take (j + 1)).length - 1) 0 = D[j] := by
      rw [hlen, Nat.add_sub_cancel, List.getD_eq_getElem?_getD, List.getElem?_take_of_lt (by omega), List.getElem?_eq_getElem hj']; rfl
    rw [hlast]
    constructor
    · rintro (h | h)
      · exact absurd h hne
      · rcases Nat.lt_trichotomy j m with h1 | h1 | h1
        · omega
        · subst h1; omega
        · have := rising_lt hD hm hj' h1; omega
    · intro h
      exact .inr (rising_lt hD hj' hm (by omega))
theorem ref_outer (l : List Hd) (st v last : Int) (hl : l.length ≤ 200) : ∀ (d j : Nat), j + d = (risen (reasons l)).length → Ev (fun k => examboardref54_Open.l0 k ((risen (reasons l)).take j) st v last l) (risen (reasons l)) := by
  have hD := risen_rising (reasons l)
  have hm : ∀ x, x ∈ risen (reasons l) ↔ x ∈ reasons l := risen_mem (reasons l)
  have hlen : (risen (reasons l)).length ≤ 200 := Nat.le_trans (risen_length _) (Nat.le_trans (reasons_len l) hl)
  generalize risen (reasons l) = D at *
  intro d
  induction d with
  | zero =>
    intro j hj
    refine Ev.step (f := fun k => examboardref54_Open.l1 k (D.take j) 0 false ((0 : Nat) : Int) st v last l) (fun k => by simp only [examboardref54_Open.l0]; rfl) ?_
    refine ref_inner l (D.take j) st v last D hl (by simp; omega) l.length 0 0 false (by omega) ?_
    rw [List.drop_zero]
    have hs := scan (D.take j) l 0 false
    have hf : (l.foldl (step (D.take j)) (0, false)).2 = false := by
      rcases Bool.eq_false_or_eq_true (l.foldl (step (D.take j)) (0, false)).2 with hc | hc
      case inr => exact hc
      obtain ⟨h1, _, _⟩ := hs.2 hc
      rcases h1 with ⟨h1, _⟩ | ⟨h, hh, hc2, _⟩
      · cases h1
      · have hr := (hm h.f0).2 (mem_reasons.2 ⟨h, hh, hc2.1, rfl⟩)
        obtain ⟨m, hml, he⟩ := List.mem_iff_getElem.1 hr
        have := hc2.2
        rw [← he, above_take hD (by omega) hml] at this
        omega
    rw [hf]
    simp only [Bool.false_eq_true, if_false]
    rw [List.take_of_length_le (by omega)]
    exact Ev.now _
  | succ d ih =>
    intro j hj
    refine Ev.step (f := fun k => examboardref54_Open.l1 k (D.take j) 0 false ((0 : Nat) : Int) st v last l) (fun k => by simp only [examboardref54_Open.l0]; rfl) ?_
    refine ref_inner l (D.take j) st v last D hl (by simp; omega) l.length 0 0 false (by omega) ?_
    rw [List.drop_zero]
    have hs := scan (D.take j) l 0 false
    have hjl : j < D.length := by omega
    have hin := (hm D[j]).1 (List.getElem_mem hjl)
    obtain ⟨h0, hh0, hup, hf0⟩ := mem_reasons.1 hin
    have hc0 : cand (D.take j) h0 := ⟨hup, by rw [hf0, above_take hD (by omega) hjl]; exact Nat.le_refl _⟩
    have ht : (l.foldl (step (D.take j)) (0, false)).2 = true := by
      rcases Bool.eq_false_or_eq_true (l.foldl (step (D.take j)) (0, false)).2 with hc | hc
      · exact hc
      · exact absurd hc0 ((hs.1 hc).2 h0 hh0)
    obtain ⟨h1, _, h3⟩ := hs.2 ht
    have hb : (l.foldl (step (D.take j)) (0, false)).1 = D[j] := by
      have hle := h3 h0 hh0 hc0
      rcases h1 with ⟨h1, _⟩ | ⟨h, hh, hc2, he⟩
      · cases h1
      · have hr := (hm h.f0).2 (mem_reasons.2 ⟨h, hh, hc2.1, rfl⟩)
        obtain ⟨m, hml, hem⟩ := List.mem_iff_getElem.1 hr
        have hab := hc2.2
        rw [← hem, above_take hD (by omega) hml] at hab
        rcases Nat.lt_or_ge j m with hlt | hge
        · have := rising_lt hD hjl hml hlt
          omega
        · have : j = m := by omega
          subst this
          omega
    rw [ht, hb]
    simp only [if_true]
    have := ih (j + 1) (by omega)
    rw [List.take_succ_eq_append_getElem hjl] at this
    exact this
theorem ref_open_ev (st v last : Int) (l : List Hd) (hl : l.length ≤ 200) : Ev (fun k => examboardref54_Open.f k st v last l) (risen (reasons l)) := by
  unfold examboardref54_Open.f
  have := ref_outer l st v last hl _ 0 (Nat.zero_add _)
  simpa using this

def publishR (st v last : Int) (l : List Hd) (time : Int) : Int × Int × Int × List Hd × Int :=
  if changeNilE st v last l time = 0 then (if (risen (reasons l)).length > 0 then (0, 0, 0, [], 16) else if v = 9999999 then (0, 0, 0, [], 3) else if st = 1 then (2, v + 1, time, l, 0) else (3, v + 1, time, l, 0)) else (0, 0, 0, [], changeNilE st v last l time)

def voidR (st v last : Int) (l : List Hd) (time : Int) : Int × Int × Int × List Hd × Int :=
  if changeNilE st v last l time = 0 then (4, v, time, l, 0) else (0, 0, 0, [], changeNilE st v last l time)

theorem nil_valid {st v last : Int} {l : List Hd} {time : Int} (h : changeNilE st v last l time = 0) : validE st v last l = 0 := by
  unfold changeNilE at h
  split at h
  · assumption
  · exact h

theorem publish_ev (st v last : Int) (l : List Hd) (time : Int) (hl : l.length ≤ 200) : Ev (fun k => hold_Publish.f k st v last l time) (publishR st v last l time) := by
  unfold hold_Publish.f publishR
  refine Ev.bind (change_nil_ev st v last l time (by omega)) ?_
  refine ev_if (fun c => ?_) (fun c => by rw [if_neg c]; exact Ev.now _)
  rw [if_pos c]
  have hv := valid_last (nil_valid c)
  refine Ev.bind (open_ev st v last l hl) ?_
  refine ev_if (fun c1 => by rw [if_pos (by omega)]; exact Ev.now _) (fun c1 => ?_)
  rw [if_neg (show ¬ (risen (reasons l)).length > 0 by omega)]
  refine ev_if (fun c2 => by rw [if_pos c2]; exact Ev.now _) (fun c2 => ?_)
  rw [if_neg c2]
  refine ev_bindc (at_ev st v last l time hl) ?_
  have hw : wrap64 (v + 1) = v + 1 := wrap_id (by omega) (by omega)
  simp only [hw]
  refine ev_if (fun c3 => by rw [if_pos c3]; exact Ev.now _) (fun c3 => by rw [if_neg c3]; exact Ev.now _)

theorem ref_publish_ev (st v last : Int) (l : List Hd) (time : Int) (hl : l.length ≤ 200) : Ev (fun k => examboardref54_Publish.f k st v last l time) (publishR st v last l time) := by
  have j0 : ∀ e, e = changeNilE st v last l time → Ev (fun k => examboardref54_Publish.j0 k time e st v last l) (publishR st v last l time) := fun e he => by
    subst he
    unfold publishR
    refine Ev.step (fun k => examboardref54_Publish.j0.eq_2 ..) ?_
    refine ev_if (fun c => ?_) (fun c => by rw [if_neg c]; exact Ev.now _)
    rw [if_pos c]
    have hv := valid_last (nil_valid c)
    refine Ev.bind (ref_open_ev st v last l hl) ?_
    refine ev_if (fun c1 => by rw [if_pos (by omega)]; exact Ev.now _) (fun c1 => ?_)
    rw [if_neg (show ¬ (risen (reasons l)).length > 0 by omega)]
    refine ev_if (fun c2 => by rw [if_pos (by omega)]; exact Ev.now _) (fun c2 => ?_)
    rw [if_neg (show ¬ v = 9999999 by omega)]
    refine Ev.bind (ref_at_ev st v last l time hl) ?_
    have hw : wrap64 (v + 1) = v + 1 := wrap_id (by omega) (by omega)
    simp only [hw]
    refine ev_if (fun c3 => by rw [if_pos c3]; exact Ev.now _) (fun c3 => by rw [if_neg c3]; exact Ev.now _)
  unfold examboardref54_Publish.f
  refine Ev.bind (ref_valid_ev st v last l (by omega)) ?_
  refine ev_if (fun c => ?_) (fun c => j0 _ (by unfold changeNilE; rw [if_neg c]))
  refine Ev.bind (ref_change_ev st v last l time) ?_
  exact j0 _ (by unfold changeNilE; rw [if_pos c])

theorem void_ev (st v last : Int) (l : List Hd) (time : Int) (hl : l.length ≤ 200) : Ev (fun k => hold_Void.f k st v last l time) (voidR st v last l time) := by
  unfold hold_Void.f voidR
  refine Ev.bind (change_nil_ev st v last l time (by omega)) ?_
  refine ev_if (fun c => ?_) (fun c => by rw [if_neg c]; exact Ev.now _)
  rw [if_pos c]
  refine ev_bindc (at_ev st v last l time hl) ?_
  exact Ev.now _

theorem ref_void_ev (st v last : Int) (l : List Hd) (time : Int) (hl : l.length ≤ 200) : Ev (fun k => examboardref54_Void.f k st v last l time) (voidR st v last l time) := by
  unfold examboardref54_Void.f voidR changeNilE
  refine Ev.bind (ref_valid_ev st v last l (by omega)) ?_
  refine ev_if (fun c => ?_) (fun c => by rw [if_neg c, if_neg c]; exact Ev.now _)
  rw [if_pos c]
  refine Ev.bind (ref_change_ev st v last l time) ?_
  refine ev_if (fun c1 => ?_) (fun c1 => by rw [if_neg c1]; exact Ev.now _)
  rw [if_pos c1]
  refine Ev.bind (ref_at_ev st v last l time hl) ?_
  exact Ev.now _

theorem publish_len (st v last : Int) (l : List Hd) (time : Int) (hl : l.length ≤ 200) : (publishR st v last l time).2.2.2.1.length ≤ 200 := by
  unfold publishR
  split
  · split
    · simp
    · split
      · simp
      · split <;> exact hl
  · simp
theorem void_len (st v last : Int) (l : List Hd) (time : Int) (hl : l.length ≤ 200) : (voidR st v last l time).2.2.2.1.length ≤ 200 := by
  unfold voidR
  split
  · exact hl
  · simp
theorem HoldPublishes : ∀ (a0_0 : Int) (a0_1 : Int) (a0_2 : Int) (l0_3 : List (S30)) (a1 : Int), (Lit.int .i64 a0_0).wf = true → (Lit.int .i64 a0_1).wf = true → (Lit.int .i64 a0_2).wf = true → l0_3.length ≤ maxLen → l0_3.length * 24 ≤ 140737488351232 → (∀ x_ ∈ l0_3, ((Lit.int .i64 x_.f0).wf = true ∧ (Lit.int .i64 x_.f1).wf = true ∧ (Lit.int .i64 x_.f2).wf = true)) → (Lit.int .i64 a1).wf = true → ∃ k, examboardlaw54_HoldPublishes.f k a0_0 a0_1 a0_2 l0_3 a1 = some true := by
  intro st v last l time _ _ _ _ _ _ _
  refine Ev.rounds ?_
  unfold examboardlaw54_HoldPublishes.f
  refine ev_if (fun _ => Ev.now _) (fun hc => ?_)
  have hl : l.length ≤ 200 := by omega
  refine Ev.bind (publish_ev st v last l time hl) ?_
  refine Ev.bind (ref_publish_ev st v last l time hl) ?_
  refine ev_if (fun _ => ?_) (fun h => absurd rfl h)
  have h1 := publish_len st v last l time hl
  refine Ev.bind (same_ev _ _ _ _ _ _ _ _ (by omega)) ?_
  rw [same_refl]
  refine Ev.step (fun k => by rw [examboardlaw54_HoldPublishes.j0.eq_2, if_neg (by simp)]) ?_
  refine Ev.bind (void_ev st v last l time hl) ?_
  refine Ev.bind (ref_void_ev st v last l time hl) ?_
  refine ev_if (fun _ => ?_) (fun h => absurd rfl h)
  have h2 := void_len st v last l time hl
  refine Ev.bind (same_ev _ _ _ _ _ _ _ _ (by omega)) ?_
  rw [same_refl]
  exact Ev.now _
end Go.Proofs.Ytgeplglggcoaiaa.Pure
