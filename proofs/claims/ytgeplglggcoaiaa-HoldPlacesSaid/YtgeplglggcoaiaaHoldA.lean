/- What the functions of the hold layer and of its reference come to: validity, changes, a hold placed or lifted; plain Lean. -/
import Derived.Test.YtgeplglggcoaiaaHoldx8
import Derived.Test.YtgeplglggcoaiaaHoldx4
import Derived.Test.YtgeplglggcoaiaaHoldx7
import Derived.Test.YtgeplglggcoaiaaHoldx6
namespace Go.Proofs.Ytgeplglggcoaiaa.HoldPure
open Go.RowKit Go.Proofs.Ytgeplglggcoaiaa.Hold Go.Proofs.YtgeplglggcoaiaaW.PrintWords Go.Proofs.YtgeplglggcoaiaaW.PrintLast Go.Proofs.YtgeplglggcoaiaaW.PrintMore

abbrev Hd := S30
instance hdEq : DecidableEq S30 := fun a b =>
  if h : a.f0 = b.f0 ∧ a.f1 = b.f1 ∧ a.f2 = b.f2 then isTrue (by cases a; cases b; simp_all) else isFalse (fun e => h (by rw [e]; exact ⟨rfl, rfl, rfl⟩))
theorem wrap_id {n : Int} (h0 : -9223372036854775808 ≤ n) (h1 : n ≤ 9223372036854775807) : wrap64 n = n := by unfold wrap64; omega
theorem ev_now {α : Type} {g : Nat → Option α} {r : α} (h : ∀ k, g (k + 1) = some r) : Ev g r := Ev.step (f := fun _ => some r) h (Ev.now r)
theorem ev_const {α : Type} {o : Option α} {r : α} (h : o = some r) : Ev (fun _ => o) r := ⟨0, fun _ _ => h⟩
theorem ev_bindc {α β : Type} {o : Option α} {f : Nat → α → Option β} {a : α} {r : β} (h : o = some a) (k : Ev (fun n => f n a) r) : Ev (fun n => o.bind (f n)) r := by
  subst h
  exact k
theorem ev_if {α : Type} {c : Prop} [Decidable c] {f g : Nat → Option α} {r : α} (hy : c → Ev f r) (hn : ¬ c → Ev g r) : Ev (fun k => if c then f k else g k) r := by
  by_cases h : c
  · simp only [if_pos h]; exact hy h
  · simp only [if_neg h]; exact hn h
theorem rd_at {l : List Hd} {i : Nat} (h : i < l.length) : rd_T30 l (i : Int) = l[i] := by
  unfold rd_T30
  simp [h]
theorem drop_at {l : List Hd} {i : Nat} (h : i < l.length) : l.drop i = l[i] :: l.drop (i + 1) := by simp

/-! ### validity -/
def holdErr (last : Int) (h : Hd) : Int := if h.f0 < 1 ∨ 5 < h.f0 then 1 else if h.f1 < 0 ∨ last < h.f1 ∨ h.f2 < 0 ∨ last < h.f2 then 3 else if 0 < h.f2 ∧ h.f2 < h.f1 then 15 else 0
def holdsErr (last : Int) : List Hd → Int
  | [] => 0
  | h :: t => if holdErr last h = 0 then holdsErr last t else holdErr last h
def stErr (st v : Int) : Int := if (st = 1 ∧ v ≠ 0) ∨ (st = 2 ∧ v ≠ 1) ∨ (st = 3 ∧ v < 2) then 8 else 0
def bodyErr (st v last : Int) (l : List Hd) : Int := if holdsErr last l = 0 then stErr st v else holdsErr last l
theorem bodyErr_cons (st v last : Int) (h : Hd) (t : List Hd) : bodyErr st v last (h :: t) = if holdErr last h = 0 then bodyErr st v last t else holdErr last h := by
  unfold bodyErr
  by_cases c : holdErr last h = 0
  · have e : holdsErr last (h :: t) = holdsErr last t := by simp only [holdsErr]; rw [if_pos c]
    rw [e, if_pos c]
  · have e : holdsErr last (h :: t) = holdErr last h := by simp only [holdsErr]; rw [if_neg c]
    rw [e, if_neg c, if_neg c]
def validE (st v last : Int) (l : List Hd) : Int :=
  if st < 1 ∨ 4 < st then 1 else if v < 0 ∨ 9999999 < v ∨ last < 0 ∨ 1099511627776 < last then 3 else if 20 < l.length then 5 else bodyErr st v last l

theorem within_ev (a b c : Int) : hold_within.f a b c = some (decide (b ≤ a ∧ a ≤ c)) := by
  unfold hold_within.f
  by_cases h : b ≤ a <;> simp [h]
theorem reasons_ev (a : Int) : hold_reasons.f a = some (decide (1 ≤ a ∧ a ≤ 5)) := by
  unfold hold_reasons.f
  rw [within_ev]; rfl
theorem holds_ev (last : Int) (h : Hd) : Ev (fun k => hold_holds.f k h.f0 h.f1 h.f2 last) (holdErr last h) := by
  unfold hold_holds.f
  refine ev_bindc (reasons_ev _) ?_
  refine ev_if (fun c0 => ?_) (fun c0 => ?_)
  · have c0 : 1 ≤ h.f0 ∧ h.f0 ≤ 5 := by simpa using c0
    refine ev_bindc (within_ev _ _ _) ?_
    refine ev_if (fun c1 => ?_) (fun c1 => ?_)
    · have c1 : 0 ≤ h.f1 ∧ h.f1 ≤ last := by simpa using c1
      refine ev_bindc (within_ev _ _ _) ?_
      refine ev_now (fun k => ?_)
      by_cases c2 : 0 ≤ h.f2 ∧ h.f2 ≤ last
      · by_cases c3 : 0 < h.f2 ∧ h.f2 < h.f1
        · unfold holdErr
          rw [if_neg (by omega), if_neg (by omega), if_pos c3]
          simp only [hold_holds.j0, c2, and_self, decide_true, Bool.not_true, Bool.false_eq_true, if_false]
          rw [if_pos (by omega), if_pos (by omega)]
        · unfold holdErr
          rw [if_neg (by omega), if_neg (by omega), if_neg c3]
          simp only [hold_holds.j0, c2, and_self, decide_true, Bool.not_true, Bool.false_eq_true, if_false]
          by_cases c4 : h.f2 > 0
          · rw [if_pos c4, if_neg (by omega)]
          · rw [if_neg c4]
      · unfold holdErr
        rw [if_neg (by omega), if_pos (by omega)]
        simp [hold_holds.j0, c2]
    · have c1 : ¬ (0 ≤ h.f1 ∧ h.f1 ≤ last) := by simpa using c1
      refine ev_now (fun k => ?_)
      unfold holdErr
      rw [if_neg (by omega), if_pos (by omega)]
      simp [hold_holds.j0]
  · have c0 : ¬ (1 ≤ h.f0 ∧ h.f0 ≤ 5) := by simpa using c0
    refine ev_const ?_
    unfold holdErr
    rw [if_pos (by omega)]

/-- The last test of both texts. -/
theorem st_text (st v : Int) : (if st = 1 then (if v = 0 then (if st = 2 then (if v = 1 then (if st = 3 then (if v < 2 then (some 8) else (some 0)) else (some 0)) else (some 8)) else (if st = 3 then (if v < 2 then (some 8) else (some 0)) else (some 0))) else (some 8)) else (if st = 2 then (if v = 1 then (if st = 3 then (if v < 2 then (some 8) else (some 0)) else (some 0)) else (some 8)) else (if st = 3 then (if v < 2 then (some 8) else (some 0)) else (some (0 : Int))))) = some (stErr st v) := by
  unfold stErr
  by_cases h1 : st = 1
  · subst h1
    by_cases h : v = 0 <;> simp [h]
  · by_cases h2 : st = 2
    · subst h2
      by_cases h : v = 1 <;> simp [h]
    · by_cases h3 : st = 3
      · subst h3
        by_cases h : v < 2 <;> simp [h]
      · simp [h1, h2, h3]

theorem valid_loop (l : List Hd) (st v last : Int) (hl : l.length ≤ 4611686018427387904) : ∀ (d i : Nat), i + d = l.length → Ev (fun k => hold_Valid.l0 k l (l.length : Int) (i : Int) st v last l) (bodyErr st v last (l.drop i)) := by
  intro d
  induction d with
  | zero =>
    intro i hi
    refine ev_now (fun k => ?_)
    simp only [hold_Valid.l0]
    rw [if_neg (by omega), List.drop_of_length_le (by omega)]
    simp only [bodyErr, holdsErr, if_true]
    exact st_text st v
  | succ d ih =>
    intro i hi
    have hlt : i < l.length := by omega
    refine Ev.step (f := fun k => (hold_holds.f k (l[i]).f0 (l[i]).f1 (l[i]).f2 last).bind fun t => if t = 0 then hold_Valid.l0 k l (l.length : Int) ((i + 1 : Nat) : Int) st v last l else some t) (fun k => ?_) ?_
    · simp only [hold_Valid.l0]
      rw [if_pos (by omega), if_pos (by omega), if_pos (by omega), rd_at hlt, wrap_id (by omega) (by omega)]
      rfl
    · refine Ev.bind (holds_ev last l[i]) ?_
      rw [drop_at hlt]
      refine ev_if (fun c => ?_) (fun c => ?_)
      · have := ih (i + 1) (by omega)
        rw [bodyErr_cons, if_pos c]
        exact this
      · refine ev_const ?_
        rw [bodyErr_cons, if_neg c]
theorem valid_ev (st v last : Int) (l : List Hd) (hl : l.length ≤ 4611686018427387904) : Ev (fun k => hold_Valid.f k st v last l) (validE st v last l) := by
  unfold hold_Valid.f
  have j0t : Ev (fun k => hold_Valid.j0 k true st v last l) 3 := ev_now (fun k => by simp [hold_Valid.j0])
  refine ev_bindc (within_ev _ _ _) ?_
  refine ev_if (fun c0 => ?_) (fun c0 => ?_)
  · have c0 : 1 ≤ st ∧ st ≤ 4 := by simpa using c0
    refine ev_bindc (within_ev _ _ _) ?_
    refine ev_if (fun c1 => ?_) (fun c1 => ?_)
    · have c1 : 0 ≤ v ∧ v ≤ 9999999 := by simpa using c1
      refine ev_bindc (within_ev _ _ _) ?_
      by_cases c2 : 0 ≤ last ∧ last ≤ 1099511627776
      · have e : (!decide (0 ≤ last ∧ last ≤ 1099511627776)) = false := by simp [c2]
        rw [e]
        unfold validE
        rw [if_neg (by omega), if_neg (by omega)]
        refine Ev.step (f := fun k => if (l.length : Int) > 20 then some 5 else hold_Valid.l0 k l (l.length : Int) 0 st v last l) (fun k => by simp only [hold_Valid.j0]; rfl) ?_
        refine ev_if (fun c3 => ?_) (fun c3 => ?_)
        · rw [if_pos (by omega)]; exact Ev.now _
        · rw [if_neg (by omega)]
          have := valid_loop l st v last hl l.length 0 (by omega)
          simpa using this
      · have e : (!decide (0 ≤ last ∧ last ≤ 1099511627776)) = true := by simp [c2]
        rw [e]
        unfold validE
        rw [if_neg (by omega), if_pos (by omega)]
        exact j0t
    · have c1 : ¬ (0 ≤ v ∧ v ≤ 9999999) := by simpa using c1
      unfold validE
      rw [if_neg (by omega), if_pos (by omega)]
      exact j0t
  · have c0 : ¬ (1 ≤ st ∧ st ≤ 4) := by simpa using c0
    unfold validE
    rw [if_pos (by omega)]
    exact Ev.now _

theorem ref_loop (l : List Hd) (st v last : Int) (hl : l.length ≤ 4611686018427387904) : ∀ (d i : Nat), i + d = l.length → Ev (fun k => examboardref54_holds.l0 k (i : Int) st v last l) (holdsErr last (l.drop i)) := by
  intro d
  induction d with
  | zero =>
    intro i hi
    refine ev_now (fun k => ?_)
    simp only [examboardref54_holds.l0]
    rw [if_neg (by omega), List.drop_of_length_le (by omega)]
    rfl
  | succ d ih =>
    intro i hi
    have hlt : i < l.length := by omega
    have hw : wrap64 ((i : Int) + 1) = ((i + 1 : Nat) : Int) := by rw [wrap_id (by omega) (by omega)]; rfl
    have hn := ih (i + 1) (by omega)
    rw [drop_at hlt]
    generalize hx : l[i] = h at *
    have hrd : rd_T30 l (i : Int) = h := by rw [rd_at hlt, hx]
    -- behind the reason's test
    have j2t : Ev (fun k => examboardref54_holds.j2 k (i : Int) true st v last l h.f0 h.f1 h.f2) 3 := ev_now (fun k => by simp [examboardref54_holds.j2])
    have j1f : (1 ≤ h.f0 ∧ h.f0 ≤ 5) → Ev (fun k => examboardref54_holds.j1 k (i : Int) false st v last l h.f0 h.f1 h.f2) (holdsErr last (h :: l.drop (i + 1))) := by
      intro c0
      refine Ev.step (f := fun k => if h.f1 < 0 then (examboardref54_holds.j2 k (i : Int) true st v last l h.f0 h.f1 h.f2) else (if h.f1 > last then (examboardref54_holds.j2 k (i : Int) true st v last l h.f0 h.f1 h.f2) else (if h.f2 < 0 then (examboardref54_holds.j2 k (i : Int) true st v last l h.f0 h.f1 h.f2) else (examboardref54_holds.j2 k (i : Int) (decide (h.f2 > last)) st v last l h.f0 h.f1 h.f2)))) (fun k => by simp only [examboardref54_holds.j1]; rfl) ?_
      have bad : (h.f1 < 0 ∨ last < h.f1 ∨ h.f2 < 0 ∨ last < h.f2) → holdsErr last (h :: l.drop (i + 1)) = 3 := by
        intro c
        have e : holdErr last h = 3 := by unfold holdErr; rw [if_neg (by omega), if_pos c]
        simp only [holdsErr]
        rw [e]; rfl
      refine ev_if (fun c1 => ?_) (fun c1 => ?_)
      · rw [bad (by omega)]; exact j2t
      refine ev_if (fun c2 => ?_) (fun c2 => ?_)
      · rw [bad (by omega)]; exact j2t
      refine ev_if (fun c3 => ?_) (fun c3 => ?_)
      · rw [bad (by omega)]; exact j2t
      by_cases c4 : h.f2 > last
      · rw [bad (by omega), decide_eq_true c4]; exact j2t
      rw [decide_eq_false c4]
      refine Ev.step (f := fun k => if h.f2 > 0 then (if h.f2 < h.f1 then some 15 else examboardref54_holds.l0 k (wrap64 ((i : Int) + 1)) st v last l) else examboardref54_holds.l0 k (wrap64 ((i : Int) + 1)) st v last l) (fun k => by simp only [examboardref54_holds.j2]; rfl) ?_
      have good : ¬ (0 < h.f2 ∧ h.f2 < h.f1) → holdsErr last (h :: l.drop (i + 1)) = holdsErr last (l.drop (i + 1)) := by
        intro c
        have e : holdErr last h = 0 := by unfold holdErr; rw [if_neg (by omega), if_neg (by omega), if_neg c]
        simp only [holdsErr]
        rw [if_pos e]
      rw [hw]
      refine ev_if (fun c5 => ?_) (fun c5 => ?_)
      · refine ev_if (fun c6 => ?_) (fun c6 => ?_)
        · have e : holdErr last h = 15 := by unfold holdErr; rw [if_neg (by omega), if_neg (by omega), if_pos (by omega)]
          simp only [holdsErr]
          rw [e]
          exact Ev.now _
        · rw [good (by omega)]; exact hn
      · rw [good (by omega)]; exact hn
    have j1t : Ev (fun k => examboardref54_holds.j1 k (i : Int) true st v last l h.f0 h.f1 h.f2) 1 := ev_now (fun k => by simp [examboardref54_holds.j1])
    have bad : (h.f0 < 1 ∨ 5 < h.f0) → holdsErr last (h :: l.drop (i + 1)) = 1 := by
      intro c
      have e : holdErr last h = 1 := by unfold holdErr; rw [if_pos c]
      simp only [holdsErr]
      rw [e]; rfl
    refine Ev.step (f := fun k => if h.f0 < 1 then examboardref54_holds.j1 k (i : Int) true st v last l h.f0 h.f1 h.f2 else examboardref54_holds.j1 k (i : Int) (decide (h.f0 > 5)) st v last l h.f0 h.f1 h.f2) (fun k => ?_) ?_
    · simp only [examboardref54_holds.l0]
      rw [if_pos (by omega), if_pos (by omega), hrd]
    refine ev_if (fun c => ?_) (fun c => ?_)
    · rw [bad (by omega)]; exact j1t
    by_cases c' : h.f0 > 5
    · rw [bad (by omega), decide_eq_true c']; exact j1t
    · rw [decide_eq_false c']; exact j1f (by omega)
theorem ref_valid_ev (st v last : Int) (l : List Hd) (hl : l.length ≤ 4611686018427387904) : Ev (fun k => examboardref54_Valid.f k st v last l) (validE st v last l) := by
  unfold examboardref54_Valid.f
  have j1f : (1 ≤ st ∧ st ≤ 4) → (0 ≤ v ∧ v ≤ 9999999 ∧ 0 ≤ last ∧ last ≤ 1099511627776) → Ev (fun k => examboardref54_Valid.j1 k false st v last l) (validE st v last l) := by
    intro c0 c1
    refine Ev.step (f := fun k => if (l.length : Int) > 20 then some 5 else (examboardref54_holds.f k st v last l).bind fun t => if t = 0 then some (stErr st v) else some t) (fun k => ?_) ?_
    · simp only [examboardref54_Valid.j1, st_text]; rfl
    unfold validE
    rw [if_neg (by omega), if_neg (by omega)]
    refine ev_if (fun c3 => ?_) (fun c3 => ?_)
    · rw [if_pos (by omega)]; exact Ev.now _
    · rw [if_neg (by omega)]
      have h := ref_loop l st v last hl l.length 0 (by omega)
      refine Ev.bind (a := holdsErr last l) (by simpa [examboardref54_holds.f] using h) ?_
      unfold bodyErr
      refine ev_if (fun c => ?_) (fun c => ?_)
      · rw [if_pos c]; exact Ev.now _
      · rw [if_neg c]; exact Ev.now _
  have j1t : Ev (fun k => examboardref54_Valid.j1 k true st v last l) 3 := ev_now (fun k => by simp [examboardref54_Valid.j1])
  have j0t : Ev (fun k => examboardref54_Valid.j0 k true st v last l) 1 := ev_now (fun k => by simp [examboardref54_Valid.j0])
  have j0f : (1 ≤ st ∧ st ≤ 4) → Ev (fun k => examboardref54_Valid.j0 k false st v last l) (validE st v last l) := by
    intro c0
    have bad : (v < 0 ∨ 9999999 < v ∨ last < 0 ∨ 1099511627776 < last) → validE st v last l = 3 := by
      intro c
      unfold validE
      rw [if_neg (by omega), if_pos c]
    refine Ev.step (f := fun k => if v < 0 then (examboardref54_Valid.j1 k true st v last l) else (if v > 9999999 then (examboardref54_Valid.j1 k true st v last l) else (if last < 0 then (examboardref54_Valid.j1 k true st v last l) else (examboardref54_Valid.j1 k (decide (last > 1099511627776)) st v last l)))) (fun k => by simp only [examboardref54_Valid.j0]; rfl) ?_
    refine ev_if (fun c1 => ?_) (fun c1 => ?_)
    · rw [bad (by omega)]; exact j1t
    refine ev_if (fun c2 => ?_) (fun c2 => ?_)
    · rw [bad (by omega)]; exact j1t
    refine ev_if (fun c3 => ?_) (fun c3 => ?_)
    · rw [bad (by omega)]; exact j1t
    by_cases c4 : last > 1099511627776
    · rw [bad (by omega), decide_eq_true c4]; exact j1t
    · rw [decide_eq_false c4]; exact j1f c0 (by omega)
  refine ev_if (fun c => ?_) (fun c => ?_)
  · unfold validE; rw [if_pos (by omega)]; exact j0t
  by_cases c' : st > 4
  · rw [decide_eq_true c']; unfold validE; rw [if_pos (by omega)]; exact j0t
  · rw [decide_eq_false c']; exact j0f (by omega)

/-! ### changes -/
def changeE (st last time : Int) : Int := if time < 1 ∨ time < last ∨ 1099511627776 < time then 15 else if st = 4 then 21 else 0
def aboutE (st v last : Int) (l : List Hd) (reason time : Int) : Int := if validE st v last l = 0 then (if reason < 1 ∨ 5 < reason then 1 else changeE st last time) else validE st v last l
def changeNilE (st v last : Int) (l : List Hd) (time : Int) : Int := if validE st v last l = 0 then changeE st last time else validE st v last l

theorem valid_last {st v last : Int} {l : List Hd} (h : validE st v last l = 0) : (1 ≤ st ∧ st ≤ 4) ∧ (0 ≤ v ∧ v ≤ 9999999) ∧ (0 ≤ last ∧ last ≤ 1099511627776) ∧ l.length ≤ 20 ∧ bodyErr st v last l = 0 := by
  unfold validE at h
  split at h
  · omega
  split at h
  · omega
  split at h
  · omega
  exact ⟨by omega, by omega, by omega, by omega, h⟩
/-- hold.change's two tests of the time are the reference's. -/
theorem change_text {st last time : Int} (hl : 0 ≤ last) : (if time = 0 then some 15 else ((hold_within.f time last 1099511627776).bind fun t2 => if t2 = true then (if st = 4 then some 21 else some 0) else some (15 : Int))) = some (changeE st last time) := by
  rw [within_ev]
  unfold changeE
  by_cases h0 : time = 0
  · rw [if_pos h0, if_pos (by omega)]
  · rw [if_neg h0]
    by_cases h1 : last ≤ time ∧ time ≤ 1099511627776
    · have hc : ¬ (time < 1 ∨ time < last ∨ 1099511627776 < time) := by omega
      rw [if_neg hc]
      simp only [Option.bind_some, h1, and_self, decide_true, if_true]
      by_cases h2 : st = 4 <;> simp [h2]
    · have hc : time < 1 ∨ time < last ∨ 1099511627776 < time := by omega
      rw [if_pos hc]
      simp [h1]
theorem change_nil_ev (st v last : Int) (l : List Hd) (time : Int) (hl : l.length ≤ 4611686018427387904) : Ev (fun k => hold_change_nil.f k st v last l time) (changeNilE st v last l time) := by
  unfold hold_change_nil.f
  refine Ev.bind (valid_ev st v last l hl) ?_
  unfold changeNilE
  refine ev_if (fun c => ?_) (fun c => ?_)
  · rw [if_pos c]
    exact ev_const (change_text (valid_last c).2.2.1.1)
  · rw [if_neg c]; exact Ev.now _
theorem change_some_ev (st v last : Int) (l : List Hd) (reason time : Int) (hl : l.length ≤ 4611686018427387904) : Ev (fun k => hold_change_some.f k st v last l reason time) (aboutE st v last l reason time) := by
  unfold hold_change_some.f
  refine Ev.bind (valid_ev st v last l hl) ?_
  unfold aboutE
  refine ev_if (fun c => ?_) (fun c => ?_)
  · rw [if_pos c]
    refine ev_bindc (reasons_ev _) ?_
    refine ev_if (fun c1 => ?_) (fun c1 => ?_)
    · have c1 : 1 ≤ reason ∧ reason ≤ 5 := by simpa using c1
      have hc : ¬ (reason < 1 ∨ 5 < reason) := by omega
      rw [if_neg hc]
      exact ev_const (change_text (valid_last c).2.2.1.1)
    · have c1 : ¬ (1 ≤ reason ∧ reason ≤ 5) := by simpa using c1
      rw [if_pos (by omega)]
      exact Ev.now _
  · rw [if_neg c]; exact Ev.now _
theorem ref_change_ev (st v last : Int) (l : List Hd) (time : Int) : Ev (fun k => examboardref54_change.f k st v last l time) (changeE st last time) := by
  unfold examboardref54_change.f
  have jt : Ev (fun k => examboardref54_change.j0 k true st v last l) 15 := ev_now (fun k => by simp [examboardref54_change.j0])
  unfold changeE
  refine ev_if (fun c => ?_) (fun c => ?_)
  · rw [if_pos (by omega)]; exact jt
  refine ev_if (fun c1 => ?_) (fun c1 => ?_)
  · rw [if_pos (by omega)]; exact jt
  by_cases c2 : time > 1099511627776
  · rw [if_pos (by omega), decide_eq_true c2]; exact jt
  · rw [if_neg (by omega), decide_eq_false c2]
    refine ev_now (fun k => ?_)
    by_cases h4 : st = 4 <;> simp [examboardref54_change.j0, h4]
theorem ref_about_ev (st v last : Int) (l : List Hd) (reason time : Int) (hl : l.length ≤ 4611686018427387904) : Ev (fun k => examboardref54_about.f k st v last l reason time) (aboutE st v last l reason time) := by
  unfold examboardref54_about.f
  refine Ev.bind (ref_valid_ev st v last l hl) ?_
  unfold aboutE
  refine ev_if (fun c => ?_) (fun c => ?_)
  · rw [if_pos c]
    refine ev_if (fun c1 => ?_) (fun c1 => ?_)
    · rw [if_pos (by omega)]; exact Ev.now _
    refine ev_if (fun c2 => ?_) (fun c2 => ?_)
    · rw [if_pos (by omega)]; exact Ev.now _
    rw [if_neg (by omega)]
    refine Ev.bind (ref_change_ev st v last l time) ?_
    exact Ev.now _
  · rw [if_neg c]; exact Ev.now _

/-! ### copies -/
theorem at_ev (st v last : Int) (l : List Hd) (time : Int) (hl : l.length ≤ 200) : hold_at.f st v last l time = some (st, v, time, l) := by
  unfold hold_at.f api_Hold.f
  rw [if_pos (by omega)]; rfl
theorem ref_at_loop (l : List Hd) (st v last a b c : Int) (hl : l.length ≤ 200) : ∀ (d i : Nat), i + d = l.length → Ev (fun k => examboardref54_at.l0 k (i : Int) st v last l a b c (l.take i)) (a, b, c, l) := by
  intro d
  induction d with
  | zero =>
    intro i hi
    refine ev_now (fun k => ?_)
    simp only [examboardref54_at.l0]
    rw [if_neg (by omega), List.take_of_length_le (by omega)]
  | succ d ih =>
    intro i hi
    have hlt : i < l.length := by omega
    refine Ev.step (f := fun k => examboardref54_at.l0 k ((i + 1 : Nat) : Int) st v last l a b c (l.take (i + 1))) (fun k => ?_) (ih (i + 1) (by omega))
    simp only [examboardref54_at.l0]
    rw [if_pos (by omega), if_pos (by omega), if_pos (by rw [List.length_take]; omega), rd_at hlt, wrap_id (by omega) (by omega), List.take_succ_eq_append_getElem hlt]
    rfl
theorem ref_at_ev (st v last : Int) (l : List Hd) (time : Int) (hl : l.length ≤ 200) : Ev (fun k => examboardref54_at.f k st v last l time) (st, v, time, l) := by
  unfold examboardref54_at.f
  have := ref_at_loop l st v last st v time hl l.length 0 (by omega)
  simpa using this

/-! ### a hold placed -/
def placeR (st v last : Int) (l : List Hd) (reason time : Int) : Int × Int × Int × List Hd × Int :=
  if aboutE st v last l reason time = 0 then (if l.length ≥ 20 then (0, 0, 0, [], 5) else (st, v, time, l ++ [⟨reason, time, 0⟩], 0)) else (0, 0, 0, [], aboutE st v last l reason time)
theorem place_ev (st v last : Int) (l : List Hd) (reason time : Int) (hl : l.length ≤ 200) : Ev (fun k => hold_Place.f k st v last l reason time) (placeR st v last l reason time) := by
  unfold hold_Place.f
  refine Ev.bind (change_some_ev st v last l reason time (by omega)) ?_
  unfold placeR
  refine ev_if (fun c => ?_) (fun c => ?_)
  · rw [if_pos c]
    refine ev_if (fun c1 => ?_) (fun c1 => ?_)
    · rw [if_pos (by omega)]; exact Ev.now _
    · rw [if_neg (by omega)]
      refine ev_bindc (at_ev _ _ _ _ _ hl) ?_
      refine ev_const ?_
      rw [if_pos (by show l.length < _; omega)]
  · rw [if_neg c]; exact Ev.now _
theorem ref_place_ev (st v last : Int) (l : List Hd) (reason time : Int) (hl : l.length ≤ 200) : Ev (fun k => examboardref54_Place.f k st v last l reason time) (placeR st v last l reason time) := by
  unfold examboardref54_Place.f
  refine Ev.bind (ref_about_ev st v last l reason time (by omega)) ?_
  unfold placeR
  refine ev_if (fun c => ?_) (fun c => ?_)
  · rw [if_pos c]
    refine ev_if (fun c1 => ?_) (fun c1 => ?_)
    · rw [if_pos (by omega)]; exact Ev.now _
    · rw [if_neg (by omega)]
      refine Ev.bind (ref_at_ev _ _ _ _ _ hl) ?_
      refine ev_const ?_
      rw [if_pos (by show l.length < _; omega)]
  · rw [if_neg c]; exact Ev.now _

/-! ### holds lifted -/
def liftH (reason time : Int) (h : Hd) : Hd := if h.f0 = reason ∧ h.f2 = 0 then ⟨h.f0, h.f1, time⟩ else h
def stands (reason : Int) (h : Hd) : Bool := decide (h.f0 = reason ∧ h.f2 = 0)
def liftR (st v last : Int) (l : List Hd) (reason time : Int) : Int × Int × Int × List Hd × Int :=
  if aboutE st v last l reason time = 0 then (if l.any (stands reason) = true then (st, v, time, l.map (liftH reason time), 0) else (0, 0, 0, [], 6)) else (0, 0, 0, [], aboutE st v last l reason time)
/-- The row behind i rounds. -/
def lifted (reason time : Int) (l : List Hd) (i : Nat) : List Hd := (l.take i).map (liftH reason time) ++ l.drop i
theorem lifted_length (reason time : Int) (l : List Hd) (i : Nat) : (lifted reason time l i).length = l.length := by
  simp [lifted]; omega
theorem lifted_at {reason time : Int} {l : List Hd} {i : Nat} (h : i < l.length) : rd_T30 (lifted reason time l i) (i : Int) = l[i] := by
  rw [rd_at (by rw [lifted_length]; exact h)]
  simp only [lifted]
  rw [List.getElem_append_right (by simp; omega)]
  simp [Nat.min_eq_left (Nat.le_of_lt h)]
theorem lifted_zero (reason time : Int) (l : List Hd) : lifted reason time l 0 = l := by simp [lifted]
theorem lifted_all (reason time : Int) (l : List Hd) : lifted reason time l l.length = l.map (liftH reason time) := by simp [lifted]
theorem lifted_next {reason time : Int} {l : List Hd} {i : Nat} (h : i < l.length) : lifted reason time l (i + 1) = (lifted reason time l i).set i (liftH reason time l[i]) := by
  apply List.ext_getElem?
  intro j
  simp only [lifted, List.getElem?_set]
  rw [List.take_succ_eq_append_getElem h, List.map_append]
  by_cases hj : i = j
  · subst hj
    have h1 : i < ((l.take i).map (liftH reason time) ++ l.drop i).length := by simp; omega
    rw [if_pos rfl, if_pos h1, List.getElem?_append_left (by simp; omega), List.getElem?_append_right (by simp; omega)]
    simp [Nat.min_eq_left (Nat.le_of_lt h)]
  · rw [if_neg hj]
    rcases Nat.lt_or_ge j i with hlt | hge
    · rw [List.getElem?_append_left (by simp; omega), List.getElem?_append_left (by simp; omega), List.getElem?_append_left (by simp; omega)]
    · rw [List.getElem?_append_right (by simp; omega), List.getElem?_append_right (by simp; omega)]
      simp [Nat.min_eq_left (Nat.le_of_lt h)]
      congr 1; omega
theorem any_next {reason : Int} {l : List Hd} {i : Nat} (h : i < l.length) : (l.take (i + 1)).any (stands reason) = ((l.take i).any (stands reason) || stands reason l[i]) := by
  rw [List.take_succ_eq_append_getElem h, List.any_append]
  simp only [List.any_cons, List.any_nil, Bool.or_false]
theorem lift_loop (l : List Hd) (st v t2 reason time : Int) (hl : l.length ≤ 200) : ∀ (d i : Nat), i + d = l.length →
    Ev (fun k => hold_Lift.l0 k time ((l.take i).any (stands reason)) (lifted reason time l i) (l.length : Int) (i : Int) reason st v t2) (if l.any (stands reason) = true then (st, v, t2, l.map (liftH reason time), 0) else (0, 0, 0, [], 6)) := by
  intro d
  induction d with
  | zero =>
    intro i hi
    obtain rfl : i = l.length := by omega
    refine ev_now (fun k => ?_)
    simp only [hold_Lift.l0]
    rw [if_neg (by omega), lifted_all, List.take_of_length_le (Nat.le_refl _)]
    split <;> rfl
  | succ d ih =>
    intro i hi
    have hlt : i < l.length := by omega
    refine Ev.step (f := fun k => hold_Lift.l0 k time ((l.take (i + 1)).any (stands reason)) (lifted reason time l (i + 1)) (l.length : Int) ((i + 1 : Nat) : Int) reason st v t2) (fun k => ?_) (ih (i + 1) (by omega))
    simp only [hold_Lift.l0]
    rw [if_pos (by omega), if_pos (by omega), if_pos (by rw [lifted_length]; omega), lifted_at hlt, wrap_id (by omega) (by omega), any_next hlt, lifted_next hlt]
    by_cases c : (l[i]).f0 = reason
    · by_cases c2 : (l[i]).f2 = 0
      · have hs : stands reason l[i] = true := by simp [stands, c, c2]
        have hh : liftH reason time l[i] = ⟨(l[i]).f0, (l[i]).f1, time⟩ := by simp [liftH, c, c2]
        rw [if_pos c, if_pos c2, hs, hh, Bool.or_true]
        rfl
      · have hs : stands reason l[i] = false := by simp [stands, c2]
        have hh : liftH reason time l[i] = l[i] := by simp [liftH, c2]
        rw [if_pos c, if_neg c2, hs, hh, Bool.or_false]
        rw [show (lifted reason time l i).set i l[i] = lifted reason time l i from ?_]
        · rfl
        · have := lifted_at (reason := reason) (time := time) hlt
          rw [rd_at (by rw [lifted_length]; exact hlt)] at this
          rw [← this]
          simp
    · have hs : stands reason l[i] = false := by simp [stands, c]
      have hh : liftH reason time l[i] = l[i] := by simp [liftH, c]
      rw [if_neg c, hs, hh, Bool.or_false]
      rw [show (lifted reason time l i).set i l[i] = lifted reason time l i from ?_]
      · rfl
      · have := lifted_at (reason := reason) (time := time) hlt
        rw [rd_at (by rw [lifted_length]; exact hlt)] at this
        rw [← this]
        simp
theorem lift_ev (st v last : Int) (l : List Hd) (reason time : Int) (hl : l.length ≤ 200) : Ev (fun k => hold_Lift.f k st v last l reason time) (liftR st v last l reason time) := by
  unfold hold_Lift.f
  refine Ev.bind (change_some_ev st v last l reason time (by omega)) ?_
  unfold liftR
  refine ev_if (fun c => ?_) (fun c => ?_)
  · rw [if_pos c]
    refine ev_bindc (at_ev _ _ _ _ _ hl) ?_
    have := lift_loop l st v time reason time hl l.length 0 (by omega)
    rw [lifted_zero] at this
    exact this
  · rw [if_neg c]; exact Ev.now _
theorem ref_lift_loop (l : List Hd) (st v t2 reason time : Int) (hl : l.length ≤ 200) : ∀ (d i : Nat), i + d = l.length →
    Ev (fun k => examboardref54_Lift.l0 k reason time (((l.take i).countP (stands reason) : Nat) : Int) (i : Int) st v t2 (lifted reason time l i)) (if l.any (stands reason) = true then (st, v, t2, l.map (liftH reason time), 0) else (0, 0, 0, [], 6)) := by
  intro d
  induction d with
  | zero =>
    intro i hi
    obtain rfl : i = l.length := by omega
    refine ev_now (fun k => ?_)
    simp only [examboardref54_Lift.l0]
    rw [if_neg (by rw [lifted_length]; omega), lifted_all, List.take_of_length_le (Nat.le_refl _)]
    by_cases c : l.any (stands reason) = true
    · rw [if_pos c, if_neg]
      have : 0 < l.countP (stands reason) := List.countP_pos_iff.2 (List.any_eq_true.1 c)
      omega
    · rw [if_neg c, if_pos]
      have : ¬ 0 < l.countP (stands reason) := fun h => c (List.any_eq_true.2 (List.countP_pos_iff.1 h))
      omega
  | succ d ih =>
    intro i hi
    have hlt : i < l.length := by omega
    have hc : (l.take i).countP (stands reason) ≤ i := Nat.le_trans List.countP_le_length (by simp; omega)
    refine Ev.step (f := fun k => examboardref54_Lift.l0 k reason time (((l.take (i + 1)).countP (stands reason) : Nat) : Int) ((i + 1 : Nat) : Int) st v t2 (lifted reason time l (i + 1))) (fun k => ?_) (ih (i + 1) (by omega))
    simp only [examboardref54_Lift.l0]
    rw [if_pos (by rw [lifted_length]; omega), if_pos (by omega), lifted_at hlt, wrap_id (n := (i : Int) + 1) (by omega) (by omega), lifted_next hlt, List.take_succ_eq_append_getElem hlt, List.countP_append]
    have hset : (lifted reason time l i).set i l[i] = lifted reason time l i := by
      have := lifted_at (reason := reason) (time := time) hlt
      rw [rd_at (by rw [lifted_length]; exact hlt)] at this
      rw [← this]
      simp
    by_cases c : (l[i]).f0 = reason
    · by_cases c2 : (l[i]).f2 = 0
      · have hs : stands reason l[i] = true := by simp [stands, c, c2]
        have hh : liftH reason time l[i] = ⟨(l[i]).f0, (l[i]).f1, time⟩ := by simp [liftH, c, c2]
        rw [if_pos c, if_pos c2, hh, wrap_id (by omega) (by omega)]
        simp [hs]
      · have hs : stands reason l[i] = false := by simp [stands, c2]
        have hh : liftH reason time l[i] = l[i] := by simp [liftH, c2]
        rw [if_pos c, if_neg c2, hh, hset]
        simp [hs]
    · have hs : stands reason l[i] = false := by simp [stands, c]
      have hh : liftH reason time l[i] = l[i] := by simp [liftH, c]
      rw [if_neg c, hh, hset]
      simp [hs]
theorem ref_lift_ev (st v last : Int) (l : List Hd) (reason time : Int) (hl : l.length ≤ 200) : Ev (fun k => examboardref54_Lift.f k st v last l reason time) (liftR st v last l reason time) := by
  unfold examboardref54_Lift.f
  refine Ev.bind (ref_about_ev st v last l reason time (by omega)) ?_
  unfold liftR
  refine ev_if (fun c => ?_) (fun c => ?_)
  · rw [if_pos c]
    refine Ev.bind (ref_at_ev _ _ _ _ _ hl) ?_
    have := ref_lift_loop l st v time reason time hl l.length 0 (by omega)
    rw [lifted_zero] at this
    simpa using this
  · rw [if_neg c]; exact Ev.now _

/-! ### two records are the same -/
def sameB (a0 a1 a2 : Int) (l : List Hd) (b0 b1 b2 : Int) (m : List Hd) : Bool := decide (a0 = b0 ∧ a1 = b1 ∧ a2 = b2 ∧ l = m)
theorem drop_eq_iff {l m : List Hd} {i : Nat} (hl : i < l.length) (hm : i < m.length) : (l.drop i = m.drop i) ↔ (l[i] = m[i] ∧ l.drop (i + 1) = m.drop (i + 1)) := by
  rw [drop_at hl, drop_at hm, List.cons.injEq]
theorem same_loop (l m : List Hd) (a0 a1 a2 b0 b1 b2 : Int) (he : l.length = m.length) (hl : l.length ≤ 4611686018427387904) : ∀ (d i : Nat), i + d = l.length →
    Ev (fun k => examboardlaw54_same.l0 k (i : Int) a0 a1 a2 l b0 b1 b2 m) (decide (l.drop i = m.drop i)) := by
  intro d
  induction d with
  | zero =>
    intro i hi
    refine ev_now (fun k => ?_)
    simp only [examboardlaw54_same.l0]
    rw [if_neg (by omega), List.drop_of_length_le (by omega), List.drop_of_length_le (by omega)]
    simp
  | succ d ih =>
    intro i hi
    have hlt : i < l.length := by omega
    have hlm : i < m.length := by omega
    refine Ev.step (f := fun k => if l[i] = m[i] then examboardlaw54_same.l0 k ((i + 1 : Nat) : Int) a0 a1 a2 l b0 b1 b2 m else some false) (fun k => ?_) ?_
    · simp only [examboardlaw54_same.l0]
      rw [if_pos (by omega), if_pos (by omega), if_pos (by omega), rd_at hlt, rd_at hlm, wrap_id (by omega) (by omega)]
      have key : ((!(l[i].f0 == m[i].f0) || (!(l[i].f1 == m[i].f1) || (!(l[i].f2 == m[i].f2)))) = true) ↔ ¬ l[i] = m[i] := by
        generalize l[i] = x
        generalize m[i] = y
        obtain ⟨x0, x1, x2⟩ := x
        obtain ⟨y0, y1, y2⟩ := y
        by_cases h0 : x0 = y0 <;> by_cases h1 : x1 = y1 <;> by_cases h2 : x2 = y2 <;> simp [h0, h1, h2]
      by_cases c : l[i] = m[i]
      · rw [if_neg (by rw [key]; simp [c]), if_pos c]; rfl
      · rw [if_pos (key.2 c), if_neg c]
    · refine ev_if (fun c => ?_) (fun c => ?_)
      · have := ih (i + 1) (by omega)
        rw [show decide (l.drop i = m.drop i) = decide (l.drop (i + 1) = m.drop (i + 1)) from by
          rw [decide_eq_decide, drop_eq_iff hlt hlm]; simp [c]]
        exact this
      · rw [show decide (l.drop i = m.drop i) = false from by
          rw [decide_eq_false_iff_not, drop_eq_iff hlt hlm]; simp [c]]
        exact Ev.now _
theorem same_ev (a0 a1 a2 : Int) (l : List Hd) (b0 b1 b2 : Int) (m : List Hd) (hl : l.length ≤ 4611686018427387904) : Ev (fun k => examboardlaw54_same.f k a0 a1 a2 l b0 b1 b2 m) (sameB a0 a1 a2 l b0 b1 b2 m) := by
  unfold examboardlaw54_same.f
  have jt : Ev (fun k => examboardlaw54_same.j0 k true a0 a1 a2 l b0 b1 b2 m) false := ev_now (fun k => by simp [examboardlaw54_same.j0])
  refine ev_if (fun c0 => ?_) (fun c0 => ?_)
  · refine ev_if (fun c1 => ?_) (fun c1 => ?_)
    · refine ev_if (fun c2 => ?_) (fun c2 => ?_)
      · by_cases c3 : l.length = m.length
        · have e : ((l.length : Int) != (m.length : Int)) = false := by simp [c3]
          rw [e]
          refine Ev.step (f := fun k => examboardlaw54_same.l0 k 0 a0 a1 a2 l b0 b1 b2 m) (fun k => by simp [examboardlaw54_same.j0]) ?_
          have := same_loop l m a0 a1 a2 b0 b1 b2 c3 hl l.length 0 (by omega)
          simp only [List.drop_zero] at this
          rw [show sameB a0 a1 a2 l b0 b1 b2 m = decide (l = m) from by simp [sameB, c0, c1, c2]]
          exact this
        · have e : ((l.length : Int) != (m.length : Int)) = true := by simp; omega
          rw [e, show sameB a0 a1 a2 l b0 b1 b2 m = false from by simp [sameB]; intro _ _ _ h; exact c3 (by rw [h])]
          exact jt
      · rw [show sameB a0 a1 a2 l b0 b1 b2 m = false from by simp [sameB, c2]]; exact jt
    · rw [show sameB a0 a1 a2 l b0 b1 b2 m = false from by simp [sameB, c1]]; exact jt
  · rw [show sameB a0 a1 a2 l b0 b1 b2 m = false from by simp [sameB, c0]]; exact jt
theorem same_refl (a0 a1 a2 : Int) (l : List Hd) : sameB a0 a1 a2 l a0 a1 a2 l = true := by simp [sameB]
end Go.Proofs.Ytgeplglggcoaiaa.HoldPure
