/- The pure statement of the law AssetLists: Find, Missing and Bytes return what the reference returns. -/
import Derived.Test.YtgeplglggcoaiaaAssetx10
import Derived.Test.YtgeplglggcoaiaaAssetx11
import Derived.Test.YtgeplglggcoaiaaAssetx12
import Derived.Test.YtgeplglggcoaiaaAssetx13
import Derived.Test.YtgeplglggcoaiaaAssetx14
import Derived.Test.YtgeplglggcoaiaaAssetx16
import Derived.Test.YtgeplglggcoaiaaAssetx17
import Derived.Test.YtgeplglggcoaiaaAssetx18
import Derived.Test.YtgeplglggcoaiaaAssetx19
import Derived.Test.YtgeplglggcoaiaaAssetx2
import Derived.Test.YtgeplglggcoaiaaAssetx20
import Derived.Test.YtgeplglggcoaiaaAssetx21
import Derived.Test.YtgeplglggcoaiaaAssetx3
import Derived.Test.YtgeplglggcoaiaaAssetx4
import Derived.Test.YtgeplglggcoaiaaAssetx5
import Derived.Test.YtgeplglggcoaiaaAssetx6
import Derived.Test.YtgeplglggcoaiaaAssetx7
import Derived.Test.YtgeplglggcoaiaaAssetx8
import Derived.Lib.SlicesCompact
import Derived.Lib.RowBridge
namespace Go.Proofs.Ytgeplglggcoaiaa.Pure
open Go.RowKit Go.Lib Go.Proofs.Ytgeplglggcoaiaa.Asset Go.Proofs.YtgeplglggcoaiaaW.PrintWords Go.Proofs.YtgeplglggcoaiaaW.PrintLast Go.Proofs.YtgeplglggcoaiaaW.PrintMore

theorem wrap_id {n : Int} (h0 : -9223372036854775808 ≤ n) (h1 : n ≤ 9223372036854775807) : wrap64 n = n := by unfold wrap64; omega
theorem ev_now {α : Type} {g : Nat → Option α} {r : α} (h : ∀ k, g (k + 1) = some r) : Ev g r := Ev.step (f := fun _ => some r) h (Ev.now r)
theorem ev_const {α : Type} {o : Option α} {r : α} (h : o = some r) : Ev (fun _ => o) r := ⟨0, fun _ _ => h⟩
theorem ev_bindc {α β : Type} {o : Option α} {f : Nat → α → Option β} {a : α} {r : β} (h : o = some a) (k : Ev (fun n => f n a) r) : Ev (fun n => o.bind (f n)) r := by
  subst h
  exact k
theorem ev_if {α : Type} {c : Prop} [Decidable c] {f g : Nat → Option α} {r : α} (hy : c → Ev f r) (hn : ¬ c → Ev g r) : Ev (fun k => if c then f k else g k) r := by
  by_cases h : c
  · simp only [if_pos h]; exact hy h
  · simp only [if_neg h]; exact hn h

def Rising (l : List Int) : Prop := l.Pairwise (· < ·)
theorem rising_unique : ∀ {a b : List Int}, Rising a → Rising b → (∀ x, x ∈ a ↔ x ∈ b) → a = b
  | [], [], _, _, _ => rfl
  | [], y :: b, _, _, h => by have := (h y).2 (List.mem_cons_self); cases this
  | x :: a, [], _, _, h => by have := (h x).1 (List.mem_cons_self); cases this
  | x :: a, y :: b, ha, hb, h => by
    obtain ⟨ha1, ha2⟩ := List.pairwise_cons.1 ha
    obtain ⟨hb1, hb2⟩ := List.pairwise_cons.1 hb
    have hxy : x = y := by
      rcases List.mem_cons.1 ((h x).1 List.mem_cons_self) with h1 | h1
      · exact h1
      · rcases List.mem_cons.1 ((h y).2 List.mem_cons_self) with h2 | h2
        · exact h2.symm
        · have := ha1 y h2
          have := hb1 x h1
          omega
    subst hxy
    congr 1
    refine rising_unique ha2 hb2 (fun z => ⟨fun hz => ?_, fun hz => ?_⟩)
    · rcases List.mem_cons.1 ((h z).1 (List.mem_cons_of_mem _ hz)) with h1 | h1
      · have := ha1 z hz
        omega
      · exact h1
    · rcases List.mem_cons.1 ((h z).2 (List.mem_cons_of_mem _ hz)) with h1 | h1
      · have := hb1 z hz
        omega
      · exact h1

theorem sorted_at {l : List Int} (hs : l.Pairwise (· ≤ ·)) {i j : Nat} (hij : i ≤ j) (hj : j < l.length) : l[i]! ≤ l[j]! := by
  rw [getElem!_pos l i (by omega), getElem!_pos l j hj]
  rcases Nat.lt_or_ge i j with h | h
  · exact List.pairwise_iff_getElem.1 hs i j (by omega) hj h
  · have : i = j := by omega
    subst this
    exact Int.le_refl _
theorem toArray_get! (l : List Int) (i : Nat) : l.toArray[i]! = l[i]! := by simp
theorem compact_mem {l : List Int} (x : Int) : x ∈ compact l ↔ x ∈ l := by
  unfold compact compactUpTo
  simp only [List.mem_map, List.mem_filter, List.mem_range]
  constructor
  · rintro ⟨i, ⟨hi, _⟩, rfl⟩
    rw [toArray_get!, getElem!_pos l i hi]
    exact List.getElem_mem hi
  · intro hx
    have key : ∀ i, i < l.length → ∃ a, (a < l.length ∧ keeps l.toArray a = true) ∧ l.toArray[a]! = l[i]! := by
      intro i
      induction i with
      | zero => intro hi; exact ⟨0, ⟨hi, by simp [keeps]⟩, toArray_get! l 0⟩
      | succ i ih =>
        intro hi
        by_cases h : l[i + 1]! = l[i]!
        · obtain ⟨a, ha, hav⟩ := ih (by omega)
          exact ⟨a, ha, by rw [hav, h]⟩
        · refine ⟨i + 1, ⟨hi, ?_⟩, toArray_get! l _⟩
          simp only [keeps, toArray_get!, Nat.add_sub_cancel, decide_eq_true_eq]
          exact .inr h
    obtain ⟨i, hi, rfl⟩ := List.mem_iff_getElem.1 hx
    obtain ⟨a, ha, hav⟩ := key i hi
    exact ⟨a, ha, by rw [hav, getElem!_pos l i hi]⟩
theorem compact_rising {l : List Int} (hs : l.Pairwise (· ≤ ·)) : Rising (compact l) := by
  unfold compact compactUpTo Rising
  rw [List.pairwise_map, List.pairwise_filter]
  have h0 : (List.range l.length).Pairwise (fun a b => a < b ∧ b < l.length) := by
    rw [List.pairwise_iff_getElem]
    intro i j hi hj hij
    simp at hi hj ⊢
    exact ⟨hij, hj⟩
  refine h0.imp ?_
  rintro a b ⟨hab, hb⟩ _ hk
  simp only [toArray_get!]
  simp only [keeps, toArray_get!, decide_eq_true_eq] at hk
  have h1 := sorted_at hs (show a ≤ b - 1 by omega) (show b - 1 < l.length by omega)
  have h2 := sorted_at hs (show b - 1 ≤ b by omega) hb
  rcases hk with hk | hk
  · omega
  · omega
theorem compact_sublist_length (l : List Int) : (compact l).length ≤ l.length := compact_length_le l
def risen (l : List Int) : List Int := compact (l.mergeSort fun x y => decide (x ≤ y))
theorem risen_rising (l : List Int) : Rising (risen l) := by
  refine compact_rising ?_
  have := List.pairwise_mergeSort (le := fun x y : Int => decide (x ≤ y)) (fun a b c => by simp; omega) (fun a b => by simp; omega) l
  exact this.imp (fun h => by simpa using h)
theorem risen_mem (l : List Int) (x : Int) : x ∈ risen l ↔ x ∈ l := by
  unfold risen
  rw [compact_mem, List.mem_mergeSort]
theorem risen_length (l : List Int) : (risen l).length ≤ l.length := by
  unfold risen
  have := compact_length_le (l.mergeSort fun x y => decide (x ≤ y))
  rwa [List.length_mergeSort] at this
theorem risen_unique {l d : List Int} (hd : Rising d) (hm : ∀ x, x ∈ d ↔ x ∈ l) : d = risen l := rising_unique hd (risen_rising l) (fun x => (hm x).trans (risen_mem l x).symm)
theorem risen_of_rising {l : List Int} (h : Rising l) : risen l = l := (risen_unique h (fun _ => Iff.rfl)).symm

theorem rdi_at {l : List Int} {i : Nat} (h : i < l.length) : rd l (i : Int) = l[i] := by
  unfold rd
  simp [h]

abbrev As := S39
abbrev Fd := Int × Int × ByteArray × Int × Int × Bool
theorem rda_at {l : List As} {i : Nat} (h : i < l.length) : rd_T39 l (i : Int) = l[i] := by
  unfold rd_T39
  simp [h]
theorem drop_cons {α : Type} {l : List α} {i : Nat} (h : i < l.length) : l.drop i = l[i] :: l.drop (i + 1) := by simp
theorem wrap_next {i n : Nat} (h : i < n) (hn : n ≤ 4611686018427387904) : wrap64 ((i : Int) + 1) = ((i + 1 : Nat) : Int) := by rw [wrap_id (by omega) (by omega)]; rfl
def chars (b : ByteArray) : Nat → Nat → Bool
  | _, 0 => true
  | i, d + 1 => (decide (32 ≤ bt b (i : Int)) && decide (bt b (i : Int) ≤ 126)) && chars b (i + 1) d
def validA (a0 a1 : Int) (b : ByteArray) (a3 a4 : Int) : Int :=
  if a0 < 1 ∨ 9999999 < a0 ∨ a1 < 1 ∨ 1048576 < a1 ∨ a3 < 0 ∨ 9999999 < a3 ∨ a4 < 0 ∨ 9999999 < a4 then 3
  else if b.size < 1 ∨ 200 < b.size then 2 else if chars b 0 b.size = false then 2 else if a4 < a3 then 15 else 0
def usableA (a0 a1 : Int) (b : ByteArray) (a3 a4 day : Int) : Int := if validA a0 a1 b a3 a4 = 0 then (if day < a3 ∨ a4 < day then 17 else 0) else validA a0 a1 b a3 a4
theorem validA_ok {a0 a1 : Int} {b : ByteArray} {a3 a4 : Int} (h : validA a0 a1 b a3 a4 = 0) : (1 ≤ a1 ∧ a1 ≤ 1048576) ∧ (0 ≤ a3 ∧ a3 ≤ a4 ∧ a4 ≤ 9999999) := by
  unfold validA at h
  split at h
  · omega
  split at h
  · omega
  split at h
  · omega
  split at h
  · omega
  omega
theorem validA_not17 (a0 a1 : Int) (b : ByteArray) (a3 a4 : Int) : validA a0 a1 b a3 a4 ≠ 17 := by
  unfold validA
  split
  · omega
  split
  · omega
  split
  · omega
  split <;> omega
theorem chars_loop (F : Nat → Int → Option Int) (b : ByteArray) (a3 a4 : Int) (hb : b.size ≤ 200) (h : ∀ k x, F (k + 1) x = if x < (b.size : Int) then (if 0 ≤ x then (if (bt b x) < 32 then (some 2) else (if (bt b x) > 126 then (some 2) else (F k (wrap64 (x + 1))))) else (none)) else (if a3 > a4 then (some 15) else (some 0))) :
    ∀ (d i : Nat), i + d = b.size → Ev (fun k => F k (i : Int)) (if chars b i d = false then 2 else if a4 < a3 then 15 else 0) := by
  intro d
  induction d with
  | zero =>
    intro i hi
    refine ev_now (fun k => ?_)
    rw [h, if_neg (by omega)]
    simp only [chars, Bool.true_eq_false, if_false]
    by_cases c : a4 < a3
    · rw [if_pos c, if_pos c]
    · rw [if_neg c, if_neg c]
  | succ d ih =>
    intro i hi
    refine Ev.step (f := fun k => if bt b (i : Int) < 32 then some 2 else if bt b (i : Int) > 126 then some 2 else F k ((i + 1 : Nat) : Int)) (fun k => ?_) ?_
    · rw [h, if_pos (by omega), if_pos (by omega), wrap_next (n := 200) (by omega) (by omega)]
    · refine ev_if (fun c => ?_) (fun c => ?_)
      · have e : chars b i (d + 1) = false := by simp only [chars]; rw [decide_eq_false (p := 32 ≤ bt b (i : Int)) (by omega)]; rfl
        rw [if_pos e]; exact Ev.now _
      refine ev_if (fun c1 => ?_) (fun c1 => ?_)
      · have e : chars b i (d + 1) = false := by simp only [chars]; rw [decide_eq_false (p := bt b (i : Int) ≤ 126) (by omega), Bool.and_false]; rfl
        rw [if_pos e]; exact Ev.now _
      have e : chars b i (d + 1) = chars b (i + 1) d := by simp only [chars]; rw [decide_eq_true (p := 32 ≤ bt b (i : Int)) (by omega), decide_eq_true (p := bt b (i : Int) ≤ 126) (by omega)]; rfl
      rw [e]
      exact ih (i + 1) (by omega)
def findA : List As → Int → Fd
  | [], _ => (0, 0, (⟨#[]⟩ : ByteArray), 0, 0, false)
  | h :: t, id => if h.f0 = id then (h.f0, h.f1, h.f2, h.f3, h.f4, true) else findA t id
theorem find_loop (F : Nat → Int → Option Fd) (l : List As) (id : Int) (hl : l.length ≤ 4611686018427387904)
    (h : ∀ k x, F (k + 1) x = if x < (l.length : Int) then (if 0 ≤ x then (if x < (l.length : Int) then (if ((rd_T39 l x).f0) = id then (some ((rd_T39 l x).f0, (rd_T39 l x).f1, (rd_T39 l x).f2, (rd_T39 l x).f3, (rd_T39 l x).f4, true)) else (F k (wrap64 (x + 1)))) else (none)) else (none)) else (some (0, 0, (⟨#[]⟩ : ByteArray), 0, 0, false))) :
    ∀ (d i : Nat), i + d = l.length → Ev (fun k => F k (i : Int)) (findA (l.drop i) id) := by
  intro d
  induction d with
  | zero =>
    intro i hi
    refine ev_now (fun k => ?_)
    rw [h, if_neg (by omega), List.drop_of_length_le (by omega)]
    rfl
  | succ d ih =>
    intro i hi
    have hlt : i < l.length := by omega
    have hn := ih (i + 1) (by omega)
    rw [drop_cons hlt]
    refine Ev.step (f := fun k => if l[i].f0 = id then some (l[i].f0, l[i].f1, l[i].f2, l[i].f3, l[i].f4, true) else F k ((i + 1 : Nat) : Int)) (fun k => ?_) ?_
    · rw [h, if_pos (by omega), if_pos (by omega), if_pos (by omega), rda_at hlt, wrap_next hlt hl]
    · simp only [findA]
      refine ev_if (fun c => ?_) (fun c => ?_)
      · rw [if_pos c]; exact Ev.now _
      · rw [if_neg c]; exact hn
theorem findA_id (l : List As) (id : Int) (h : (findA l id).2.2.2.2.2 = true) : (findA l id).1 = id := by
  induction l with
  | nil => cases h
  | cons x t ih =>
    simp only [findA] at h ⊢
    by_cases c : x.f0 = id
    · rw [if_pos c]; exact c
    · rw [if_neg c] at h ⊢; exact ih h
def badT (t : Fd) (day : Int) : Bool := if t.2.2.2.2.2 = true then decide (usableA t.1 t.2.1 t.2.2.1 t.2.2.2.1 t.2.2.2.2.1 day ≠ 0) else true
def badA (l : List As) (day : Int) (id : Int) : Bool := badT (findA l id) day
def wT (t : Fd) : Int := if t.2.2.2.2.2 = true then (if validA t.1 t.2.1 t.2.2.1 t.2.2.2.1 t.2.2.2.2.1 = 0 then t.2.1 else 0) else 0
def wA (l : List As) (id : Int) : Int := wT (findA l id)
theorem wT_range (t : Fd) : 0 ≤ wT t ∧ wT t ≤ 1048576 := by
  unfold wT
  split
  · split
    · rename_i h; have := validA_ok h; omega
    · omega
  · omega
def sumA (l : List As) : List Int → Int
  | [] => 0
  | x :: t => wA l x + sumA l t
theorem sumA_range (l : List As) (D : List Int) : 0 ≤ sumA l D ∧ sumA l D ≤ 1048576 * (D.length : Int) := by
  induction D with
  | nil => simp [sumA]
  | cons x t ih =>
    have := wT_range (findA l x)
    simp only [sumA, wA, List.length_cons]
    omega

theorem valid_ev (a0 a1 : Int) (b : ByteArray) (a3 a4 : Int) : Ev (fun k => asset_Valid.f k a0 a1 b a3 a4) (validA a0 a1 b a3 a4) := by
  unfold asset_Valid.f
  have bad : Ev (fun k => asset_Valid.j0 k true a0 a1 b a3 a4) 3 := ev_now (fun k => by simp [asset_Valid.j0])
  have j1t : Ev (fun k => asset_Valid.j1 k true a0 a1 b a3 a4) 2 := ev_now (fun k => by simp [asset_Valid.j1])
  unfold validA
  refine ev_if (fun c => by rw [if_pos (by omega)]; exact bad) (fun c0 => ?_)
  refine ev_if (fun c => by rw [if_pos (by omega)]; exact bad) (fun c1 => ?_)
  refine ev_if (fun c => by rw [if_pos (by omega)]; exact bad) (fun c2 => ?_)
  refine ev_if (fun c => by rw [if_pos (by omega)]; exact bad) (fun c3 => ?_)
  refine ev_if (fun c => by rw [if_pos (by omega)]; exact bad) (fun c4 => ?_)
  refine ev_if (fun c => by rw [if_pos (by omega)]; exact bad) (fun c5 => ?_)
  refine ev_if (fun c => by rw [if_pos (by omega)]; exact bad) (fun c6 => ?_)
  by_cases c7 : a4 > 9999999
  · rw [if_pos (by omega), decide_eq_true c7]; exact bad
  rw [if_neg (by omega), decide_eq_false c7]
  refine Ev.step (f := fun k => if (b.size : Int) < 1 then asset_Valid.j1 k true a0 a1 b a3 a4 else asset_Valid.j1 k (decide ((b.size : Int) > 200)) a0 a1 b a3 a4) (fun k => by simp [asset_Valid.j0]) ?_
  refine ev_if (fun c => by rw [if_pos (by omega)]; exact j1t) (fun c8 => ?_)
  by_cases c9 : (b.size : Int) > 200
  · rw [if_pos (by omega), decide_eq_true c9]; exact j1t
  rw [if_neg (by omega), decide_eq_false c9]
  refine Ev.step (f := fun k => asset_Valid.l0 k ((0 : Nat) : Int) a0 a1 b a3 a4) (fun k => by simp [asset_Valid.j1]) ?_
  exact chars_loop (fun k x => asset_Valid.l0 k x a0 a1 b a3 a4) b a3 a4 (by omega) (fun k x => asset_Valid.l0.eq_2 ..) b.size 0 (by omega)

theorem within_ev (a b c : Int) : examboardref17_within.f a b c = some (decide (b ≤ a ∧ a ≤ c)) := by
  unfold examboardref17_within.f
  by_cases h : b ≤ a <;> simp [h]
theorem ref_valid_ev (a0 a1 : Int) (b : ByteArray) (a3 a4 : Int) : Ev (fun k => examboardref17_Valid.f k a0 a1 b a3 a4) (validA a0 a1 b a3 a4) := by
  unfold examboardref17_Valid.f
  have bad : Ev (fun k => examboardref17_Valid.j0 k true a0 a1 b a3 a4) 3 := ev_now (fun k => by simp [examboardref17_Valid.j0])
  unfold validA
  refine ev_bindc (within_ev _ _ _) ?_
  refine ev_if (fun c0 => ?_) (fun c => by have c := of_decide_eq_false (Bool.eq_false_iff.2 c); rw [if_pos (by omega)]; exact bad)
  have c0 := of_decide_eq_true c0
  refine ev_bindc (within_ev _ _ _) ?_
  refine ev_if (fun c1 => ?_) (fun c => by have c := of_decide_eq_false (Bool.eq_false_iff.2 c); rw [if_pos (by omega)]; exact bad)
  have c1 := of_decide_eq_true c1
  refine ev_bindc (within_ev _ _ _) ?_
  refine ev_if (fun c2 => ?_) (fun c => by have c := of_decide_eq_false (Bool.eq_false_iff.2 c); rw [if_pos (by omega)]; exact bad)
  have c2 := of_decide_eq_true c2
  refine ev_bindc (within_ev _ _ _) ?_
  by_cases c3 : 0 ≤ a4 ∧ a4 ≤ 9999999
  case neg => rw [if_pos (by omega), decide_eq_false c3]; exact bad
  rw [if_neg (by omega), decide_eq_true c3]
  refine Ev.step (f := fun k => (examboardref17_within.f (b.size : Int) 1 200).bind fun t107 => (if t107 = true then (examboardref17_Valid.l0 k ((0 : Nat) : Int) a0 a1 b a3 a4) else (some 2))) (fun k => by simp [examboardref17_Valid.j0]) ?_
  refine ev_bindc (within_ev _ _ _) ?_
  refine ev_if (fun c4 => ?_) (fun c => by have c := of_decide_eq_false (Bool.eq_false_iff.2 c); rw [if_pos (by omega)]; exact Ev.now _)
  have c4 := of_decide_eq_true c4
  rw [if_neg (by omega)]
  exact chars_loop (fun k x => examboardref17_Valid.l0 k x a0 a1 b a3 a4) b a3 a4 (by omega) (fun k x => examboardref17_Valid.l0.eq_2 ..) b.size 0 (by omega)

theorem usable_ev (a0 a1 : Int) (b : ByteArray) (a3 a4 day : Int) : Ev (fun k => asset_Usable.f k a0 a1 b a3 a4 day) (usableA a0 a1 b a3 a4 day) := by
  unfold asset_Usable.f usableA
  refine Ev.bind (valid_ev a0 a1 b a3 a4) ?_
  refine ev_if (fun c => ?_) (fun c => by rw [if_neg c]; exact Ev.now _)
  rw [if_pos c]
  refine ev_if (fun c => by rw [if_pos (by omega)]; exact Ev.now _) (fun c1 => ?_)
  refine ev_if (fun c => by rw [if_pos (by omega)]; exact Ev.now _) (fun c2 => by rw [if_neg (by omega)]; exact Ev.now _)

theorem ref_usable_ev (a0 a1 : Int) (b : ByteArray) (a3 a4 day : Int) : Ev (fun k => examboardref17_Usable.f k a0 a1 b a3 a4 day) (usableA a0 a1 b a3 a4 day) := by
  unfold examboardref17_Usable.f usableA
  refine Ev.bind (ref_valid_ev a0 a1 b a3 a4) ?_
  refine ev_if (fun c => ?_) (fun c => by rw [if_neg c]; exact Ev.now _)
  rw [if_pos c]
  refine ev_bindc (within_ev _ _ _) ?_
  refine ev_if (fun c => by have c := of_decide_eq_true c; rw [if_neg (by omega)]; exact Ev.now _) (fun c => by have c := of_decide_eq_false (Bool.eq_false_iff.2 c); rw [if_pos (by omega)]; exact Ev.now _)

theorem find_ev (l : List As) (id : Int) (hl : l.length ≤ 4611686018427387904) : Ev (fun k => asset_Find.f k l id) (findA l id) := by
  unfold asset_Find.f
  have := find_loop (fun k x => asset_Find.l0 k id l (l.length : Int) x) l id hl (fun k x => asset_Find.l0.eq_2 ..) l.length 0 (by omega)
  simpa using this

theorem ref_find_ev (l : List As) (id : Int) (hl : l.length ≤ 4611686018427387904) : Ev (fun k => examboardref17_Find.f k l id) (findA l id) := by
  unfold examboardref17_Find.f
  have := find_loop (fun k x => examboardref17_Find.l0 k id l (l.length : Int) x) l id hl (fun k x => examboardref17_Find.l0.eq_2 ..) l.length 0 (by omega)
  simpa using this

theorem distinct_ev (l : List Int) (h : l.length < 17592186044416) : asset_distinct.f l = some (risen l) := by
  unfold asset_distinct.f
  rw [if_pos h]; rfl
theorem missing_loop (l : List As) (day : Int) (D : List Int) (hl : l.length ≤ 4611686018427387904) (hD : D.length ≤ 17592186044415) : ∀ (d i : Nat) (out : List Int), i + d = D.length → out.length ≤ i →
    Ev (fun k => asset_Missing.l0 k l day out D (D.length : Int) (i : Int)) (out ++ (D.drop i).filter (badA l day)) := by
  intro d
  induction d with
  | zero =>
    intro i out hi ho
    refine ev_now (fun k => ?_)
    rw [asset_Missing.l0.eq_2, if_neg (by omega), List.drop_of_length_le (by omega)]
    simp
  | succ d ih =>
    intro i out hi ho
    have hlt : i < D.length := by omega
    have hn := fun o ho => ih (i + 1) o (by omega) ho
    rw [drop_cons hlt, List.filter_cons]
    refine Ev.step (f := fun k => (asset_Find.f k l D[i]).bind fun t => (if t.2.2.2.2.2 = true then ((asset_Usable.f k t.1 t.2.1 t.2.2.1 t.2.2.2.1 t.2.2.2.2.1 day).bind fun t129 => (if t129 = 0 then (asset_Missing.l0 k l day out D (D.length : Int) ((i + 1 : Nat) : Int)) else (asset_Missing.l0 k l day (out ++ [D[i]]) D (D.length : Int) ((i + 1 : Nat) : Int)))) else (asset_Missing.l0 k l day (out ++ [D[i]]) D (D.length : Int) ((i + 1 : Nat) : Int)))) (fun k => ?_) ?_
    · rw [asset_Missing.l0.eq_2, if_pos (by omega), if_pos (by omega), if_pos (by omega), rdi_at hlt, wrap_next hlt (by omega)]
      simp only [if_pos (show out.length < 17592186044416 by omega)]
    · refine Ev.bind (find_ev l D[i] hl) ?_
      unfold badA
      generalize findA l D[i] = t
      have hy := hn (out ++ [D[i]]) (by simp; omega)
      rw [List.append_assoc, List.singleton_append] at hy
      unfold badT
      refine ev_if (fun c => ?_) (fun c => by rw [if_neg c]; exact hy)
      rw [if_pos c]
      refine Ev.bind (usable_ev ..) ?_
      refine ev_if (fun c1 => ?_) (fun c1 => ?_)
      · rw [decide_eq_false (fun h => h c1)]; exact hn out (by omega)
      · rw [decide_eq_true c1]; exact hy
theorem missing_ev (refs : List Int) (l : List As) (day : Int) (hl : l.length ≤ 4611686018427387904) (hr : refs.length ≤ 17592186044415) : Ev (fun k => asset_Missing.f k refs l day) ((risen refs).filter (badA l day)) := by
  unfold asset_Missing.f
  refine ev_bindc (distinct_ev refs (by omega)) ?_
  have := missing_loop l day (risen refs) hl (Nat.le_trans (risen_length refs) hr) (risen refs).length 0 [] (by omega) (by simp)
  simpa using this
theorem filter_rising {l : List Int} (p : Int → Bool) (h : Rising l) : Rising (l.filter p) := List.Pairwise.filter p h
theorem risen_filter (refs : List Int) (p : Int → Bool) : (risen refs).filter p = risen (refs.filter p) :=
  risen_unique (filter_rising _ (risen_rising refs)) (fun x => by simp only [List.mem_filter, risen_mem])

theorem take_mn {α : Type} (l : List α) : l.take (mn (l.length : Int) 1024).toNat = l.take 1024 := by
  unfold mn
  by_cases h : (1024 : Int) < (l.length : Int)
  · rw [if_pos h]; rfl
  · rw [if_neg h, Int.toNat_natCast, List.take_of_length_le (Nat.le_refl _), List.take_of_length_le (by omega)]
def bytesA (refs : List Int) (l : List As) : Int := sumA (l.take 1024) (risen (refs.take 1024))
theorem bytes_loop (l : List As) (D : List Int) (hl : l.length ≤ 4611686018427387904) (hD : D.length ≤ 1024) : ∀ (d i : Nat) (s : Int), i + d = D.length → 0 ≤ s → s ≤ 1048576 * (i : Int) →
    Ev (fun k => asset_Bytes.l0 k l s D (D.length : Int) (i : Int)) (s + sumA l (D.drop i)) := by
  intro d
  induction d with
  | zero =>
    intro i s hi h0 h1
    refine ev_now (fun k => ?_)
    rw [asset_Bytes.l0.eq_2, if_neg (by omega), List.drop_of_length_le (by omega)]
    simp [sumA]
  | succ d ih =>
    intro i s hi h0 h1
    have hlt : i < D.length := by omega
    have hn := fun o a b => ih (i + 1) o (by omega) a b
    rw [drop_cons hlt]
    simp only [sumA]
    refine Ev.step (f := fun k => (asset_Find.f k l D[i]).bind fun t => (if t.2.2.2.2.2 = true then ((asset_Valid.f k t.1 t.2.1 t.2.2.1 t.2.2.2.1 t.2.2.2.2.1).bind fun t152 => (if t152 = 0 then (asset_Bytes.l0 k l (wrap64 (s + t.2.1)) D (D.length : Int) ((i + 1 : Nat) : Int)) else (asset_Bytes.l0 k l s D (D.length : Int) ((i + 1 : Nat) : Int)))) else (asset_Bytes.l0 k l s D (D.length : Int) ((i + 1 : Nat) : Int)))) (fun k => ?_) ?_
    · rw [asset_Bytes.l0.eq_2, if_pos (by omega), if_pos (by omega), if_pos (by omega), rdi_at hlt, wrap_next hlt (by omega)]
    · refine Ev.bind (find_ev l D[i] hl) ?_
      unfold wA
      generalize findA l D[i] = t
      have hz := hn s h0 (by omega)
      unfold wT
      refine ev_if (fun c => ?_) (fun c => by rw [if_neg c, Int.zero_add]; exact hz)
      rw [if_pos c]
      refine Ev.bind (valid_ev ..) ?_
      refine ev_if (fun c1 => ?_) (fun c1 => by rw [if_neg c1, Int.zero_add]; exact hz)
      have hv := validA_ok c1
      rw [if_pos c1, wrap_id (by omega) (by omega), ← Int.add_assoc]
      exact hn (s + t.2.1) (by omega) (by omega)
theorem bytes_ev (refs : List Int) (l : List As) : Ev (fun k => asset_Bytes.f k refs l) (bytesA refs l) := by
  unfold asset_Bytes.f
  have m0 : ∀ n : Nat, 0 ≤ mn (n : Int) 1024 ∧ mn (n : Int) 1024 ≤ (n : Int) := fun n => by unfold mn; split <;> omega
  rw [take_mn, take_mn]
  refine ev_if (fun _ => ?_) (fun c => absurd (m0 _).1 c)
  refine ev_if (fun _ => ?_) (fun c => absurd (m0 _).2 c)
  refine ev_if (fun _ => ?_) (fun c => absurd (m0 _).1 c)
  refine ev_if (fun _ => ?_) (fun c => absurd (m0 _).2 c)
  have h1 : (refs.take 1024).length ≤ 1024 := by simp; omega
  have h2 : (l.take 1024).length ≤ 1024 := by simp; omega
  have h3 := Nat.le_trans (risen_length (refs.take 1024)) h1
  refine ev_bindc (distinct_ev _ (by omega)) ?_
  have := bytes_loop (l.take 1024) (risen (refs.take 1024)) (by omega) h3 (risen (refs.take 1024)).length 0 0 (by omega) (by omega) (by omega)
  simpa [bytesA] using this

def insT : Bool → Int → List Int → List Int
  | true, _, l => l
  | false, n, [] => [n]
  | false, n, x :: t => if n < x then n :: x :: t else if n = x then x :: t else x :: insT false n t
theorem ins_mem (n : Int) (l : List Int) (y : Int) : y ∈ insT false n l ↔ y = n ∨ y ∈ l := by
  induction l with
  | nil => simp [insT]
  | cons x t ih =>
    simp only [insT]
    split
    · simp
    split
    · rename_i h; subst h; simp
    · simp only [List.mem_cons, ih]
      constructor
      · rintro (h | h | h)
        · exact .inr (.inl h)
        · exact .inl h
        · exact .inr (.inr h)
      · rintro (h | h | h)
        · exact .inr (.inl h)
        · exact .inl h
        · exact .inr (.inr h)
theorem ins_rising (n : Int) (l : List Int) (h : Rising l) : Rising (insT false n l) := by
  induction l with
  | nil => simp [insT, Rising]
  | cons x t ih =>
    obtain ⟨h1, h2⟩ := List.pairwise_cons.1 h
    simp only [insT]
    split
    · rename_i c
      refine List.pairwise_cons.2 ⟨fun y hy => ?_, h⟩
      rcases List.mem_cons.1 hy with rfl | hy
      · exact c
      · have := h1 y hy; omega
    split
    · exact h
    · refine List.pairwise_cons.2 ⟨fun y hy => ?_, ih h2⟩
      rcases (ins_mem n t y).1 hy with rfl | hy
      · omega
      · exact h1 y hy
theorem ins_risen (n : Int) (p : List Int) : insT false n (risen p) = risen (p ++ [n]) :=
  risen_unique (ins_rising n _ (risen_rising p)) (fun y => by rw [ins_mem, risen_mem]; simp only [List.mem_append, List.mem_singleton]; exact Or.comm)
theorem insert_loop (n : Int) (l : List Int) (hl : l.length ≤ 17592186044414) : ∀ (d i : Nat) (out : List Int) (done : Bool), i + d = l.length → out.length ≤ i + (if done then 1 else 0) →
    Ev (fun k => examboardref17_insert.l0 k n out done l (l.length : Int) (i : Int)) (out ++ insT done n (l.drop i)) := by
  intro d
  induction d with
  | zero =>
    intro i out done hi ho
    refine ev_now (fun k => ?_)
    rw [examboardref17_insert.l0.eq_2, if_neg (by omega), List.drop_of_length_le (by omega)]
    cases done with
    | true => simp [insT]
    | false =>
      have : out.length ≤ i := by simpa using ho
      rw [if_neg (by simp), if_pos (by omega)]; rfl
  | succ d ih =>
    intro i out done hi ho
    have hlt : i < l.length := by omega
    have hn := fun o dn a => ih (i + 1) o dn (by omega) a
    rw [drop_cons hlt]
    have j1f : (¬ (done = false ∧ n ≤ l[i])) → Ev (fun k => examboardref17_insert.j1 k n out done l[i] l (l.length : Int) (i : Int) false) (out ++ insT done n (l[i] :: l.drop (i + 1))) := by
      intro hne
      have ho' : out.length ≤ i + 1 := by cases done <;> simp at ho <;> omega
      refine Ev.step (f := fun k => examboardref17_insert.l0 k n (out ++ [l[i]]) done l (l.length : Int) ((i + 1 : Nat) : Int)) (fun k => ?_) ?_
      · rw [examboardref17_insert.j1.eq_2, if_neg (by simp), if_pos (by omega), wrap_next hlt (by omega)]
      · have hk := hn (out ++ [l[i]]) done (by simp; omega)
        rw [List.append_assoc, List.singleton_append] at hk
        cases done with
        | true => simpa [insT] using hk
        | false =>
          have hx : ¬ n ≤ l[i] := fun h => hne ⟨rfl, h⟩
          simp only [insT]
          rw [if_neg (by omega), if_neg (by omega)]
          exact hk
    have j1t : done = false → n ≤ l[i] → Ev (fun k => examboardref17_insert.j1 k n out done l[i] l (l.length : Int) (i : Int) true) (out ++ insT done n (l[i] :: l.drop (i + 1))) := by
      intro hd hle
      subst hd
      have ho' : out.length ≤ i := by simpa using ho
      refine Ev.step (f := fun k => if n < l[i] then examboardref17_insert.l0 k n (out ++ [n] ++ [l[i]]) true l (l.length : Int) ((i + 1 : Nat) : Int) else examboardref17_insert.l0 k n (out ++ [l[i]]) true l (l.length : Int) ((i + 1 : Nat) : Int)) (fun k => ?_) ?_
      · rw [examboardref17_insert.j1.eq_2, if_pos rfl, wrap_next hlt (by omega)]
        simp only [Option.bind_some, if_pos (show out.length < 17592186044416 by omega), if_pos (show (out ++ [n]).length < 17592186044416 by simp; omega)]
      · simp only [insT]
        refine ev_if (fun c => ?_) (fun c => ?_)
        · have hk := hn (out ++ [n] ++ [l[i]]) true (by simp; omega)
          rw [if_pos c]
          simpa [insT] using hk
        · have hk := hn (out ++ [l[i]]) true (by simp; omega)
          rw [if_neg c, if_pos (by omega)]
          simpa [insT] using hk
    cases done with
    | true =>
      refine Ev.step (f := fun k => examboardref17_insert.j1 k n out true l[i] l (l.length : Int) (i : Int) false) (fun k => ?_) (j1f (by simp))
      rw [examboardref17_insert.l0.eq_2, if_pos (by omega), if_pos (by omega), if_pos (by omega), if_pos rfl, rdi_at hlt]
    | false =>
      by_cases c : n ≤ l[i]
      · refine Ev.step (f := fun k => examboardref17_insert.j1 k n out false l[i] l (l.length : Int) (i : Int) true) (fun k => ?_) (j1t rfl c)
        rw [examboardref17_insert.l0.eq_2, if_pos (by omega), if_pos (by omega), if_pos (by omega), if_neg (by simp), rdi_at hlt, decide_eq_true c]
      · refine Ev.step (f := fun k => examboardref17_insert.j1 k n out false l[i] l (l.length : Int) (i : Int) false) (fun k => ?_) (j1f (fun h => c h.2))
        rw [examboardref17_insert.l0.eq_2, if_pos (by omega), if_pos (by omega), if_pos (by omega), if_neg (by simp), rdi_at hlt, decide_eq_false c]
theorem insert_ev (n : Int) (l : List Int) (hl : l.length ≤ 17592186044414) : Ev (fun k => examboardref17_insert.f k l n) (insT false n l) := by
  unfold examboardref17_insert.f
  have := insert_loop n l hl l.length 0 [] false (by omega) (by simp)
  simpa using this
theorem take_snoc {l : List Int} {i : Nat} (h : i < l.length) : l.take i ++ [l[i]] = l.take (i + 1) := (List.take_succ_eq_append_getElem h).symm

theorem ref_missing_loop (l : List As) (day : Int) (refs : List Int) (hl : l.length ≤ 4611686018427387904) (hr : refs.length ≤ 17592186044414) : ∀ (d i : Nat), i + d = refs.length →
    Ev (fun k => examboardref17_Missing.l0 k l day (risen ((refs.take i).filter (badA l day))) refs (refs.length : Int) (i : Int)) (risen (refs.filter (badA l day))) := by
  intro d
  induction d with
  | zero =>
    intro i hi
    refine ev_now (fun k => ?_)
    rw [examboardref17_Missing.l0.eq_2, if_neg (by omega), List.take_of_length_le (by omega)]
  | succ d ih =>
    intro i hi
    have hlt : i < refs.length := by omega
    have hn := ih (i + 1) (by omega)
    have hlen : (risen ((refs.take i).filter (badA l day))).length ≤ 17592186044414 := by
      have h1 := risen_length ((refs.take i).filter (badA l day))
      have h2 := List.length_filter_le (badA l day) (refs.take i)
      have h3 : (refs.take i).length ≤ i := by simp; omega
      omega
    rw [← take_snoc hlt, List.filter_append] at hn
    generalize hP : (refs.take i).filter (badA l day) = P at *
    refine Ev.step (f := fun k => (examboardref17_Find.f k l refs[i]).bind fun t => (if t.2.2.2.2.2 = true then ((examboardref17_Usable.f k t.1 t.2.1 t.2.2.1 t.2.2.2.1 t.2.2.2.2.1 day).bind fun t236 => (if t236 = 0 then (examboardref17_Missing.l0 k l day (risen P) refs (refs.length : Int) ((i + 1 : Nat) : Int)) else ((examboardref17_insert.f k (risen P) refs[i]).bind fun t237 => (examboardref17_Missing.l0 k l day t237 refs (refs.length : Int) ((i + 1 : Nat) : Int))))) else ((examboardref17_insert.f k (risen P) refs[i]).bind fun t240 => (examboardref17_Missing.l0 k l day t240 refs (refs.length : Int) ((i + 1 : Nat) : Int))))) (fun k => ?_) ?_
    · rw [examboardref17_Missing.l0.eq_2, if_pos (by omega), if_pos (by omega), if_pos (by omega), rdi_at hlt, wrap_next hlt (by omega)]
    · refine Ev.bind (ref_find_ev l refs[i] hl) ?_
      have hb : badA l day refs[i] = badT (findA l refs[i]) day := rfl
      generalize findA l refs[i] = t at *
      have yes : badT t day = true → Ev (fun k => (examboardref17_insert.f k (risen P) refs[i]).bind fun t240 => (examboardref17_Missing.l0 k l day t240 refs (refs.length : Int) ((i + 1 : Nat) : Int))) (risen (refs.filter (badA l day))) := fun h => by
        refine Ev.bind (insert_ev _ _ hlen) ?_
        rw [ins_risen]
        rw [List.filter_cons, hb, h] at hn
        exact hn
      refine ev_if (fun c => ?_) (fun c => yes (by unfold badT; rw [if_neg c]))
      refine Ev.bind (ref_usable_ev ..) ?_
      refine ev_if (fun c1 => ?_) (fun c1 => yes (by unfold badT; rw [if_pos c]; exact decide_eq_true c1))
      rw [List.filter_cons, hb, show badT t day = false by unfold badT; rw [if_pos c]; exact decide_eq_false (fun h => h c1)] at hn
      simpa using hn
theorem ref_missing_ev (refs : List Int) (l : List As) (day : Int) (hl : l.length ≤ 4611686018427387904) (hr : refs.length ≤ 17592186044414) : Ev (fun k => examboardref17_Missing.f k refs l day) (risen (refs.filter (badA l day))) := by
  unfold examboardref17_Missing.f
  have := ref_missing_loop l day refs hl hr refs.length 0 (by omega)
  rw [List.take_zero, List.filter_nil, show risen [] = [] from List.eq_nil_of_length_eq_zero (Nat.le_zero.1 (risen_length []))] at this
  simpa using this

theorem ref_bytes_sum (l : List As) (D : List Int) (hl : l.length ≤ 4611686018427387904) (hD : D.length ≤ 1024) : ∀ (d i : Nat) (s : Int), i + d = D.length → 0 ≤ s → s ≤ 1048576 * (i : Int) →
    Ev (fun k => examboardref17_Bytes.l1 k l D s (D.length : Int) (i : Int)) (s + sumA l (D.drop i)) := by
  intro d
  induction d with
  | zero =>
    intro i s hi h0 h1
    refine ev_now (fun k => ?_)
    rw [examboardref17_Bytes.l1.eq_2, if_neg (by omega), List.drop_of_length_le (by omega)]
    simp [sumA]
  | succ d ih =>
    intro i s hi h0 h1
    have hlt : i < D.length := by omega
    have hn := fun o a b => ih (i + 1) o (by omega) a b
    rw [drop_cons hlt]
    simp only [sumA]
    refine Ev.step (f := fun k => (examboardref17_Find.f k l D[i]).bind fun t => (if t.2.2.2.2.2 = true then ((examboardref17_Valid.f k t.1 t.2.1 t.2.2.1 t.2.2.2.1 t.2.2.2.2.1).bind fun t152 => (if t152 = 0 then (examboardref17_Bytes.l1 k l D (wrap64 (s + t.2.1)) (D.length : Int) ((i + 1 : Nat) : Int)) else (examboardref17_Bytes.l1 k l D s (D.length : Int) ((i + 1 : Nat) : Int)))) else (examboardref17_Bytes.l1 k l D s (D.length : Int) ((i + 1 : Nat) : Int)))) (fun k => ?_) ?_
    · rw [examboardref17_Bytes.l1.eq_2, if_pos (by omega), if_pos (by omega), if_pos (by omega), rdi_at hlt, wrap_next hlt (by omega)]
    · refine Ev.bind (ref_find_ev l D[i] hl) ?_
      unfold wA
      generalize findA l D[i] = t
      have hz := hn s h0 (by omega)
      unfold wT
      refine ev_if (fun c => ?_) (fun c => by rw [if_neg c, Int.zero_add]; exact hz)
      rw [if_pos c]
      refine Ev.bind (ref_valid_ev ..) ?_
      refine ev_if (fun c1 => ?_) (fun c1 => by rw [if_neg c1, Int.zero_add]; exact hz)
      have hv := validA_ok c1
      rw [if_pos c1, wrap_id (by omega) (by omega), ← Int.add_assoc]
      exact hn (s + t.2.1) (by omega) (by omega)
theorem ref_bytes_once (refs : List Int) (l : List As) (hl : l.length ≤ 4611686018427387904) (hr : refs.length ≤ 1024) : ∀ (d i : Nat), i + d = refs.length →
    Ev (fun k => examboardref17_Bytes.l0 k refs l (risen (refs.take i)) (refs.length : Int) (i : Int)) (sumA l (risen refs)) := by
  intro d
  induction d with
  | zero =>
    intro i hi
    have hd : (risen refs).length ≤ 1024 := Nat.le_trans (risen_length refs) hr
    refine Ev.step (f := fun k => examboardref17_Bytes.l1 k l (risen refs) 0 ((risen refs).length : Int) ((0 : Nat) : Int)) (fun k => ?_) ?_
    · rw [examboardref17_Bytes.l0.eq_2, if_neg (by omega), List.take_of_length_le (by omega)]; rfl
    · have := ref_bytes_sum l (risen refs) hl hd (risen refs).length 0 0 (by omega) (by omega) (by omega)
      simpa using this
  | succ d ih =>
    intro i hi
    have hlt : i < refs.length := by omega
    have hn := ih (i + 1) (by omega)
    rw [← take_snoc hlt] at hn
    have hlen : (risen (refs.take i)).length ≤ 17592186044414 := by
      have h1 := risen_length (refs.take i)
      have h3 : (refs.take i).length ≤ i := by simp; omega
      omega
    refine Ev.step (f := fun k => (examboardref17_insert.f k (risen (refs.take i)) refs[i]).bind fun t254 => (examboardref17_Bytes.l0 k refs l t254 (refs.length : Int) ((i + 1 : Nat) : Int))) (fun k => ?_) ?_
    · rw [examboardref17_Bytes.l0.eq_2, if_pos (by omega), if_pos (by omega), if_pos (by omega), rdi_at hlt, wrap_next hlt (by omega)]
    · refine Ev.bind (insert_ev _ _ hlen) ?_
      rw [ins_risen]
      exact hn
theorem ref_bytes_ev (refs : List Int) (l : List As) : Ev (fun k => examboardref17_Bytes.f k refs l) (bytesA refs l) := by
  unfold examboardref17_Bytes.f
  have j1 : ∀ (x : List Int) (y : List As), x.length ≤ 1024 → y.length ≤ 1024 → Ev (fun k => examboardref17_Bytes.j1 k x y) (sumA y (risen x)) := fun x y hx hy => by
    refine Ev.step (f := fun k => examboardref17_Bytes.l0 k x y ([] : List Int) (x.length : Int) ((0 : Nat) : Int)) (fun k => by rw [examboardref17_Bytes.j1.eq_2]; rfl) ?_
    have := ref_bytes_once x y (by omega) hx x.length 0 (by omega)
    rw [List.take_zero, show risen [] = [] from List.eq_nil_of_length_eq_zero (Nat.le_zero.1 (risen_length []))] at this
    exact this
  have j0 : ∀ (x : List Int), x.length ≤ 1024 → Ev (fun k => examboardref17_Bytes.j0 k x l) (sumA (l.take 1024) (risen x)) := fun x hx => by
    refine Ev.step (f := fun k => if (l.length : Int) > 1024 then (if 1024 ≤ (l.length : Int) then (examboardref17_Bytes.j1 k x (l.take 1024)) else (none)) else (examboardref17_Bytes.j1 k x l)) (fun k => examboardref17_Bytes.j0.eq_2 ..) ?_
    refine ev_if (fun c => ?_) (fun c => ?_)
    · refine ev_if (fun _ => ?_) (fun c1 => absurd (by omega) c1)
      exact j1 x _ hx (by simp; omega)
    · rw [List.take_of_length_le (show l.length ≤ 1024 by omega)]
      exact j1 x l hx (by omega)
  unfold bytesA
  refine ev_if (fun c => ?_) (fun c => ?_)
  · refine ev_if (fun _ => ?_) (fun c1 => absurd (by omega) c1)
    exact j0 _ (by simp; omega)
  · rw [List.take_of_length_le (show refs.length ≤ 1024 by omega)]
    exact j0 refs (by omega)

theorem equal_loop (l m : List Int) (he : l.length = m.length) (hl : l.length ≤ 4611686018427387904) : ∀ (d i : Nat), i + d = l.length → Ev (fun k => examboardlaw17_equal.l0 k l m (l.length : Int) (i : Int)) (decide (l.drop i = m.drop i)) := by
  intro d
  induction d with
  | zero =>
    intro i hi
    refine ev_now (fun k => ?_)
    rw [examboardlaw17_equal.l0.eq_2, if_neg (by omega), List.drop_of_length_le (by omega), List.drop_of_length_le (by omega)]
    simp
  | succ d ih =>
    intro i hi
    have hlt : i < l.length := by omega
    have hlm : i < m.length := by omega
    refine Ev.step (f := fun k => if l[i] = m[i] then examboardlaw17_equal.l0 k l m (l.length : Int) ((i + 1 : Nat) : Int) else some false) (fun k => ?_) ?_
    · rw [examboardlaw17_equal.l0.eq_2, if_pos (by omega), if_pos (by omega), if_pos (by omega), if_pos (by omega), rdi_at hlt, rdi_at hlm, wrap_next hlt hl]
    · rw [drop_cons hlt, drop_cons hlm]
      refine ev_if (fun c => ?_) (fun c => ?_)
      · have := ih (i + 1) (by omega)
        rw [c, show decide (m[i] :: l.drop (i + 1) = m[i] :: m.drop (i + 1)) = decide (l.drop (i + 1) = m.drop (i + 1)) from decide_eq_decide.2 (by rw [List.cons.injEq]; simp only [true_and])]
        exact this
      · rw [show decide (l[i] :: l.drop (i + 1) = m[i] :: m.drop (i + 1)) = false from decide_eq_false (by rw [List.cons.injEq]; exact fun h => c h.1)]
        exact Ev.now _
theorem equal_ev (l m : List Int) (hl : l.length ≤ 4611686018427387904) : Ev (fun k => examboardlaw17_equal.f k l m) (decide (l = m)) := by
  unfold examboardlaw17_equal.f
  refine ev_if (fun c => ?_) (fun c => ?_)
  · have := equal_loop l m (by omega) hl l.length 0 (by omega)
    simpa using this
  · rw [show decide (l = m) = false from by rw [decide_eq_false_iff_not]; intro h; exact c (by rw [h])]
    exact Ev.now _

theorem few_ev (l : List Int) : examboardlaw17_few.f l = some (l.take 40) := by
  unfold examboardlaw17_few.f
  by_cases h : (l.length : Int) > 40
  · rw [if_pos h, if_pos (by omega)]
  · rw [if_neg h, List.take_of_length_le (by omega)]

theorem awake_ev : Ev (fun k => examboardlaw17_awake.f k) true := by
  unfold examboardlaw17_awake.f
  have sm : examboardlaw17_sample.f = some (3, 500, (⟨#[65, 32, 109, 97, 112]⟩ : ByteArray), 10, 20) := rfl
  refine ev_bindc sm ?_
  refine ev_bindc rfl ?_
  refine ev_bindc sm ?_
  refine Ev.bind (find_ev _ _ (by simp)) ?_
  refine ev_if (fun _ => ?_) (fun c => absurd rfl c)
  refine ev_bindc sm ?_
  refine ev_if (fun _ => ?_) (fun c => absurd (by simp [findA]) c)
  refine Ev.bind (valid_ev ..) ?_
  refine ev_if (fun _ => ?_) (fun c => absurd (by decide) c)
  refine Ev.bind (valid_ev ..) ?_
  refine ev_if (fun _ => ?_) (fun c => absurd (by decide) c)
  refine Ev.bind (usable_ev ..) ?_
  refine ev_if (fun _ => ?_) (fun c => absurd (by decide) c)
  refine Ev.bind (usable_ev ..) ?_
  refine ev_if (fun _ => ?_) (fun c => absurd (by decide) c)
  refine Ev.bind (missing_ev _ _ _ (by simp) (by simp)) ?_
  rw [show risen [5, 3, 5] = [3, 5] from (risen_unique (by unfold Rising; decide) (fun x => by simp; omega)).symm]
  refine Ev.bind (equal_ev _ _ (by have := List.length_filter_le (badA [(⟨3, 500, (⟨#[65, 32, 109, 97, 112]⟩ : ByteArray), 10, 20⟩ : As)] 21) [3, 5]; simp at this ⊢; omega)) ?_
  refine ev_if (fun _ => ?_) (fun c => absurd (by decide) c)
  refine Ev.bind (bytes_ev ..) ?_
  refine ev_const ?_
  unfold bytesA
  rw [show List.take 1024 [(3 : Int), 5, 3] = [3, 5, 3] from rfl, show risen [3, 5, 3] = [3, 5] from (risen_unique (by unfold Rising; decide) (fun x => by simp; omega)).symm]
  decide

theorem lists_loop (x0 : List Int) (l : List As) (day : Int) (D : List Int) (hl : l.length ≤ 4611686018427387904) (hD : D.length ≤ 1000) (r : Bool) (hend : Ev (fun k => (asset_Missing.f k x0 l day).bind fun t290 => ((examboardref17_Missing.f k x0 l day).bind fun t293 => ((examboardlaw17_equal.f k t290 t293).bind fun t296 => (if t296 = true then ((asset_Bytes.f k x0 l).bind fun t297 => ((examboardref17_Bytes.f k x0 l).bind fun t298 => (if t297 = t298 then ((examboardlaw17_awake.f k).bind fun t299 => (some t299)) else (none)))) else (none))))) r) :
    ∀ (d i : Nat), i + d = D.length → Ev (fun k => examboardlaw17_AssetLists.l0 k x0 l day D (D.length : Int) (i : Int)) r := by
  intro d
  induction d with
  | zero =>
    intro i hi
    refine Ev.step (fun k => ?_) hend
    rw [examboardlaw17_AssetLists.l0.eq_2, if_neg (by omega)]
  | succ d ih =>
    intro i hi
    have hlt : i < D.length := by omega
    refine Ev.step (f := fun k => (asset_Find.f k l D[i]).bind fun bt276 => ((examboardref17_Find.f k l D[i]).bind fun bt283 => (if (!(bt276.1 == bt283.1) || (!(bt276.2.1 == bt283.2.1) || (!(bt276.2.2.1.toList == bt283.2.2.1.toList) || (!(bt276.2.2.2.1 == bt283.2.2.2.1) || (!(bt276.2.2.2.2.1 == bt283.2.2.2.2.1)))))) = true then (none) else (if (bt276.2.2.2.2.2 != bt283.2.2.2.2.2) = true then (none) else (examboardlaw17_AssetLists.l0 k x0 l day D (D.length : Int) ((i + 1 : Nat) : Int)))))) (fun k => ?_) ?_
    · rw [examboardlaw17_AssetLists.l0.eq_2, if_pos (by omega), if_pos (by omega), if_pos (by omega), rdi_at hlt, wrap_next hlt (by omega)]
    · refine Ev.bind (find_ev _ _ hl) ?_
      refine Ev.bind (ref_find_ev _ _ hl) ?_
      refine ev_if (fun c => by simp at c) (fun _ => ?_)
      refine ev_if (fun c => by simp at c) (fun _ => ?_)
      exact ih (i + 1) (by omega)
theorem AssetLists : ∀ (l0 : List Int) (l1 : List (S39)) (a2 : Int), l0.length ≤ maxLen → l0.length * 8 ≤ 140737488351232 → (∀ x_ ∈ l0, (Lit.int .i64 x_).wf = true) → l1.length ≤ maxLen → l1.length * 48 ≤ 140737488351232 → (∀ x_ ∈ l1, ((Lit.int .i64 x_.f0).wf = true ∧ (Lit.int .i64 x_.f1).wf = true ∧ x_.f2.size ≤ 140737488351232 ∧ (Lit.int .i64 x_.f3).wf = true ∧ (Lit.int .i64 x_.f4).wf = true)) → (Lit.int .i64 a2).wf = true → ∃ k, examboardlaw17_AssetLists.f k l0 l1 a2 = some true := by
  intro refs l day hm hb _ hm2 hb2 _ _
  refine Ev.rounds ?_
  have hl : l.length ≤ 4611686018427387904 := by omega
  unfold examboardlaw17_AssetLists.f
  refine ev_bindc rfl ?_
  refine ev_bindc (few_ev refs) ?_
  have h40 : (refs.take 40).length ≤ 40 := by simp; omega
  refine ev_if (fun _ => ?_) (fun c => absurd (by simp only [List.length_cons, List.length_nil]; omega) c)
  refine ev_bindc rfl ?_
  refine lists_loop refs l day ([day] ++ refs.take 40) hl (by simp only [List.length_append, List.length_cons, List.length_nil]; omega) true ?_ _ 0 (Nat.zero_add _)
  refine Ev.bind (missing_ev refs l day hl (by omega)) ?_
  refine Ev.bind (ref_missing_ev refs l day hl (by omega)) ?_
  rw [risen_filter]
  have h1 := risen_length (refs.filter (badA l day))
  have h2 := List.length_filter_le (badA l day) refs
  refine Ev.bind (equal_ev _ _ (by omega)) ?_
  refine ev_if (fun _ => ?_) (fun c => absurd (decide_eq_true rfl) c)
  refine Ev.bind (bytes_ev ..) ?_
  refine Ev.bind (ref_bytes_ev ..) ?_
  refine ev_if (fun _ => ?_) (fun c => absurd rfl c)
  exact Ev.bind awake_ev (Ev.now _)
end Go.Proofs.Ytgeplglggcoaiaa.Pure
