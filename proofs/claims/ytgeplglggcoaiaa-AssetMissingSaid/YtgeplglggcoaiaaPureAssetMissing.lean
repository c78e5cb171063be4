/- The pure statement of the law AssetMissing: the missing references are rising, and they are those that have no usable asset. -/
import Derived.Test.YtgeplglggcoaiaaAssetx10
import Derived.Test.YtgeplglggcoaiaaAssetx11
import Derived.Test.YtgeplglggcoaiaaAssetx12
import Derived.Test.YtgeplglggcoaiaaAssetx13
import Derived.Test.YtgeplglggcoaiaaAssetx14
import Derived.Test.YtgeplglggcoaiaaAssetx16
import Derived.Test.YtgeplglggcoaiaaAssetx2
import Derived.Test.YtgeplglggcoaiaaAssetx22
import Derived.Test.YtgeplglggcoaiaaAssetx23
import Derived.Test.YtgeplglggcoaiaaAssetx25
import Derived.Test.YtgeplglggcoaiaaAssetx5
import Derived.Test.YtgeplglggcoaiaaAssetx7
import Derived.Test.YtgeplglggcoaiaaAssetx8
import Derived.Lib.SlicesCompact
import Derived.Lib.RowBridge
namespace Go.Proofs.Ytgeplglggcoaiaa.Pure
open Go.RowKit Go.Lib Go.Proofs.Ytgeplglggcoaiaa.Asset Go.Proofs.YtgeplglggcoaiaaW.PrintWords Go.Proofs.YtgeplglggcoaiaaW.PrintLast Go.Proofs.YtgeplglggcoaiaaW.PrintMore

theorem wrap_id {n : Int} (h0 : -9223372036854775808 ≤ n) (h1 : n ≤ 9223372036854775807) : wrap64 n = n := by unfold wrap64; omega
theorem ev_now {α : Type} {g : Nat → Option α} {r : α} (h : ∀ k, g (k + 1) = some r) : Ev g r := Ev.step (f := fun _ => some r) h (Ev.now r)
theorem ev_const {α : Type} {o : Option α} {r : α} (h : o = some r) : Ev (fun _ => o) r := ⟨0, fun _ _ => h⟩
theorem ev_bindc {α β : Type} {o : Option α} {f : Nat → α → Option β} {a : α} {r : β} (h : o = some a) (k : Ev (fun n => f n a) r) : Ev (fun n => o.bind (f n)) r := by
  subst h
  exact k
theorem ev_if {α : Type} {c : Prop} [Decidable c] {f g : Nat → Option α} {r : α} (hy : c → Ev f r) (hn : ¬ c → Ev g r) : Ev (fun k => if c then f k else g k) r := by
  by_cases h : c
  · simp only [if_pos h]; exact hy h
  · simp only [if_neg h]; exact hn h

def Rising (l : List Int) : Prop := l.Pairwise (· < ·)
theorem rising_unique : ∀ {a b : List Int}, Rising a → Rising b → (∀ x, x ∈ a ↔ x ∈ b) → a = b
  | [], [], _, _, _ => rfl
  | [], y :: b, _, _, h => by have := (h y).2 (List.mem_cons_self); cases this
  | x :: a, [], _, _, h => by have := (h x).1 (List.mem_cons_self); cases this
  | x :: a, y :: b, ha, hb, h => by
    obtain ⟨ha1, ha2⟩ := List.pairwise_cons.1 ha
    obtain ⟨hb1, hb2⟩ := List.pairwise_cons.1 hb
    have hxy : x = y := by
      rcases List.mem_cons.1 ((h x).1 List.mem_cons_self) with h1 | h1
      · exact h1
      · rcases List.mem_cons.1 ((h y).2 List.mem_cons_self) with h2 | h2
        · exact h2.symm
        · have := ha1 y h2
          have := hb1 x h1
          omega
    subst hxy
    congr 1
    refine rising_unique ha2 hb2 (fun z => ⟨fun hz => ?_, fun hz => ?_⟩)
    · rcases List.mem_cons.1 ((h z).1 (List.mem_cons_of_mem _ hz)) with h1 | h1
      · have := ha1 z hz
        omega
      · exact h1
    · rcases List.mem_cons.1 ((h z).2 (List.mem_cons_of_mem _ hz)) with h1 | h1
      · have := hb1 z hz
        omega
      · exact h1

theorem sorted_at {l : List Int} (hs : l.Pairwise (· ≤ ·)) {i j : Nat} (hij : i ≤ j) (hj : j < l.length) : l[i]! ≤ l[j]! := by
  rw [getElem!_pos l i (by omega), getElem!_pos l j hj]
  rcases Nat.lt_or_ge i j with h | h
  · exact List.pairwise_iff_getElem.1 hs i j (by omega) hj h
  · have : i = j := by omega
    subst this
    exact Int.le_refl _
theorem toArray_get! (l : List Int) (i : Nat) : l.toArray[i]! = l[i]! := by simp
theorem compact_mem {l : List Int} (x : Int) : x ∈ compact l ↔ x ∈ l := by
  unfold compact compactUpTo
  simp only [List.mem_map, List.mem_filter, List.mem_range]
  constructor
  · rintro ⟨i, ⟨hi, _⟩, rfl⟩
    rw [toArray_get!, getElem!_pos l i hi]
    exact List.getElem_mem hi
  · intro hx
    have key : ∀ i, i < l.length → ∃ a, (a < l.length ∧ keeps l.toArray a = true) ∧ l.toArray[a]! = l[i]! := by
      intro i
      induction i with
      | zero => intro hi; exact ⟨0, ⟨hi, by simp [keeps]⟩, toArray_get! l 0⟩
      | succ i ih =>
        intro hi
        by_cases h : l[i + 1]! = l[i]!
        · obtain ⟨a, ha, hav⟩ := ih (by omega)
          exact ⟨a, ha, by rw [hav, h]⟩
        · refine ⟨i + 1, ⟨hi, ?_⟩, toArray_get! l _⟩
          simp only [keeps, toArray_get!, Nat.add_sub_cancel, decide_eq_true_eq]
          exact .inr h
    obtain ⟨i, hi, rfl⟩ := List.mem_iff_getElem.1 hx
    obtain ⟨a, ha, hav⟩ := key i hi
    exact ⟨a, ha, by rw [hav, getElem!_pos l i hi]⟩
theorem compact_rising {l : List Int} (hs : l.Pairwise (· ≤ ·)) : Rising (compact l) := by
  unfold compact compactUpTo Rising
  rw [List.pairwise_map, List.pairwise_filter]
  have h0 : (List.range l.length).Pairwise (fun a b => a < b ∧ b < l.length) := by
    rw [List.pairwise_iff_getElem]
    intro i j hi hj hij
    simp at hi hj ⊢
    exact ⟨hij, hj⟩
  refine h0.imp ?_
  rintro a b ⟨hab, hb⟩ _ hk
  simp only [toArray_get!]
  simp only [keeps, toArray_get!, decide_eq_true_eq] at hk
  have h1 := sorted_at hs (show a ≤ b - 1 by omega) (show b - 1 < l.length by omega)
  have h2 := sorted_at hs (show b - 1 ≤ b by omega) hb
  rcases hk with hk | hk
  · omega
  · omega
theorem compact_sublist_length (l : List Int) : (compact l).length ≤ l.length := compact_length_le l
def risen (l : List Int) : List Int := compact (l.mergeSort fun x y => decide (x ≤ y))
theorem risen_rising (l : List Int) : Rising (risen l) := by
  refine compact_rising ?_
  have := List.pairwise_mergeSort (le := fun x y : Int => decide (x ≤ y)) (fun a b c => by simp; omega) (fun a b => by simp; omega) l
  exact this.imp (fun h => by simpa using h)
theorem risen_mem (l : List Int) (x : Int) : x ∈ risen l ↔ x ∈ l := by
  unfold risen
  rw [compact_mem, List.mem_mergeSort]
theorem risen_length (l : List Int) : (risen l).length ≤ l.length := by
  unfold risen
  have := compact_length_le (l.mergeSort fun x y => decide (x ≤ y))
  rwa [List.length_mergeSort] at this
theorem risen_unique {l d : List Int} (hd : Rising d) (hm : ∀ x, x ∈ d ↔ x ∈ l) : d = risen l := rising_unique hd (risen_rising l) (fun x => (hm x).trans (risen_mem l x).symm)
theorem risen_of_rising {l : List Int} (h : Rising l) : risen l = l := (risen_unique h (fun _ => Iff.rfl)).symm

theorem rdi_at {l : List Int} {i : Nat} (h : i < l.length) : rd l (i : Int) = l[i] := by
  unfold rd
  simp [h]

abbrev As := S39
abbrev Fd := Int × Int × ByteArray × Int × Int × Bool
theorem rda_at {l : List As} {i : Nat} (h : i < l.length) : rd_T39 l (i : Int) = l[i] := by
  unfold rd_T39
  simp [h]
theorem drop_cons {α : Type} {l : List α} {i : Nat} (h : i < l.length) : l.drop i = l[i] :: l.drop (i + 1) := by simp
theorem wrap_next {i n : Nat} (h : i < n) (hn : n ≤ 4611686018427387904) : wrap64 ((i : Int) + 1) = ((i + 1 : Nat) : Int) := by rw [wrap_id (by omega) (by omega)]; rfl
def chars (b : ByteArray) : Nat → Nat → Bool
  | _, 0 => true
  | i, d + 1 => (decide (32 ≤ bt b (i : Int)) && decide (bt b (i : Int) ≤ 126)) && chars b (i + 1) d
def validA (a0 a1 : Int) (b : ByteArray) (a3 a4 : Int) : Int :=
  if a0 < 1 ∨ 9999999 < a0 ∨ a1 < 1 ∨ 1048576 < a1 ∨ a3 < 0 ∨ 9999999 < a3 ∨ a4 < 0 ∨ 9999999 < a4 then 3
  else if b.size < 1 ∨ 200 < b.size then 2 else if chars b 0 b.size = false then 2 else if a4 < a3 then 15 else 0
def usableA (a0 a1 : Int) (b : ByteArray) (a3 a4 day : Int) : Int := if validA a0 a1 b a3 a4 = 0 then (if day < a3 ∨ a4 < day then 17 else 0) else validA a0 a1 b a3 a4
theorem validA_ok {a0 a1 : Int} {b : ByteArray} {a3 a4 : Int} (h : validA a0 a1 b a3 a4 = 0) : (1 ≤ a1 ∧ a1 ≤ 1048576) ∧ (0 ≤ a3 ∧ a3 ≤ a4 ∧ a4 ≤ 9999999) := by
  unfold validA at h
  split at h
  · omega
  split at h
  · omega
  split at h
  · omega
  split at h
  · omega
  omega
theorem validA_not17 (a0 a1 : Int) (b : ByteArray) (a3 a4 : Int) : validA a0 a1 b a3 a4 ≠ 17 := by
  unfold validA
  split
  · omega
  split
  · omega
  split
  · omega
  split <;> omega
theorem chars_loop (F : Nat → Int → Option Int) (b : ByteArray) (a3 a4 : Int) (hb : b.size ≤ 200) (h : ∀ k x, F (k + 1) x = if x < (b.size : Int) then (if 0 ≤ x then (if (bt b x) < 32 then (some 2) else (if (bt b x) > 126 then (some 2) else (F k (wrap64 (x + 1))))) else (none)) else (if a3 > a4 then (some 15) else (some 0))) :
    ∀ (d i : Nat), i + d = b.size → Ev (fun k => F k (i : Int)) (if chars b i d = false then 2 else if a4 < a3 then 15 else 0) := by
  intro d
  induction d with
  | zero =>
    intro i hi
    refine ev_now (fun k => ?_)
    rw [h, if_neg (by omega)]
    simp only [chars, Bool.true_eq_false, if_false]
    by_cases c : a4 < a3
    · rw [if_pos c, if_pos c]
    · rw [if_neg c, if_neg c]
  | succ d ih =>
    intro i hi
    refine Ev.step (f := fun k => if bt b (i : Int) < 32 then some 2 else if bt b (i : Int) > 126 then some 2 else F k ((i + 1 : Nat) : Int)) (fun k => ?_) ?_
    · rw [h, if_pos (by omega), if_pos (by omega), wrap_next (n := 200) (by omega) (by omega)]
    · refine ev_if (fun c => ?_) (fun c => ?_)
      · have e : chars b i (d + 1) = false := by simp only [chars]; rw [decide_eq_false (p := 32 ≤ bt b (i : Int)) (by omega)]; rfl
        rw [if_pos e]; exact Ev.now _
      refine ev_if (fun c1 => ?_) (fun c1 => ?_)
      · have e : chars b i (d + 1) = false := by simp only [chars]; rw [decide_eq_false (p := bt b (i : Int) ≤ 126) (by omega), Bool.and_false]; rfl
        rw [if_pos e]; exact Ev.now _
      have e : chars b i (d + 1) = chars b (i + 1) d := by simp only [chars]; rw [decide_eq_true (p := 32 ≤ bt b (i : Int)) (by omega), decide_eq_true (p := bt b (i : Int) ≤ 126) (by omega)]; rfl
      rw [e]
      exact ih (i + 1) (by omega)
def findA : List As → Int → Fd
  | [], _ => (0, 0, (⟨#[]⟩ : ByteArray), 0, 0, false)
  | h :: t, id => if h.f0 = id then (h.f0, h.f1, h.f2, h.f3, h.f4, true) else findA t id
theorem find_loop (F : Nat → Int → Option Fd) (l : List As) (id : Int) (hl : l.length ≤ 4611686018427387904)
    (h : ∀ k x, F (k + 1) x = if x < (l.length : Int) then (if 0 ≤ x then (if x < (l.length : Int) then (if ((rd_T39 l x).f0) = id then (some ((rd_T39 l x).f0, (rd_T39 l x).f1, (rd_T39 l x).f2, (rd_T39 l x).f3, (rd_T39 l x).f4, true)) else (F k (wrap64 (x + 1)))) else (none)) else (none)) else (some (0, 0, (⟨#[]⟩ : ByteArray), 0, 0, false))) :
    ∀ (d i : Nat), i + d = l.length → Ev (fun k => F k (i : Int)) (findA (l.drop i) id) := by
  intro d
  induction d with
  | zero =>
    intro i hi
    refine ev_now (fun k => ?_)
    rw [h, if_neg (by omega), List.drop_of_length_le (by omega)]
    rfl
  | succ d ih =>
    intro i hi
    have hlt : i < l.length := by omega
    have hn := ih (i + 1) (by omega)
    rw [drop_cons hlt]
    refine Ev.step (f := fun k => if l[i].f0 = id then some (l[i].f0, l[i].f1, l[i].f2, l[i].f3, l[i].f4, true) else F k ((i + 1 : Nat) : Int)) (fun k => ?_) ?_
    · rw [h, if_pos (by omega), if_pos (by omega), if_pos (by omega), rda_at hlt, wrap_next hlt hl]
    · simp only [findA]
      refine ev_if (fun c => ?_) (fun c => ?_)
      · rw [if_pos c]; exact Ev.now _
      · rw [if_neg c]; exact hn
theorem findA_id (l : List As) (id : Int) (h : (findA l id).2.2.2.2.2 = true) : (findA l id).1 = id := by
  induction l with
  | nil => cases h
  | cons x t ih =>
    simp only [findA] at h ⊢
    by_cases c : x.f0 = id
    · rw [if_pos c]; exact c
    · rw [if_neg c] at h ⊢; exact ih h
def badT (t : Fd) (day : Int) : Bool := if t.2.2.2.2.2 = true then decide (usableA t.1 t.2.1 t.2.2.1 t.2.2.2.1 t.2.2.2.2.1 day ≠ 0) else true
def badA (l : List As) (day : Int) (id : Int) : Bool := badT (findA l id) day
def wT (t : Fd) : Int := if t.2.2.2.2.2 = true then (if validA t.1 t.2.1 t.2.2.1 t.2.2.2.1 t.2.2.2.2.1 = 0 then t.2.1 else 0) else 0
def wA (l : List As) (id : Int) : Int := wT (findA l id)
theorem wT_range (t : Fd) : 0 ≤ wT t ∧ wT t ≤ 1048576 := by
  unfold wT
  split
  · split
    · rename_i h; have := validA_ok h; omega
    · omega
  · omega
def sumA (l : List As) : List Int → Int
  | [] => 0
  | x :: t => wA l x + sumA l t
theorem sumA_range (l : List As) (D : List Int) : 0 ≤ sumA l D ∧ sumA l D ≤ 1048576 * (D.length : Int) := by
  induction D with
  | nil => simp [sumA]
  | cons x t ih =>
    have := wT_range (findA l x)
    simp only [sumA, wA, List.length_cons]
    omega

theorem valid_ev (a0 a1 : Int) (b : ByteArray) (a3 a4 : Int) : Ev (fun k => asset_Valid.f k a0 a1 b a3 a4) (validA a0 a1 b a3 a4) := by
  unfold asset_Valid.f
  have bad : Ev (fun k => asset_Valid.j0 k true a0 a1 b a3 a4) 3 := ev_now (fun k => by simp [asset_Valid.j0])
  have j1t : Ev (fun k => asset_Valid.j1 k true a0 a1 b a3 a4) 2 := ev_now (fun k => by simp [asset_Valid.j1])
  unfold validA
  refine ev_if (fun c => by rw [if_pos (by omega)]; exact bad) (fun c0 => ?_)
  refine ev_if (fun c => by rw [if_pos (by omega)]; exact bad) (fun c1 => ?_)
  refine ev_if (fun c => by rw [if_pos (by omega)]; exact bad) (fun c2 => ?_)
  refine ev_if (fun c => by rw [if_pos (by omega)]; exact bad) (fun c3 => ?_)
  refine ev_if (fun c => by rw [if_pos (by omega)]; exact bad) (fun c4 => ?_)
  refine ev_if (fun c => by rw [if_pos (by omega)]; exact bad) (fun c5 => ?_)
  refine ev_if (fun c => by rw [if_pos (by omega)]; exact bad) (fun c6 => ?_)
  by_cases c7 : a4 > 9999999
  · rw [if_pos (by omega), decide_eq_true c7]; exact bad
  rw [if_neg (by omega), decide_eq_false c7]
  refine Ev.step (f := fun k => if (b.size : Int) < 1 then asset_Valid.j1 k true a0 a1 b a3 a4 else asset_Valid.j1 k (decide ((b.size : Int) > 200)) a0 a1 b a3 a4) (fun k => by simp [asset_Valid.j0]) ?_
  refine ev_if (fun c => by rw [if_pos (by omega)]; exact j1t) (fun c8 => ?_)
  by_cases c9 : (b.size : Int) > 200
  · rw [if_pos (by omega), decide_eq_true c9]; exact j1t
  rw [if_neg (by omega), decide_eq_false c9]
  refine Ev.step (f := fun k => asset_Valid.l0 k ((0 : Nat) : Int) a0 a1 b a3 a4) (fun k => by simp [asset_Valid.j1]) ?_
  exact chars_loop (fun k x => asset_Valid.l0 k x a0 a1 b a3 a4) b a3 a4 (by omega) (fun k x => asset_Valid.l0.eq_2 ..) b.size 0 (by omega)

theorem usable_ev (a0 a1 : Int) (b : ByteArray) (a3 a4 day : Int) : Ev (fun k => asset_Usable.f k a0 a1 b a3 a4 day) (usableA a0 a1 b a3 a4 day) := by
  unfold asset_Usable.f usableA
  refine Ev.bind (valid_ev a0 a1 b a3 a4) ?_
  refine ev_if (fun c => ?_) (fun c => by rw [if_neg c]; exact Ev.now _)
  rw [if_pos c]
  refine ev_if (fun c => by rw [if_pos (by omega)]; exact Ev.now _) (fun c1 => ?_)
  refine ev_if (fun c => by rw [if_pos (by omega)]; exact Ev.now _) (fun c2 => by rw [if_neg (by omega)]; exact Ev.now _)

theorem find_ev (l : List As) (id : Int) (hl : l.length ≤ 4611686018427387904) : Ev (fun k => asset_Find.f k l id) (findA l id) := by
  unfold asset_Find.f
  have := find_loop (fun k x => asset_Find.l0 k id l (l.length : Int) x) l id hl (fun k x => asset_Find.l0.eq_2 ..) l.length 0 (by omega)
  simpa using this

theorem distinct_ev (l : List Int) (h : l.length < 17592186044416) : asset_distinct.f l = some (risen l) := by
  unfold asset_distinct.f
  rw [if_pos h]; rfl
theorem missing_loop (l : List As) (day : Int) (D : List Int) (hl : l.length ≤ 4611686018427387904) (hD : D.length ≤ 17592186044415) : ∀ (d i : Nat) (out : List Int), i + d = D.length → out.length ≤ i →
    Ev (fun k => asset_Missing.l0 k l day out D (D.length : Int) (i : Int)) (out ++ (D.drop i).filter (badA l day)) := by
  intro d
  induction d with
  | zero =>
    intro i out hi ho
    refine ev_now (fun k => ?_)
    rw [asset_Missing.l0.eq_2, if_neg (by omega), List.drop_of_length_le (by omega)]
    simp
  | succ d ih =>
    intro i out hi ho
    have hlt : i < D.length := by omega
    have hn := fun o ho => ih (i + 1) o (by omega) ho
    rw [drop_cons hlt, List.filter_cons]
    refine Ev.step (f := fun k => (asset_Find.f k l D[i]).bind fun t => (if t.2.2.2.2.2 = true then ((asset_Usable.f k t.1 t.2.1 t.2.2.1 t.2.2.2.1 t.2.2.2.2.1 day).bind fun t129 => (if t129 = 0 then (asset_Missing.l0 k l day out D (D.length : Int) ((i + 1 : Nat) : Int)) else (asset_Missing.l0 k l day (out ++ [D[i]]) D (D.length : Int) ((i + 1 : Nat) : Int)))) else (asset_Missing.l0 k l day (out ++ [D[i]]) D (D.length : Int) ((i + 1 : Nat) : Int)))) (fun k => ?_) ?_
    · rw [asset_Missing.l0.eq_2, if_pos (by omega), if_pos (by omega), if_pos (by omega), rdi_at hlt, wrap_next hlt (by omega)]
      simp only [if_pos (show out.length < 17592186044416 by omega)]
    · refine Ev.bind (find_ev l D[i] hl) ?_
      unfold badA
      generalize findA l D[i] = t
      have hy := hn (out ++ [D[i]]) (by simp; omega)
      rw [List.append_assoc, List.singleton_append] at hy
      unfold badT
      refine ev_if (fun c => ?_) (fun c => by rw [if_neg c]; exact hy)
      rw [if_pos c]
      refine Ev.bind (usable_ev ..) ?_
      refine ev_if (fun c1 => ?_) (fun c1 => ?_)
      · rw [decide_eq_false (fun h => h c1)]; exact hn out (by omega)
      · rw [decide_eq_true c1]; exact hy
theorem missing_ev (refs : List Int) (l : List As) (day : Int) (hl : l.length ≤ 4611686018427387904) (hr : refs.length ≤ 17592186044415) : Ev (fun k => asset_Missing.f k refs l day) ((risen refs).filter (badA l day)) := by
  unfold asset_Missing.f
  refine ev_bindc (distinct_ev refs (by omega)) ?_
  have := missing_loop l day (risen refs) hl (Nat.le_trans (risen_length refs) hr) (risen refs).length 0 [] (by omega) (by simp)
  simpa using this
theorem filter_rising {l : List Int} (p : Int → Bool) (h : Rising l) : Rising (l.filter p) := List.Pairwise.filter p h
theorem risen_filter (refs : List Int) (p : Int → Bool) : (risen refs).filter p = risen (refs.filter p) :=
  risen_unique (filter_rising _ (risen_rising refs)) (fun x => by simp only [List.mem_filter, risen_mem])

theorem take_mn {α : Type} (l : List α) : l.take (mn (l.length : Int) 1024).toNat = l.take 1024 := by
  unfold mn
  by_cases h : (1024 : Int) < (l.length : Int)
  · rw [if_pos h]; rfl
  · rw [if_neg h, Int.toNat_natCast, List.take_of_length_le (Nat.le_refl _), List.take_of_length_le (by omega)]
def bytesA (refs : List Int) (l : List As) : Int := sumA (l.take 1024) (risen (refs.take 1024))
theorem bytes_loop (l : List As) (D : List Int) (hl : l.length ≤ 4611686018427387904) (hD : D.length ≤ 1024) : ∀ (d i : Nat) (s : Int), i + d = D.length → 0 ≤ s → s ≤ 1048576 * (i : Int) →
    Ev (fun k => asset_Bytes.l0 k l s D (D.length : Int) (i : Int)) (s + sumA l (D.drop i)) := by
  intro d
  induction d with
  | zero =>
    intro i s hi h0 h1
    refine ev_now (fun k => ?_)
    rw [asset_Bytes.l0.eq_2, if_neg (by omega), List.drop_of_length_le (by omega)]
    simp [sumA]
  | succ d ih =>
    intro i s hi h0 h1
    have hlt : i < D.length := by omega
    have hn := fun o a b => ih (i + 1) o (by omega) a b
    rw [drop_cons hlt]
    simp only [sumA]
    refine Ev.step (f := fun k => (asset_Find.f k l D[i]).bind fun t => (if t.2.2.2.2.2 = true then ((asset_Valid.f k t.1 t.2.1 t.2.2.1 t.2.2.2.1 t.2.2.2.2.1).bind fun t152 => (if t152 = 0 then (asset_Bytes.l0 k l (wrap64 (s + t.2.1)) D (D.length : Int) ((i + 1 : Nat) : Int)) else (asset_Bytes.l0 k l s D (D.length : Int) ((i + 1 : Nat) : Int)))) else (asset_Bytes.l0 k l s D (D.length : Int) ((i + 1 : Nat) : Int)))) (fun k => ?_) ?_
    · rw [asset_Bytes.l0.eq_2, if_pos (by omega), if_pos (by omega), if_pos (by omega), rdi_at hlt, wrap_next hlt (by omega)]
    · refine Ev.bind (find_ev l D[i] hl) ?_
      unfold wA
      generalize findA l D[i] = t
      have hz := hn s h0 (by omega)
      unfold wT
      refine ev_if (fun c => ?_) (fun c => by rw [if_neg c, Int.zero_add]; exact hz)
      rw [if_pos c]
      refine Ev.bind (valid_ev ..) ?_
      refine ev_if (fun c1 => ?_) (fun c1 => by rw [if_neg c1, Int.zero_add]; exact hz)
      have hv := validA_ok c1
      rw [if_pos c1, wrap_id (by omega) (by omega), ← Int.add_assoc]
      exact hn (s + t.2.1) (by omega) (by omega)
theorem bytes_ev (refs : List Int) (l : List As) : Ev (fun k => asset_Bytes.f k refs l) (bytesA refs l) := by
  unfold asset_Bytes.f
  have m0 : ∀ n : Nat, 0 ≤ mn (n : Int) 1024 ∧ mn (n : Int) 1024 ≤ (n : Int) := fun n => by unfold mn; split <;> omega
  rw [take_mn, take_mn]
  refine ev_if (fun _ => ?_) (fun c => absurd (m0 _).1 c)
  refine ev_if (fun _ => ?_) (fun c => absurd (m0 _).2 c)
  refine ev_if (fun _ => ?_) (fun c => absurd (m0 _).1 c)
  refine ev_if (fun _ => ?_) (fun c => absurd (m0 _).2 c)
  have h1 : (refs.take 1024).length ≤ 1024 := by simp; omega
  have h2 : (l.take 1024).length ≤ 1024 := by simp; omega
  have h3 := Nat.le_trans (risen_length (refs.take 1024)) h1
  refine ev_bindc (distinct_ev _ (by omega)) ?_
  have := bytes_loop (l.take 1024) (risen (refs.take 1024)) (by omega) h3 (risen (refs.take 1024)).length 0 0 (by omega) (by omega) (by omega)
  simpa [bytesA] using this

theorem equal_loop (l m : List Int) (he : l.length = m.length) (hl : l.length ≤ 4611686018427387904) : ∀ (d i : Nat), i + d = l.length → Ev (fun k => examboardlaw17_equal.l0 k l m (l.length : Int) (i : Int)) (decide (l.drop i = m.drop i)) := by
  intro d
  induction d with
  | zero =>
    intro i hi
    refine ev_now (fun k => ?_)
    rw [examboardlaw17_equal.l0.eq_2, if_neg (by omega), List.drop_of_length_le (by omega), List.drop_of_length_le (by omega)]
    simp
  | succ d ih =>
    intro i hi
    have hlt : i < l.length := by omega
    have hlm : i < m.length := by omega
    refine Ev.step (f := fun k => if l[i] = m[i] then examboardlaw17_equal.l0 k l m (l.length : Int) ((i + 1 : Nat) : Int) else some false) (fun k => ?_) ?_
    · rw [examboardlaw17_equal.l0.eq_2, if_pos (by omega), if_pos (by omega), if_pos (by omega), if_pos (by omega), rdi_at hlt, rdi_at hlm, wrap_next hlt hl]
    · rw [drop_cons hlt, drop_cons hlm]
      refine ev_if (fun c => ?_) (fun c => ?_)
      · have := ih (i + 1) (by omega)
        rw [c, show decide (m[i] :: l.drop (i + 1) = m[i] :: m.drop (i + 1)) = decide (l.drop (i + 1) = m.drop (i + 1)) from decide_eq_decide.2 (by rw [List.cons.injEq]; simp only [true_and])]
        exact this
      · rw [show decide (l[i] :: l.drop (i + 1) = m[i] :: m.drop (i + 1)) = false from decide_eq_false (by rw [List.cons.injEq]; exact fun h => c h.1)]
        exact Ev.now _
theorem equal_ev (l m : List Int) (hl : l.length ≤ 4611686018427387904) : Ev (fun k => examboardlaw17_equal.f k l m) (decide (l = m)) := by
  unfold examboardlaw17_equal.f
  refine ev_if (fun c => ?_) (fun c => ?_)
  · have := equal_loop l m (by omega) hl l.length 0 (by omega)
    simpa using this
  · rw [show decide (l = m) = false from by rw [decide_eq_false_iff_not]; intro h; exact c (by rw [h])]
    exact Ev.now _

theorem has_loop (n : Int) (l : List Int) (hl : l.length ≤ 4611686018427387904) : ∀ (d i : Nat), i + d = l.length → Ev (fun k => examboardlaw17_has.l0 k n l (l.length : Int) (i : Int)) (decide (n ∈ l.drop i)) := by
  intro d
  induction d with
  | zero =>
    intro i hi
    refine ev_now (fun k => ?_)
    rw [examboardlaw17_has.l0.eq_2, if_neg (by omega), List.drop_of_length_le (by omega)]
    simp
  | succ d ih =>
    intro i hi
    have hlt : i < l.length := by omega
    refine Ev.step (f := fun k => if l[i] = n then some true else examboardlaw17_has.l0 k n l (l.length : Int) ((i + 1 : Nat) : Int)) (fun k => ?_) ?_
    · rw [examboardlaw17_has.l0.eq_2, if_pos (by omega), if_pos (by omega), if_pos (by omega), rdi_at hlt, wrap_next hlt hl]
    · rw [drop_cons hlt]
      refine ev_if (fun c => ?_) (fun c => ?_)
      · rw [decide_eq_true (by rw [c]; exact List.mem_cons_self)]; exact Ev.now _
      · have := ih (i + 1) (by omega)
        rw [show decide (n ∈ l[i] :: l.drop (i + 1)) = decide (n ∈ l.drop (i + 1)) from decide_eq_decide.2 ⟨fun h => (List.mem_cons.1 h).resolve_left (fun h => c h.symm), List.mem_cons_of_mem _⟩]
        exact this
theorem has_ev (l : List Int) (n : Int) (hl : l.length ≤ 4611686018427387904) : Ev (fun k => examboardlaw17_has.f k l n) (decide (n ∈ l)) := by
  unfold examboardlaw17_has.f
  have := has_loop n l hl l.length 0 (by omega)
  simpa using this

theorem few_ev (l : List Int) : examboardlaw17_few.f l = some (l.take 40) := by
  unfold examboardlaw17_few.f
  by_cases h : (l.length : Int) > 40
  · rw [if_pos h, if_pos (by omega)]
  · rw [if_neg h, List.take_of_length_le (by omega)]

theorem join_ev (l m : List Int) (h : l.length + m.length < 17592186044416) : examboardlaw17_join.f l m = some (l ++ m) := by
  unfold examboardlaw17_join.f
  simp only [Option.bind_some, List.nil_append, List.length_nil]
  rw [if_pos (show 0 + l.length < 17592186044416 by omega), if_pos h]

theorem awake_ev : Ev (fun k => examboardlaw17_awake.f k) true := by
  unfold examboardlaw17_awake.f
  have sm : examboardlaw17_sample.f = some (3, 500, (⟨#[65, 32, 109, 97, 112]⟩ : ByteArray), 10, 20) := rfl
  refine ev_bindc sm ?_
  refine ev_bindc rfl ?_
  refine ev_bindc sm ?_
  refine Ev.bind (find_ev _ _ (by simp)) ?_
  refine ev_if (fun _ => ?_) (fun c => absurd rfl c)
  refine ev_bindc sm ?_
  refine ev_if (fun _ => ?_) (fun c => absurd (by simp [findA]) c)
  refine Ev.bind (valid_ev ..) ?_
  refine ev_if (fun _ => ?_) (fun c => absurd (by decide) c)
  refine Ev.bind (valid_ev ..) ?_
  refine ev_if (fun _ => ?_) (fun c => absurd (by decide) c)
  refine Ev.bind (usable_ev ..) ?_
  refine ev_if (fun _ => ?_) (fun c => absurd (by decide) c)
  refine Ev.bind (usable_ev ..) ?_
  refine ev_if (fun _ => ?_) (fun c => absurd (by decide) c)
  refine Ev.bind (missing_ev _ _ _ (by simp) (by simp)) ?_
  rw [show risen [5, 3, 5] = [3, 5] from (risen_unique (by unfold Rising; decide) (fun x => by simp; omega)).symm]
  refine Ev.bind (equal_ev _ _ (by have := List.length_filter_le (badA [(⟨3, 500, (⟨#[65, 32, 109, 97, 112]⟩ : ByteArray), 10, 20⟩ : As)] 21) [3, 5]; simp at this ⊢; omega)) ?_
  refine ev_if (fun _ => ?_) (fun c => absurd (by decide) c)
  refine Ev.bind (bytes_ev ..) ?_
  refine ev_const ?_
  unfold bytesA
  rw [show List.take 1024 [(3 : Int), 5, 3] = [3, 5, 3] from rfl, show risen [3, 5, 3] = [3, 5] from (risen_unique (by unfold Rising; decide) (fun x => by simp; omega)).symm]
  decide

def miss (l : List As) (day : Int) (X : List Int) : List Int := (risen X).filter (badA l day)
theorem miss_mem {l : List As} {day : Int} {X : List Int} {x : Int} : x ∈ miss l day X ↔ x ∈ X ∧ badA l day x = true := by
  unfold miss
  rw [List.mem_filter, risen_mem]
theorem miss_len (l : List As) (day : Int) (X : List Int) : (miss l day X).length ≤ X.length := Nat.le_trans (List.length_filter_le _ _) (risen_length X)
theorem m_l3 (both D : List Int) (hb : both.length ≤ 1000) (hD : D.length ≤ 1000) (h : ∀ x ∈ D, x ∈ both) : ∀ (d i : Nat), i + d = D.length → Ev (fun k => examboardlaw17_AssetMissing.l3 k both D (D.length : Int) (i : Int)) true := by
  intro d
  induction d with
  | zero =>
    intro i hi
    refine Ev.step (fun k => by rw [examboardlaw17_AssetMissing.l3.eq_2, if_neg (by omega)]) ?_
    exact Ev.bind awake_ev (Ev.now _)
  | succ d ih =>
    intro i hi
    have hlt : i < D.length := by omega
    refine Ev.step (f := fun k => (examboardlaw17_has.f k both D[i]).bind fun t376 => (if t376 = true then (examboardlaw17_AssetMissing.l3 k both D (D.length : Int) ((i + 1 : Nat) : Int)) else (none))) (fun k => ?_) ?_
    · rw [examboardlaw17_AssetMissing.l3.eq_2, if_pos (by omega), if_pos (by omega), if_pos (by omega), rdi_at hlt, wrap_next hlt (by omega)]
    · refine Ev.bind (has_ev _ _ (by omega)) ?_
      refine ev_if (fun _ => ih (i + 1) (by omega)) (fun c => absurd (decide_eq_true (h _ (List.getElem_mem hlt))) c)
theorem m_l2 (m n both : List Int) (hm : m.length ≤ 100) (hnl : n.length ≤ 100) (hb : both.length ≤ 200) (h : ∀ x ∈ both, x ∈ m ∨ x ∈ n) (h2 : ∀ x, x ∈ m ∨ x ∈ n → x ∈ both) : ∀ (d i : Nat), i + d = both.length → Ev (fun k => examboardlaw17_AssetMissing.l2 k m n both (both.length : Int) (i : Int)) true := by
  intro d
  induction d with
  | zero =>
    intro i hi
    refine Ev.step (fun k => by rw [examboardlaw17_AssetMissing.l2.eq_2, if_neg (by omega)]) ?_
    refine ev_bindc (join_ev m n (by omega)) ?_
    exact m_l3 both (m ++ n) (by omega) (by simp; omega) (fun x hx => h2 x (List.mem_append.1 hx)) (m ++ n).length 0 (Nat.zero_add _)
  | succ d ih =>
    intro i hi
    have hlt : i < both.length := by omega
    have hn := ih (i + 1) (by omega)
    refine Ev.step (f := fun k => (examboardlaw17_has.f k m both[i]).bind fun t370 => (if t370 = true then (examboardlaw17_AssetMissing.l2 k m n both (both.length : Int) ((i + 1 : Nat) : Int)) else ((examboardlaw17_has.f k n both[i]).bind fun t371 => (if t371 = true then (examboardlaw17_AssetMissing.l2 k m n both (both.length : Int) ((i + 1 : Nat) : Int)) else (none))))) (fun k => ?_) ?_
    · rw [examboardlaw17_AssetMissing.l2.eq_2, if_pos (by omega), if_pos (by omega), if_pos (by omega), rdi_at hlt, wrap_next hlt (by omega)]
    · refine Ev.bind (has_ev _ _ (by omega)) ?_
      refine ev_if (fun _ => hn) (fun c => ?_)
      refine Ev.bind (has_ev _ _ (by omega)) ?_
      refine ev_if (fun _ => hn) (fun c2 => ?_)
      rcases h _ (List.getElem_mem hlt) with h | h
      · exact absurd (decide_eq_true h) c
      · exact absurd (decide_eq_true h) c2
theorem m_l1 (l : List As) (day : Int) (X Y : List Int) (hl : l.length ≤ 4611686018427387904) (hX : X.length ≤ 40) (hY : Y.length ≤ 40) : ∀ (d i : Nat), i + d = X.length → Ev (fun k => examboardlaw17_AssetMissing.l1 k l day X Y (miss l day X) (X.length : Int) (i : Int)) true := by
  intro d
  have lm := miss_len l day X
  have ln := miss_len l day Y
  have lb := miss_len l day (X ++ Y)
  rw [List.length_append] at lb
  induction d with
  | zero =>
    intro i hi
    refine Ev.step (fun k => by rw [examboardlaw17_AssetMissing.l1.eq_2, if_neg (by omega)]) ?_
    refine Ev.bind (missing_ev Y l day hl (by omega)) ?_
    refine ev_bindc (join_ev X Y (by omega)) ?_
    refine Ev.bind (missing_ev (X ++ Y) l day hl (by simp; omega)) ?_
    refine m_l2 (miss l day X) (miss l day Y) (miss l day (X ++ Y)) (by omega) (by omega) (by omega) (fun x hx => ?_) (fun x hx => ?_) (miss l day (X ++ Y)).length 0 (Nat.zero_add _)
    · obtain ⟨h1, h2⟩ := miss_mem.1 hx
      rcases List.mem_append.1 h1 with h | h
      · exact .inl (miss_mem.2 ⟨h, h2⟩)
      · exact .inr (miss_mem.2 ⟨h, h2⟩)
    · rcases hx with hx | hx
      · obtain ⟨h1, h2⟩ := miss_mem.1 hx
        exact miss_mem.2 ⟨List.mem_append.2 (.inl h1), h2⟩
      · obtain ⟨h1, h2⟩ := miss_mem.1 hx
        exact miss_mem.2 ⟨List.mem_append.2 (.inr h1), h2⟩
  | succ d ih =>
    intro i hi
    have hlt : i < X.length := by omega
    have hn := ih (i + 1) (by omega)
    refine Ev.step (f := fun k => (asset_Find.f k l X[i]).bind fun bt351 => ((examboardlaw17_has.f k (miss l day X) X[i]).bind fun t358 => (if bt351.2.2.2.2.2 = true then ((asset_Usable.f k bt351.1 bt351.2.1 bt351.2.2.1 bt351.2.2.2.1 bt351.2.2.2.2.1 day).bind fun t359 => (if (t358 != (t359 != 0)) = true then (none) else (if bt351.1 = X[i] then (examboardlaw17_AssetMissing.l1 k l day X Y (miss l day X) (X.length : Int) ((i + 1 : Nat) : Int)) else (none)))) else (if (t358 != true) = true then (none) else (examboardlaw17_AssetMissing.l1 k l day X Y (miss l day X) (X.length : Int) ((i + 1 : Nat) : Int)))))) (fun k => ?_) ?_
    · rw [examboardlaw17_AssetMissing.l1.eq_2, if_pos (by omega), if_pos (by omega), if_pos (by omega), rdi_at hlt, wrap_next hlt (by omega)]
    · refine Ev.bind (find_ev _ _ hl) ?_
      refine Ev.bind (has_ev _ _ (by omega)) ?_
      have hb : decide (X[i] ∈ miss l day X) = badT (findA l X[i]) day := by
        rw [show badT (findA l X[i]) day = badA l day X[i] from rfl]
        cases hv : badA l day X[i] with
        | true => exact decide_eq_true (miss_mem.2 ⟨List.getElem_mem hlt, hv⟩)
        | false => exact decide_eq_false (fun h => by have := (miss_mem.1 h).2; rw [hv] at this; cases this)
      have hid := findA_id l X[i]
      rw [hb]
      generalize findA l X[i] = t at *
      refine ev_if (fun c => ?_) (fun c => ?_)
      · refine Ev.bind (usable_ev ..) ?_
        refine ev_if (fun c1 => ?_) (fun _ => ?_)
        · exfalso
          unfold badT at c1
          rw [if_pos c] at c1
          by_cases hu : usableA t.1 t.2.1 t.2.2.1 t.2.2.2.1 t.2.2.2.2.1 day = 0 <;> simp [hu] at c1
        · exact ev_if (fun _ => hn) (fun c2 => absurd (hid c) c2)
      · refine ev_if (fun c1 => ?_) (fun _ => hn)
        exfalso
        unfold badT at c1
        rw [if_neg c] at c1
        simp at c1
theorem m_l0 (l : List As) (day : Int) (X Y : List Int) (hl : l.length ≤ 4611686018427387904) (hX : X.length ≤ 40) (hY : Y.length ≤ 40) : ∀ (d i : Nat), i + d = (miss l day X).length → Ev (fun k => examboardlaw17_AssetMissing.l0 k l day X Y (miss l day X) ((miss l day X).length : Int) (i : Int)) true := by
  intro d
  have lm := miss_len l day X
  have hr : Rising (miss l day X) := filter_rising _ (risen_rising X)
  have hmem : ∀ x ∈ miss l day X, x ∈ X := fun x hx => (miss_mem.1 hx).1
  have hend := m_l1 l day X Y hl hX hY X.length 0 (Nat.zero_add _)
  generalize miss l day X = m at *
  induction d with
  | zero =>
    intro i hi
    refine Ev.step (fun k => by rw [examboardlaw17_AssetMissing.l0.eq_2, if_neg (by omega)]) ?_
    exact hend
  | succ d ih =>
    intro i hi
    have hlt : i < m.length := by omega
    have hn := ih (i + 1) (by omega)
    refine Ev.step (f := fun k => (examboardlaw17_has.f k X m[i]).bind fun t348 => (if t348 = true then (examboardlaw17_AssetMissing.l0 k l day X Y m (m.length : Int) ((i + 1 : Nat) : Int)) else (none))) (fun k => ?_) ?_
    · rw [examboardlaw17_AssetMissing.l0.eq_2, if_pos (by omega), if_pos (by omega), if_pos (by omega), rdi_at hlt, wrap_next hlt (by omega)]
      congr 1
      funext t
      by_cases c : t = true
      · rw [if_pos c, if_pos c]
        by_cases c0 : (i : Int) > 0
        · have hw : wrap64 ((i : Int) - 1) = ((i - 1 : Nat) : Int) := by rw [wrap_id (by omega) (by omega)]; omega
          have hlt2 : i - 1 < m.length := by omega
          have hlt3 := List.pairwise_iff_getElem.1 hr (i - 1) i hlt2 hlt (by omega)
          rw [if_pos c0, hw, if_pos (by omega), if_pos (by omega), rdi_at hlt2, if_neg (by omega)]
        · rw [if_neg c0]
      · rw [if_neg c, if_neg c]
    · refine Ev.bind (has_ev _ _ (by omega)) ?_
      exact ev_if (fun _ => hn) (fun c => absurd (decide_eq_true (hmem _ (List.getElem_mem hlt))) c)
theorem AssetMissing : ∀ (l0 : List Int) (l1 : List Int) (l2 : List (S39)) (a3 : Int), l0.length ≤ maxLen → l0.length * 8 ≤ 140737488351232 → (∀ x_ ∈ l0, (Lit.int .i64 x_).wf = true) → l1.length ≤ maxLen → l1.length * 8 ≤ 140737488351232 → (∀ x_ ∈ l1, (Lit.int .i64 x_).wf = true) → l2.length ≤ maxLen → l2.length * 48 ≤ 140737488351232 → (∀ x_ ∈ l2, ((Lit.int .i64 x_.f0).wf = true ∧ (Lit.int .i64 x_.f1).wf = true ∧ x_.f2.size ≤ 140737488351232 ∧ (Lit.int .i64 x_.f3).wf = true ∧ (Lit.int .i64 x_.f4).wf = true)) → (Lit.int .i64 a3).wf = true → ∃ k, examboardlaw17_AssetMissing.f k l0 l1 l2 a3 = some true := by
  intro a b l day _ _ _ _ _ _ _ _ _ _
  refine Ev.rounds ?_
  have hl : l.length ≤ 4611686018427387904 := by omega
  have h1 : (a.take 40).length ≤ 40 := by simp; omega
  have h2 : (b.take 40).length ≤ 40 := by simp; omega
  unfold examboardlaw17_AssetMissing.f
  refine ev_bindc (few_ev a) ?_
  refine ev_bindc (few_ev b) ?_
  refine Ev.bind (missing_ev _ l day hl (by omega)) ?_
  exact m_l0 l day (a.take 40) (b.take 40) hl h1 h2 _ 0 (Nat.zero_add _)
end Go.Proofs.Ytgeplglggcoaiaa.Pure
