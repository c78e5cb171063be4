/- The pure statement of the law MatrixUnion, where what is read is small: merging is symmetric and idempotent, and each matrix is a part of the merged one. -/
import Derived.Test.YtgeplglggcoaiabMatrixx1
import Derived.Test.YtgeplglggcoaiabMatrixx10
import Derived.Test.YtgeplglggcoaiabMatrixx11
import Derived.Test.YtgeplglggcoaiabMatrixx12
import Derived.Test.YtgeplglggcoaiabMatrixx13
import Derived.Test.YtgeplglggcoaiabMatrixx14
import Derived.Test.YtgeplglggcoaiabMatrixx15
import Derived.Test.YtgeplglggcoaiabMatrixx16
import Derived.Test.YtgeplglggcoaiabMatrixx17
import Derived.Test.YtgeplglggcoaiabMatrixx18
import Derived.Test.YtgeplglggcoaiabMatrixx19
import Derived.Test.YtgeplglggcoaiabMatrixx2
import Derived.Test.YtgeplglggcoaiabMatrixx20
import Derived.Test.YtgeplglggcoaiabMatrixx21
import Derived.Test.YtgeplglggcoaiabMatrixx22
import Derived.Test.YtgeplglggcoaiabMatrixx23
import Derived.Test.YtgeplglggcoaiabMatrixx24
import Derived.Test.YtgeplglggcoaiabMatrixx25
import Derived.Test.YtgeplglggcoaiabMatrixx26
import Derived.Test.YtgeplglggcoaiabMatrixx27
import Derived.Test.YtgeplglggcoaiabMatrixx28
import Derived.Test.YtgeplglggcoaiabMatrixx3
import Derived.Test.YtgeplglggcoaiabMatrixx34
import Derived.Test.YtgeplglggcoaiabMatrixx41
import Derived.Test.YtgeplglggcoaiabMatrixx42
import Derived.Test.YtgeplglggcoaiabMatrixx44
import Derived.Test.YtgeplglggcoaiabMatrixx7
import Derived.Test.YtgeplglggcoaiabMatrixx8
import Derived.Test.YtgeplglggcoaiabMatrixx9
import Derived.Lib.SlicesCompact
import Derived.Lib.RowBridge
namespace Go.Proofs.Ytgeplglggcoaiab.Pure
open Go.RowKit Go.Lib Go.Proofs.Ytgeplglggcoaiab.Matrix Go.Proofs.YtgeplglggcoaiabW.PrintWords Go.Proofs.YtgeplglggcoaiabW.PrintLast Go.Proofs.YtgeplglggcoaiabW.PrintMore

theorem wrap_id {n : Int} (h0 : -9223372036854775808 ≤ n) (h1 : n ≤ 9223372036854775807) : wrap64 n = n := by unfold wrap64; omega
theorem ev_now {α : Type} {g : Nat → Option α} {r : α} (h : ∀ k, g (k + 1) = some r) : Ev g r := Ev.step (f := fun _ => some r) h (Ev.now r)
theorem ev_const {α : Type} {o : Option α} {r : α} (h : o = some r) : Ev (fun _ => o) r := ⟨0, fun _ _ => h⟩
theorem ev_bindc {α β : Type} {o : Option α} {f : Nat → α → Option β} {a : α} {r : β} (h : o = some a) (k : Ev (fun n => f n a) r) : Ev (fun n => o.bind (f n)) r := by
  subst h
  exact k
theorem ev_if {α : Type} {c : Prop} [Decidable c] {f g : Nat → Option α} {r : α} (hy : c → Ev f r) (hn : ¬ c → Ev g r) : Ev (fun k => if c then f k else g k) r := by
  by_cases h : c
  · simp only [if_pos h]; exact hy h
  · simp only [if_neg h]; exact hn h

def Rising (l : List Int) : Prop := l.Pairwise (· < ·)
theorem rising_unique : ∀ {a b : List Int}, Rising a → Rising b → (∀ x, x ∈ a ↔ x ∈ b) → a = b
  | [], [], _, _, _ => rfl
  | [], y :: b, _, _, h => by have := (h y).2 (List.mem_cons_self); cases this
  | x :: a, [], _, _, h => by have := (h x).1 (List.mem_cons_self); cases this
  | x :: a, y :: b, ha, hb, h => by
    obtain ⟨ha1, ha2⟩ := List.pairwise_cons.1 ha
    obtain ⟨hb1, hb2⟩ := List.pairwise_cons.1 hb
    have hxy : x = y := by
      rcases List.mem_cons.1 ((h x).1 List.mem_cons_self) with h1 | h1
      · exact h1
      · rcases List.mem_cons.1 ((h y).2 List.mem_cons_self) with h2 | h2
        · exact h2.symm
        · have := ha1 y h2
          have := hb1 x h1
          omega
    subst hxy
    congr 1
    refine rising_unique ha2 hb2 (fun z => ⟨fun hz => ?_, fun hz => ?_⟩)
    · rcases List.mem_cons.1 ((h z).1 (List.mem_cons_of_mem _ hz)) with h1 | h1
      · have := ha1 z hz
        omega
      · exact h1
    · rcases List.mem_cons.1 ((h z).2 (List.mem_cons_of_mem _ hz)) with h1 | h1
      · have := hb1 z hz
        omega
      · exact h1

theorem sorted_at {l : List Int} (hs : l.Pairwise (· ≤ ·)) {i j : Nat} (hij : i ≤ j) (hj : j < l.length) : l[i]! ≤ l[j]! := by
  rw [getElem!_pos l i (by omega), getElem!_pos l j hj]
  rcases Nat.lt_or_ge i j with h | h
  · exact List.pairwise_iff_getElem.1 hs i j (by omega) hj h
  · have : i = j := by omega
    subst this
    exact Int.le_refl _
theorem toArray_get! (l : List Int) (i : Nat) : l.toArray[i]! = l[i]! := by simp
theorem compact_mem {l : List Int} (x : Int) : x ∈ compact l ↔ x ∈ l := by
  unfold compact compactUpTo
  simp only [List.mem_map, List.mem_filter, List.mem_range]
  constructor
  · rintro ⟨i, ⟨hi, _⟩, rfl⟩
    rw [toArray_get!, getElem!_pos l i hi]
    exact List.getElem_mem hi
  · intro hx
    have key : ∀ i, i < l.length → ∃ a, (a < l.length ∧ keeps l.toArray a = true) ∧ l.toArray[a]! = l[i]! := by
      intro i
      induction i with
      | zero => intro hi; exact ⟨0, ⟨hi, by simp [keeps]⟩, toArray_get! l 0⟩
      | succ i ih =>
        intro hi
        by_cases h : l[i + 1]! = l[i]!
        · obtain ⟨a, ha, hav⟩ := ih (by omega)
          exact ⟨a, ha, by rw [hav, h]⟩
        · refine ⟨i + 1, ⟨hi, ?_⟩, toArray_get! l _⟩
          simp only [keeps, toArray_get!, Nat.add_sub_cancel, decide_eq_true_eq]
          exact .inr h
    obtain ⟨i, hi, rfl⟩ := List.mem_iff_getElem.1 hx
    obtain ⟨a, ha, hav⟩ := key i hi
    exact ⟨a, ha, by rw [hav, getElem!_pos l i hi]⟩
theorem compact_rising {l : List Int} (hs : l.Pairwise (· ≤ ·)) : Rising (compact l) := by
  unfold compact compactUpTo Rising
  rw [List.pairwise_map, List.pairwise_filter]
  have h0 : (List.range l.length).Pairwise (fun a b => a < b ∧ b < l.length) := by
    rw [List.pairwise_iff_getElem]
    intro i j hi hj hij
    simp at hi hj ⊢
    exact ⟨hij, hj⟩
  refine h0.imp ?_
  rintro a b ⟨hab, hb⟩ _ hk
  simp only [toArray_get!]
  simp only [keeps, toArray_get!, decide_eq_true_eq] at hk
  have h1 := sorted_at hs (show a ≤ b - 1 by omega) (show b - 1 < l.length by omega)
  have h2 := sorted_at hs (show b - 1 ≤ b by omega) hb
  rcases hk with hk | hk
  · omega
  · omega
theorem compact_sublist_length (l : List Int) : (compact l).length ≤ l.length := compact_length_le l
def risen (l : List Int) : List Int := compact (l.mergeSort fun x y => decide (x ≤ y))
theorem risen_rising (l : List Int) : Rising (risen l) := by
  refine compact_rising ?_
  have := List.pairwise_mergeSort (le := fun x y : Int => decide (x ≤ y)) (fun a b c => by simp; omega) (fun a b => by simp; omega) l
  exact this.imp (fun h => by simpa using h)
theorem risen_mem (l : List Int) (x : Int) : x ∈ risen l ↔ x ∈ l := by
  unfold risen
  rw [compact_mem, List.mem_mergeSort]
theorem risen_length (l : List Int) : (risen l).length ≤ l.length := by
  unfold risen
  have := compact_length_le (l.mergeSort fun x y => decide (x ≤ y))
  rwa [List.length_mergeSort] at this
theorem risen_unique {l d : List Int} (hd : Rising d) (hm : ∀ x, x ∈ d ↔ x ∈ l) : d = risen l := rising_unique hd (risen_rising l) (fun x => (hm x).trans (risen_mem l x).symm)
theorem risen_of_rising {l : List Int} (h : Rising l) : risen l = l := (risen_unique h (fun _ => Iff.rfl)).symm

theorem rdi_at {l : List Int} {i : Nat} (h : i < l.length) : rd l (i : Int) = l[i] := by
  unfold rd
  simp [h]

abbrev Mat := List (List Int)
theorem rdl_at {l : Mat} {i : Nat} (h : i < l.length) : rd_L1 l (i : Int) = l[i] := by
  unfold rd_L1
  simp [h]
theorem drop_cons {α : Type} {l : List α} {i : Nat} (h : i < l.length) : l.drop i = l[i] :: l.drop (i + 1) := by simp
theorem wrap_next {i n : Nat} (h : i < n) (hn : n ≤ 4611686018427387904) : wrap64 ((i : Int) + 1) = ((i + 1 : Nat) : Int) := by rw [wrap_id (by omega) (by omega)]; rfl
theorem wrap_prev {i n : Nat} (h : i < n) (h0 : 0 < i) (hn : n ≤ 4611686018427387904) : wrap64 ((i : Int) - 1) = ((i - 1 : Nat) : Int) := by rw [wrap_id (by omega) (by omega)]; omega
def riseP : Int → List Int → Bool
  | _, [] => true
  | p, x :: t => if x < 1 then false else if x ≤ p then false else riseP x t
def prevOf (l : List Int) (i : Nat) : Int := if i = 0 then 0 else l.getD (i - 1) 0
theorem prev_zero (l : List Int) : prevOf l 0 = 0 := rfl
theorem prev_next {l : List Int} {i : Nat} (h : i < l.length) : prevOf l (i + 1) = l[i] := by unfold prevOf; simp [h]
theorem prev_pos {l : List Int} {i : Nat} (h : i < l.length) (h0 : 0 < i) : prevOf l i = l[i - 1] := by
  unfold prevOf
  rw [if_neg (by omega), List.getD_eq_getElem?_getD, List.getElem?_eq_getElem (by omega)]; rfl
def shapeB (P I : List Int) (C : Mat) : Bool := decide (C.length = P.length) && C.all (fun r => decide (r.length = I.length))
theorem shape_iff {P I : List Int} {C : Mat} : shapeB P I C = true ↔ C.length = P.length ∧ ∀ r ∈ C, r.length = I.length := by simp [shapeB, List.all_eq_true]
def cellsOk : List Int → List Int → Bool
  | x :: t, c :: cs => if x < -2 then false else if x ≥ c then false else cellsOk t cs
  | _, _ => true
def catsOk (cats : List Int) : Bool := cats.all (fun c => decide (2 ≤ c) && decide (c ≤ 6))
def validM (P I : List Int) (C : Mat) (cats : List Int) : Int :=
  if 200 < P.length ∨ 60 < I.length ∨ 60 < cats.length then 5 else if (riseP 0 P && riseP 0 I) = false then 23
  else if shapeB P I C = false ∨ cats.length ≠ I.length then 1 else if catsOk cats = false then 1 else if C.all (fun r => cellsOk r cats) = false then 3 else 0

theorem rise_loop (l : List Int) (hl : l.length ≤ 4611686018427387904) : ∀ (d i : Nat), i + d = l.length → Ev (fun k => matrix_rising_int.l0 k l 1 l (l.length : Int) (i : Int)) (riseP (prevOf l i) (l.drop i)) := by
  intro d
  induction d with
  | zero =>
    intro i hi
    refine ev_now (fun k => ?_)
    rw [matrix_rising_int.l0.eq_2, if_neg (by omega), List.drop_of_length_le (by omega)]; rfl
  | succ d ih =>
    intro i hi
    have hlt : i < l.length := by omega
    have hn := ih (i + 1) (by omega)
    rw [prev_next hlt] at hn
    rw [drop_cons hlt]
    simp only [riseP]
    refine Ev.step (f := fun k => if l[i] < 1 then some false else if l[i] ≤ prevOf l i then some false else matrix_rising_int.l0 k l 1 l (l.length : Int) ((i + 1 : Nat) : Int)) (fun k => ?_) ?_
    · rw [matrix_rising_int.l0.eq_2, if_pos (by omega), if_pos (by omega), if_pos (by omega), rdi_at hlt, wrap_next hlt hl]
      by_cases c : l[i] < 1
      · rw [if_pos c, if_pos c]
      rw [if_neg c, if_neg c]
      by_cases h0 : 0 < i
      · rw [if_pos (by omega), wrap_prev hlt h0 hl, if_pos (by omega), if_pos (by omega), rdi_at (show i - 1 < l.length by omega), prev_pos hlt h0]
      · have : i = 0 := by omega
        subst this
        rw [if_neg (by omega), prev_zero, if_neg (by omega)]
    · refine ev_if (fun c => by rw [if_pos c]; exact Ev.now _) (fun c => ?_)
      rw [if_neg c]
      refine ev_if (fun c1 => by rw [if_pos c1]; exact Ev.now _) (fun c1 => ?_)
      rw [if_neg c1]
      exact hn
theorem rise_ev (l : List Int) (hl : l.length ≤ 4611686018427387904) : Ev (fun k => matrix_rising_int.f k l 1) (riseP 0 l) := by
  unfold matrix_rising_int.f
  have := rise_loop l hl l.length 0 (by omega)
  rw [prev_zero] at this
  simpa using this

theorem shape_loop (P I : List Int) (C : Mat) (hC : C.length ≤ 4611686018427387904) : ∀ (d i : Nat), i + d = C.length → Ev (fun k => matrix_shape.l0 k C (C.length : Int) (i : Int) P I C) ((C.drop i).all (fun r => decide (r.length = I.length))) := by
  intro d
  induction d with
  | zero =>
    intro i hi
    refine ev_now (fun k => ?_)
    rw [matrix_shape.l0.eq_2, if_neg (by omega), List.drop_of_length_le (by omega)]; rfl
  | succ d ih =>
    intro i hi
    have hlt : i < C.length := by omega
    rw [drop_cons hlt, List.all_cons]
    refine Ev.step (f := fun k => if (C[i].length : Int) = (I.length : Int) then matrix_shape.l0 k C (C.length : Int) ((i + 1 : Nat) : Int) P I C else some false) (fun k => ?_) ?_
    · rw [matrix_shape.l0.eq_2, if_pos (by omega), if_pos (by omega), if_pos (by omega), rdl_at hlt, wrap_next hlt hC]
    · refine ev_if (fun c => ?_) (fun c => ?_)
      · rw [decide_eq_true (by omega), Bool.true_and]; exact ih (i + 1) (by omega)
      · rw [decide_eq_false (by omega), Bool.false_and]; exact Ev.now _
theorem shape_ev (P I : List Int) (C : Mat) (hC : C.length ≤ 4611686018427387904) : Ev (fun k => matrix_shape.f k P I C) (shapeB P I C) := by
  unfold matrix_shape.f shapeB
  refine ev_if (fun c => ?_) (fun c => ?_)
  · rw [decide_eq_true (by omega), Bool.true_and]
    have := shape_loop P I C hC C.length 0 (by omega)
    simpa using this
  · rw [decide_eq_false (by omega), Bool.false_and]; exact Ev.now _

theorem row_loop (cats : List Int) (C : Mat) (r : Int) (row : List Int) (i63 : Int) (hr : row.length = cats.length) (hl : row.length ≤ 4611686018427387904) : ∀ (d i : Nat), i + d = row.length →
    (cellsOk (row.drop i) (cats.drop i) = true → Ev (fun k => matrix_Valid.l1 k cats C (C.length : Int) (wrap64 (i63 + 1))) r) → (cellsOk (row.drop i) (cats.drop i) = false → r = 3) →
    Ev (fun k => matrix_Valid.l2 k cats C (C.length : Int) i63 row (row.length : Int) (i : Int)) r := by
  intro d
  induction d with
  | zero =>
    intro i hi hy hn
    rw [List.drop_of_length_le (by omega), List.drop_of_length_le (by omega)] at hy
    refine Ev.step (fun k => ?_) (hy rfl)
    rw [matrix_Valid.l2.eq_2, if_neg (by omega)]
  | succ d ih =>
    intro i hi hy hn
    have hlt : i < row.length := by omega
    have hlc : i < cats.length := by omega
    rw [drop_cons hlt, drop_cons hlc] at hy hn
    simp only [cellsOk] at hy hn
    refine Ev.step (f := fun k => if row[i] < -2 then some 3 else if row[i] ≥ cats[i] then some 3 else matrix_Valid.l2 k cats C (C.length : Int) i63 row (row.length : Int) ((i + 1 : Nat) : Int)) (fun k => ?_) ?_
    · rw [matrix_Valid.l2.eq_2, if_pos (by omega), if_pos (by omega), if_pos (by omega), rdi_at hlt, if_pos (show (i : Int) < (cats.length : Int) by omega), rdi_at hlc, wrap_next hlt hl]
    · refine ev_if (fun c => ?_) (fun c => ?_)
      · rw [hn (by rw [if_pos c])]; exact Ev.now _
      rw [if_neg c] at hy hn
      refine ev_if (fun c1 => ?_) (fun c1 => ?_)
      · rw [hn (by rw [if_pos c1])]; exact Ev.now _
      rw [if_neg c1] at hy hn
      exact ih (i + 1) (by omega) hy hn
theorem rows_loop (cats : List Int) (C : Mat) (hC : C.length ≤ 4611686018427387904) (hr : ∀ r ∈ C, r.length = cats.length) (hl : cats.length ≤ 4611686018427387904) : ∀ (d i : Nat), i + d = C.length →
    Ev (fun k => matrix_Valid.l1 k cats C (C.length : Int) (i : Int)) (if (C.drop i).all (fun r => cellsOk r cats) = false then 3 else 0) := by
  intro d
  induction d with
  | zero =>
    intro i hi
    refine ev_now (fun k => ?_)
    rw [matrix_Valid.l1.eq_2, if_neg (by omega), List.drop_of_length_le (by omega)]; rfl
  | succ d ih =>
    intro i hi
    have hlt : i < C.length := by omega
    have hn := ih (i + 1) (by omega)
    have hrow := hr C[i] (List.getElem_mem hlt)
    refine Ev.step (f := fun k => matrix_Valid.l2 k cats C (C.length : Int) (i : Int) C[i] (C[i].length : Int) ((0 : Nat) : Int)) (fun k => ?_) ?_
    · rw [matrix_Valid.l1.eq_2, if_pos (by omega), if_pos (by omega), if_pos (by omega), rdl_at hlt]; rfl
    · refine row_loop cats C _ C[i] (i : Int) hrow (by omega) C[i].length 0 (by omega) (fun h => ?_) (fun h => ?_)
      · rw [List.drop_zero, List.drop_zero] at h
        have e : (C.drop i).all (fun r => cellsOk r cats) = (C.drop (i + 1)).all (fun r => cellsOk r cats) := by rw [drop_cons hlt, List.all_cons, h, Bool.true_and]
        rw [wrap_next hlt hC, e]
        exact hn
      · rw [List.drop_zero, List.drop_zero] at h
        rw [if_pos (by rw [drop_cons hlt, List.all_cons, h, Bool.false_and])]
theorem cats_loop (cats : List Int) (P I : List Int) (C : Mat) (r : Int) (hl : cats.length ≤ 4611686018427387904) : ∀ (d i : Nat), i + d = cats.length →
    (catsOk (cats.drop i) = true → Ev (fun k => matrix_Valid.l1 k cats C (C.length : Int) 0) r) → (catsOk (cats.drop i) = false → r = 1) →
    Ev (fun k => matrix_Valid.l0 k cats cats (cats.length : Int) (i : Int) P I C) r := by
  intro d
  induction d with
  | zero =>
    intro i hi hy hn
    rw [List.drop_of_length_le (by omega)] at hy
    refine Ev.step (fun k => ?_) (hy rfl)
    rw [matrix_Valid.l0.eq_2, if_neg (by omega)]
  | succ d ih =>
    intro i hi hy hn
    have hlt : i < cats.length := by omega
    have e : catsOk (cats.drop i) = ((decide (2 ≤ cats[i]) && decide (cats[i] ≤ 6)) && catsOk (cats.drop (i + 1))) := by unfold catsOk; rw [drop_cons hlt, List.all_cons]
    rw [e] at hy hn
    refine Ev.step (f := fun k => if cats[i] < 2 then some 1 else if cats[i] > 6 then some 1 else matrix_Valid.l0 k cats cats (cats.length : Int) ((i + 1 : Nat) : Int) P I C) (fun k => ?_) ?_
    · rw [matrix_Valid.l0.eq_2, if_pos (by omega), if_pos (by omega), if_pos (by omega), rdi_at hlt, wrap_next hlt hl]
    · refine ev_if (fun c => ?_) (fun c => ?_)
      · rw [hn (by rw [decide_eq_false (show ¬ 2 ≤ cats[i] by omega)]; rfl)]; exact Ev.now _
      refine ev_if (fun c1 => ?_) (fun c1 => ?_)
      · rw [hn (by rw [decide_eq_false (show ¬ cats[i] ≤ 6 by omega), Bool.and_false]; rfl)]; exact Ev.now _
      have e2 : (decide (2 ≤ cats[i]) && decide (cats[i] ≤ 6)) = true := by rw [decide_eq_true (by omega), decide_eq_true (by omega)]; rfl
      rw [e2, Bool.true_and] at hy hn
      exact ih (i + 1) (by omega) hy hn
theorem valid_ev (P I : List Int) (C : Mat) (cats : List Int) (hP : P.length ≤ 4611686018427387904) (hI : I.length ≤ 4611686018427387904) (hC : C.length ≤ 4611686018427387904) : Ev (fun k => matrix_Valid.f k P I C cats) (validM P I C cats) := by
  have j0t : Ev (fun k => matrix_Valid.j0 k cats true P I C) 5 := ev_now (fun k => by rw [matrix_Valid.j0.eq_2, if_pos rfl])
  have j1t : Ev (fun k => matrix_Valid.j1 k cats true P I C) 23 := ev_now (fun k => by rw [matrix_Valid.j1.eq_2, if_pos rfl])
  have j2t : Ev (fun k => matrix_Valid.j2 k cats true P I C) 1 := ev_now (fun k => by rw [matrix_Valid.j2.eq_2, if_pos rfl])
  unfold matrix_Valid.f validM
  refine ev_if (fun c => by rw [if_pos (by omega)]; exact j0t) (fun c0 => ?_)
  refine ev_if (fun c => by rw [if_pos (by omega)]; exact j0t) (fun c1 => ?_)
  by_cases c2 : (cats.length : Int) > 60
  · rw [if_pos (show 200 < P.length ∨ 60 < I.length ∨ 60 < cats.length by omega), decide_eq_true c2]; exact j0t
  rw [if_neg (show ¬ (200 < P.length ∨ 60 < I.length ∨ 60 < cats.length) by omega), decide_eq_false c2]
  refine Ev.step (f := fun k => (matrix_rising_int.f k P 1).bind fun t106 => (if t106 = true then ((matrix_rising_int.f k I 1).bind fun t107 => (matrix_Valid.j1 k cats (!t107) P I C)) else (matrix_Valid.j1 k cats true P I C))) (fun k => by rw [matrix_Valid.j0.eq_2, if_neg (by simp)]) ?_
  refine Ev.bind (rise_ev P hP) ?_
  refine ev_if (fun c3 => ?_) (fun c3 => by rw [Bool.eq_false_iff.2 c3, Bool.false_and, if_pos rfl]; exact j1t)
  refine Ev.bind (rise_ev I hI) ?_
  rw [c3, Bool.true_and]
  cases hI2 : riseP 0 I with
  | false => rw [if_pos rfl]; exact j1t
  | true =>
    rw [if_neg (by simp)]
    refine Ev.step (f := fun k => (matrix_shape.f k P I C).bind fun t108 => (if t108 = true then (matrix_Valid.j2 k cats ((cats.length : Int) != (I.length : Int)) P I C) else (matrix_Valid.j2 k cats true P I C))) (fun k => by rw [Bool.not_true, matrix_Valid.j1.eq_2, if_neg (by simp)]) ?_
    refine Ev.bind (shape_ev P I C hC) ?_
    refine ev_if (fun c4 => ?_) (fun c4 => by rw [if_pos (.inl (Bool.eq_false_iff.2 c4))]; exact j2t)
    by_cases c5 : cats.length = I.length
    · rw [if_neg (by rintro (h | h); · rw [c4] at h; cases h
                     · exact h c5), show ((cats.length : Int) != (I.length : Int)) = false from bne_eq_false_iff_eq.2 (by omega)]
      refine Ev.step (f := fun k => matrix_Valid.l0 k cats cats (cats.length : Int) ((0 : Nat) : Int) P I C) (fun k => by rw [matrix_Valid.j2.eq_2, if_neg (by simp)]; rfl) ?_
      have hsh := shape_iff.1 c4
      refine cats_loop cats P I C _ (by omega) cats.length 0 (by omega) (fun h => ?_) (fun h => ?_)
      · rw [List.drop_zero] at h
        rw [if_neg (by rw [h]; simp)]
        have := rows_loop cats C hC (fun r hr => by rw [hsh.2 r hr, c5]) (by omega) C.length 0 (by omega)
        simpa using this
      · rw [List.drop_zero] at h
        rw [if_pos h]
    · rw [if_pos (.inr c5), show ((cats.length : Int) != (I.length : Int)) = true from bne_iff_ne.2 (by omega)]
      exact j2t

def look {α : Type} : List Int → List α → Int → Option α
  | x :: t, v :: vs, y => if x = y then some v else look t vs y
  | _, _, _ => none
theorem rise_all : ∀ (l : List Int) (p : Int), riseP p l = true → (∀ x ∈ l, p < x ∧ 1 ≤ x) ∧ Rising l
  | [], _, _ => ⟨by simp, List.Pairwise.nil⟩
  | x :: t, p, h => by
    simp only [riseP] at h
    split at h
    · cases h
    split at h
    · cases h
    have := rise_all t x h
    refine ⟨fun y hy => ?_, List.pairwise_cons.2 ⟨fun y hy => (this.1 y hy).1, this.2⟩⟩
    rcases List.mem_cons.1 hy with rfl | hy
    · omega
    · have := this.1 y hy; omega
theorem rise_of : ∀ (l : List Int) (p : Int), (∀ x ∈ l, p < x ∧ 1 ≤ x) → Rising l → riseP p l = true
  | [], _, _, _ => rfl
  | x :: t, p, h, r => by
    have hx := h x (by simp)
    have r := List.pairwise_cons.1 r
    simp only [riseP]
    rw [if_neg (by omega), if_neg (by omega)]
    exact rise_of t x (fun y hy => ⟨r.1 y hy, (h y (by simp [hy])).2⟩) r.2
theorem rise_iff {l : List Int} : riseP 0 l = true ↔ (∀ x ∈ l, 1 ≤ x) ∧ Rising l :=
  ⟨fun h => ⟨fun x hx => ((rise_all l 0 h).1 x hx).2, (rise_all l 0 h).2⟩, fun h => rise_of l 0 (fun x hx => by have := h.1 x hx; omega) h.2⟩
theorem look_mem {α : Type} : ∀ {P : List Int} {C : List α} {p : Int}, C.length = P.length → ((look P C p).isSome ↔ p ∈ P)
  | [], [], p, _ => by simp [look]
  | x :: t, v :: vs, p, h => by
    simp only [look]
    split
    · rename_i c; simp [c]
    · rename_i c
      rw [look_mem (by simpa using h)]
      simp only [List.mem_cons]
      exact ⟨.inr, fun h => h.resolve_left (fun e => c e.symm)⟩
theorem look_out {α : Type} {P : List Int} {C : List α} {p : Int} (h : C.length = P.length) (hp : p ∉ P) : look P C p = none := by
  have := look_mem (p := p) h
  cases e : look P C p with
  | none => rfl
  | some v => rw [e] at this; exact absurd (this.1 rfl) hp
theorem look_in {α : Type} {P : List Int} {C : List α} {p : Int} (h : C.length = P.length) (hp : p ∈ P) : ∃ v, look P C p = some v ∧ v ∈ C := by
  induction P generalizing C with
  | nil => simp at hp
  | cons x t ih =>
    cases C with
    | nil => simp at h
    | cons v vs =>
      simp only [look]
      split
      · exact ⟨v, rfl, by simp⟩
      · rename_i c
        have ⟨w, hw, hm⟩ := ih (C := vs) (by simpa using h) ((List.mem_cons.1 hp).resolve_left (fun e => c e.symm))
        exact ⟨w, hw, by simp [hm]⟩
theorem look_at {α : Type} : ∀ {P : List Int} {C : List α} {p : Int} {i : Nat} (hi : i < P.length) (hc : i < C.length), (∀ j (h : j < i), P[j] ≠ p) → P[i] = p → look P C p = some C[i]
  | x :: t, v :: vs, p, 0, hi, hc, _, e => by
    simp only [look]
    rw [if_pos (by simpa using e)]; rfl
  | x :: t, v :: vs, p, i + 1, hi, hc, hn, e => by
    simp only [look]
    rw [if_neg (by simpa using hn 0 (by omega))]
    have := look_at (P := t) (C := vs) (p := p) (i := i) (by simpa using hi) (by simpa using hc) (fun j h => by simpa using hn (j + 1) (by omega)) (by simpa using e)
    simpa using this
theorem rising_inj {l : List Int} (h : Rising l) {i j : Nat} (hi : i < l.length) (hj : j < l.length) (hij : i < j) : l[i] < l[j] := List.pairwise_iff_getElem.1 h i j hi hj hij
theorem look_rising {α : Type} {P : List Int} {C : List α} {i : Nat} (h : Rising P) (hi : i < P.length) (hc : i < C.length) : look P C P[i] = some C[i] :=
  look_at hi hc (fun j hj => by have := rising_inj h (by omega) hi hj; omega) rfl
theorem look_map {α : Type} (f : Int → α) : ∀ {P : List Int} {p : Int}, p ∈ P → look P (P.map f) p = some (f p)
  | x :: t, p, h => by
    simp only [List.map_cons, look]
    split
    · rename_i c; rw [c]
    · rename_i c; exact look_map f ((List.mem_cons.1 h).resolve_left (fun e => c e.symm))
theorem map_look {α : Type} (d : α) {P : List Int} {C : List α} (h : Rising P) (hc : C.length = P.length) : P.map (fun p => (look P C p).getD d) = C := by
  apply List.ext_getElem
  · simp [hc]
  · intro i h1 h2
    have : i < P.length := by simpa using h1
    rw [List.getElem_map, look_rising h this h2]; rfl
def val (P I : List Int) (C : Mat) (p i : Int) : Option Int := (look P C p).bind (fun r => look I r i)
def cellD (P I : List Int) (C : Mat) (p i : Int) : Int := (val P I C p i).getD (-1)
theorem val_mem {P I : List Int} {C : Mat} (hs : shapeB P I C = true) (p i : Int) : (val P I C p i).isSome ↔ (p ∈ P ∧ i ∈ I) := by
  have hs := shape_iff.1 hs
  unfold val
  by_cases hp : p ∈ P
  · have ⟨r, hr, hm⟩ := look_in hs.1 hp
    rw [hr]
    have := look_mem (C := r) (p := i) (hs.2 r hm)
    simp only [Option.bind_some, this, hp, true_and]
  · rw [look_out hs.1 hp]; simp [hp]
theorem val_none {P I : List Int} {C : Mat} (hs : shapeB P I C = true) {p i : Int} (h : ¬ (p ∈ P ∧ i ∈ I)) : val P I C p i = none := by
  have := val_mem hs p i
  cases e : val P I C p i with
  | none => rfl
  | some v => rw [e] at this; exact absurd (this.1 rfl) h
theorem val_some {P I : List Int} {C : Mat} (hs : shapeB P I C = true) {p i : Int} (hp : p ∈ P) (hi : i ∈ I) : val P I C p i = some (cellD P I C p i) := by
  have := (val_mem hs p i).2 ⟨hp, hi⟩
  unfold cellD
  cases e : val P I C p i with
  | none => rw [e] at this; cases this
  | some v => rfl
theorem val_grid {ps is : List Int} {f : Int → Int → Int} {p i : Int} (hp : p ∈ ps) (hi : i ∈ is) : val ps is (ps.map fun p => is.map fun i => f p i) p i = some (f p i) := by
  unfold val
  rw [look_map (fun p => is.map fun i => f p i) hp, Option.bind_some, look_map (fun i => f p i) hi]
def grid (ps is : List Int) (f : Int → Int → Int) : Mat := ps.map fun p => is.map fun i => f p i
theorem grid_shape (ps is : List Int) (f : Int → Int → Int) : shapeB ps is (grid ps is f) = true := by
  rw [shape_iff]; unfold grid
  refine ⟨by simp, fun r hr => ?_⟩
  obtain ⟨p, _, rfl⟩ := List.mem_map.1 hr
  simp
theorem grid_congr {ps is : List Int} {f g : Int → Int → Int} (h : ∀ p ∈ ps, ∀ i ∈ is, f p i = g p i) : grid ps is f = grid ps is g :=
  List.map_congr_left fun p hp => List.map_congr_left fun i hi => h p hp i hi
theorem grid_cellD {ps is : List Int} {f : Int → Int → Int} {p i : Int} (hp : p ∈ ps) (hi : i ∈ is) : cellD ps is (grid ps is f) p i = f p i := by
  unfold cellD grid; rw [val_grid hp hi]; rfl
theorem grid_self {P I : List Int} {C : Mat} (hs : shapeB P I C = true) (hP : Rising P) (hI : Rising I) : grid P I (cellD P I C) = C := by
  have hs' := shape_iff.1 hs
  have e : grid P I (cellD P I C) = P.map (fun p => (look P C p).getD []) := by
    refine List.map_congr_left fun p hp => ?_
    have ⟨r, hr, hm⟩ := look_in hs'.1 hp
    rw [hr, Option.getD_some, ← map_look (-1) hI (hs'.2 r hm)]
    refine List.map_congr_left fun i hi => ?_
    unfold cellD val
    rw [hr, Option.bind_some]
  rw [e, map_look [] hP hs'.1]

def selM (P I : List Int) (C : Mat) (ps is : List Int) : List Int × List Int × Mat × Int :=
  if shapeB P I C = false then ([], [], [], 1) else if riseP 0 ps = false then ([], [], [], 23) else if ps.all (fun p => decide (p ∈ P)) = false then ([], [], [], 6)
  else if riseP 0 is = false then ([], [], [], 23) else if is.all (fun i => decide (i ∈ I)) = false then ([], [], [], 6) else (ps, is, grid ps is (cellD P I C), 0)
def clash (P I : List Int) (C : Mat) (Q J : List Int) (D : Mat) (p i : Int) : Bool := match val P I C p i, val Q J D p i with
  | some x, some y => decide (x ≠ y)
  | _, _ => false
def mcell (P I : List Int) (C : Mat) (Q J : List Int) (D : Mat) (p i : Int) : Int := (val P I C p i).getD (cellD Q J D p i)

theorem risen_same {a b : List Int} (h : ∀ x, x ∈ a ↔ x ∈ b) : risen a = risen b := risen_unique (risen_rising a) (fun x => by rw [risen_mem, h])
theorem rise_merged {a b : List Int} (ha : riseP 0 a = true) (hb : riseP 0 b = true) : riseP 0 (risen (a ++ b)) = true := by
  rw [rise_iff] at *
  refine ⟨fun x hx => ?_, risen_rising _⟩
  rw [risen_mem, List.mem_append] at hx
  exact hx.elim (ha.1 x) (hb.1 x)
def clashes (P I : List Int) (C : Mat) (Q J : List Int) (D : Mat) (ps is : List Int) : Bool := ps.any fun p => is.any fun i => clash P I C Q J D p i
def merM (P I : List Int) (C : Mat) (Q J : List Int) (D : Mat) : List Int × List Int × Mat × Int :=
  if (shapeB P I C && shapeB Q J D) = false then ([], [], [], 1) else if (riseP 0 P && riseP 0 I && riseP 0 Q && riseP 0 J) = false then ([], [], [], 23)
  else if clashes P I C Q J D (risen (P ++ Q)) (risen (I ++ J)) = true then ([], [], [], 11) else if 200 < (risen (P ++ Q)).length ∨ 60 < (risen (I ++ J)).length then ([], [], [], 5)
  else (risen (P ++ Q), risen (I ++ J), grid (risen (P ++ Q)) (risen (I ++ J)) (mcell P I C Q J D), 0)
theorem clash_symm (P I : List Int) (C : Mat) (Q J : List Int) (D : Mat) (p i : Int) : clash P I C Q J D p i = clash Q J D P I C p i := by
  unfold clash
  cases val P I C p i <;> cases val Q J D p i <;> simp [eq_comm]
theorem clash_self (P I : List Int) (C : Mat) (p i : Int) : clash P I C P I C p i = false := by
  unfold clash
  cases val P I C p i <;> simp
theorem mcell_symm {P I : List Int} {C : Mat} {Q J : List Int} {D : Mat} {p i : Int} (h : clash P I C Q J D p i = false) : mcell P I C Q J D p i = mcell Q J D P I C p i := by
  unfold clash at h
  unfold mcell cellD
  cases e : val P I C p i <;> cases f : val Q J D p i <;> rw [e, f] at h <;> simp at h ⊢
  exact h
theorem mcell_left {P I : List Int} {C : Mat} {Q J : List Int} {D : Mat} {p i : Int} (hs : shapeB P I C = true) (hp : p ∈ P) (hi : i ∈ I) : mcell P I C Q J D p i = cellD P I C p i := by
  unfold mcell
  rw [val_some hs hp hi]; rfl
theorem clashes_not {P I : List Int} {C : Mat} {Q J : List Int} {D : Mat} {ps is : List Int} (h : clashes P I C Q J D ps is = false) : ∀ p ∈ ps, ∀ i ∈ is, clash P I C Q J D p i = false := by
  intro p hp i hi
  unfold clashes at h
  rw [List.any_eq_false] at h
  have := h p hp
  rw [Bool.not_eq_true, List.any_eq_false] at this
  exact Bool.eq_false_iff.2 (this i hi)
theorem clashes_symm (P I : List Int) (C : Mat) (Q J : List Int) (D : Mat) (ps is : List Int) : clashes P I C Q J D ps is = clashes Q J D P I C ps is := by
  unfold clashes
  congr 1; funext p; congr 1; funext i; exact clash_symm ..
/-- Merging is symmetric. -/
theorem merM_symm (P I : List Int) (C : Mat) (Q J : List Int) (D : Mat) : merM P I C Q J D = merM Q J D P I C := by
  unfold merM
  rw [risen_same (a := P ++ Q) (b := Q ++ P) (fun x => by simp only [List.mem_append]; exact Or.comm), risen_same (a := I ++ J) (b := J ++ I) (fun x => by simp only [List.mem_append]; exact Or.comm),
    clashes_symm P I C Q J D, Bool.and_comm (shapeB P I C)]
  have e : (riseP 0 P && riseP 0 I && riseP 0 Q && riseP 0 J) = (riseP 0 Q && riseP 0 J && riseP 0 P && riseP 0 I) := by cases riseP 0 P <;> cases riseP 0 I <;> cases riseP 0 Q <;> cases riseP 0 J <;> rfl
  rw [e]
  split
  · rfl
  split
  · rfl
  split
  · rfl
  rename_i c
  split
  · rfl
  rw [grid_congr (fun p hp i hi => (mcell_symm (clashes_not (Bool.eq_false_iff.2 c) p hp i hi)).symm)]
theorem merM_ok {P I : List Int} {C : Mat} {Q J : List Int} {D : Mat} (h : (merM P I C Q J D).2.2.2 = 0) : shapeB P I C = true ∧ shapeB Q J D = true ∧ riseP 0 P = true ∧ riseP 0 I = true ∧ riseP 0 Q = true ∧ riseP 0 J = true ∧
    clashes P I C Q J D (risen (P ++ Q)) (risen (I ++ J)) = false ∧ ¬ (200 < (risen (P ++ Q)).length ∨ 60 < (risen (I ++ J)).length) ∧
    merM P I C Q J D = (risen (P ++ Q), risen (I ++ J), grid (risen (P ++ Q)) (risen (I ++ J)) (mcell P I C Q J D), 0) := by
  have h' := h
  unfold merM at h
  split at h
  · cases h
  rename_i c1
  split at h
  · cases h
  rename_i c2
  split at h
  · cases h
  rename_i c3
  split at h
  · cases h
  rename_i c4
  have b1 := Bool.and_eq_true _ _ ▸ (Bool.not_eq_false _ ▸ c1)
  have b2 : riseP 0 P = true ∧ riseP 0 I = true ∧ riseP 0 Q = true ∧ riseP 0 J = true := by simpa using c2
  refine ⟨b1.1, b1.2, b2.1, b2.2.1, b2.2.2.1, b2.2.2.2, Bool.eq_false_iff.2 c3, c4, ?_⟩
  unfold merM
  rw [if_neg c1, if_neg c2, if_neg c3, if_neg c4]
theorem risen_double {l : List Int} (h : riseP 0 l = true) : risen (l ++ l) = l := by
  rw [risen_same (a := l ++ l) (b := l) (fun x => by simp), risen_of_rising (rise_iff.1 h).2]
theorem merM_self (P I : List Int) (C : Mat) : merM P I C P I C = if shapeB P I C = false then ([], [], [], 1) else if (riseP 0 P && riseP 0 I) = false then ([], [], [], 23) else if 200 < P.length ∨ 60 < I.length then ([], [], [], 5) else (P, I, C, 0) := by
  unfold merM
  rw [Bool.and_self]
  split
  · rfl
  rename_i c1
  have e : (riseP 0 P && riseP 0 I && riseP 0 P && riseP 0 I) = (riseP 0 P && riseP 0 I) := by cases riseP 0 P <;> cases riseP 0 I <;> rfl
  rw [e]
  split
  · rfl
  rename_i c2
  have hb : riseP 0 P = true ∧ riseP 0 I = true := by simpa using c2
  rw [risen_double hb.1, risen_double hb.2]
  have hc : clashes P I C P I C P I = false := by
    unfold clashes
    rw [List.any_eq_false]
    intro p _
    rw [Bool.not_eq_true, List.any_eq_false]
    intro i _
    rw [clash_self]; simp
  rw [hc, if_neg (by simp)]
  split
  · rfl
  have hs := Bool.not_eq_false _ ▸ c1
  rw [grid_congr (g := cellD P I C) (fun p hp i hi => mcell_left hs hp hi), grid_self hs (rise_iff.1 hb.1).2 (rise_iff.1 hb.2).2]
/-- Each matrix is a part of the merged one. -/
theorem part_left {P I : List Int} {C : Mat} {Q J : List Int} {D : Mat} (h : (merM P I C Q J D).2.2.2 = 0) : selM (merM P I C Q J D).1 (merM P I C Q J D).2.1 (merM P I C Q J D).2.2.1 P I = (P, I, C, 0) := by
  obtain ⟨s1, _, p1, i1, _, _, _, _, e⟩ := merM_ok h
  rw [e]
  have mp : ∀ p ∈ P, p ∈ risen (P ++ Q) := fun p hp => by rw [risen_mem, List.mem_append]; exact .inl hp
  have mi : ∀ p ∈ I, p ∈ risen (I ++ J) := fun p hp => by rw [risen_mem, List.mem_append]; exact .inl hp
  unfold selM
  rw [grid_shape, if_neg (by simp), p1, if_neg (by simp), if_neg (by simpa using mp), i1, if_neg (by simp), if_neg (by simpa using mi)]
  rw [grid_congr (g := cellD P I C) (fun p hp i hi => by rw [grid_cellD (mp p hp) (mi i hi), mcell_left s1 hp hi]), grid_self s1 (rise_iff.1 p1).2 (rise_iff.1 i1).2]
theorem part_right {P I : List Int} {C : Mat} {Q J : List Int} {D : Mat} (h : (merM P I C Q J D).2.2.2 = 0) : selM (merM P I C Q J D).1 (merM P I C Q J D).2.1 (merM P I C Q J D).2.2.1 Q J = (Q, J, D, 0) := by
  rw [merM_symm] at h ⊢
  exact part_left h

def num : List Int → Int
  | [] => 0
  | x :: t => (if 0 ≤ x then 1 else 0) + num t

def colOf (C : Mat) (i : Nat) : List Int := C.map (fun r => r.getD i 0)

def noneLeft (l : List Int) : Bool := l.all (fun x => decide (x < 0))
def markL : List Int → List Int
  | [] => []
  | x :: t => (if noneLeft t = true ∧ x = -1 then -2 else x) :: markL t
theorem mark_length (l : List Int) : (markL l).length = l.length := by
  induction l with
  | nil => rfl
  | cons x t ih => simp [markL, ih]
theorem mark_none (l : List Int) : noneLeft (markL l) = noneLeft l := by
  induction l with
  | nil => rfl
  | cons x t ih =>
    unfold noneLeft at ih ⊢
    simp only [markL, List.all_cons, ih]
    congr 1
    split <;> rename_i c
    · rw [c.2]; decide
    · rfl
theorem mark_idem (l : List Int) : markL (markL l) = markL l := by
  induction l with
  | nil => rfl
  | cons x t ih =>
    simp only [markL, ih, mark_none]
    congr 1
    by_cases c : noneLeft t = true ∧ x = -1
    · rw [if_pos c, if_neg (by omega)]
    · rw [if_neg c, if_neg c]
/-- a mark by a general sum: any sum over the responses alone is kept. -/
def sumMin (M : Int) : List Int → Int
  | [] => 0
  | x :: t => (if 0 ≤ x then (if x ≤ M then x else M) else 0) + sumMin M t
theorem mark_sum (M : Int) (l : List Int) : sumMin M (markL l) = sumMin M l ∧ num (markL l) = num l := by
  induction l with
  | nil => exact ⟨rfl, rfl⟩
  | cons x t ih =>
    simp only [markL, sumMin, num, ih.1, ih.2]
    by_cases c : noneLeft t = true ∧ x = -1
    · rw [if_pos c, c.2]; exact ⟨by simp, by simp⟩
    · rw [if_neg c]; exact ⟨rfl, rfl⟩
theorem mark_at {l : List Int} {i : Nat} (h : i < l.length) : (markL l)[i]'(by rw [mark_length]; exact h) = if noneLeft (l.drop (i + 1)) = true ∧ l[i] = -1 then -2 else l[i] := by
  induction l generalizing i with
  | nil => simp at h
  | cons x t ih =>
    cases i with
    | zero => simp [markL]
    | succ i =>
      simp only [markL, List.getElem_cons_succ, List.drop_succ_cons]
      exact ih (by simpa using h)
/-- no Missing after the last response. -/
theorem mark_end {l : List Int} {i : Nat} (h : i < (markL l).length) (hn : noneLeft ((markL l).drop (i + 1)) = true) : (markL l)[i] ≠ -1 := by
  have hl := mark_length l
  have e := mark_at (l := l) (i := i) (by omega)
  have : noneLeft (l.drop (i + 1)) = true := by
    unfold noneLeft at hn ⊢
    rw [List.all_eq_true] at hn ⊢
    intro x hx
    obtain ⟨j, hj, rfl⟩ := List.mem_iff_getElem.1 hx
    have hj2 : j < ((markL l).drop (i + 1)).length := by simp at hj ⊢; omega
    have := hn _ (List.getElem_mem hj2)
    rw [List.getElem_drop, mark_at (by simp at hj; omega)] at this
    rw [List.getElem_drop]
    simp only [decide_eq_true_eq] at this ⊢
    split at this
    · rename_i c; rw [c.2]; decide
    · exact this
  rw [e]
  split
  · decide
  · rename_i c; exact fun h => c ⟨this, h⟩
theorem none_of_ge {l : List Int} {i : Nat} (h : i < l.length) (h0 : 0 ≤ l[i]) (j : Nat) (hj : j ≤ i) : noneLeft (l.drop j) = false := by
  unfold noneLeft
  rw [List.all_eq_false]
  refine ⟨l[i], ?_, by simp only [decide_eq_true_eq]; omega⟩
  rw [List.mem_iff_getElem]
  exact ⟨i - j, by simp; omega, by rw [List.getElem_drop]; congr 1; omega⟩
/-- The walk from the end: what is settled. -/
def markTo (l : List Int) (i : Nat) : List Int := l.take i ++ markL (l.drop i)
theorem markTo_all (l : List Int) : markTo l l.length = l := by simp [markTo, markL]
theorem markTo_zero (l : List Int) : markTo l 0 = markL l := by simp [markTo]
theorem markTo_length (l : List Int) (i : Nat) (h : i ≤ l.length) : (markTo l i).length = l.length := by simp [markTo, mark_length]; omega
theorem markTo_at {l : List Int} {i : Nat} (h : i < l.length) : (markTo l (i + 1))[i]'(by rw [markTo_length l (i + 1) (by omega)]; exact h) = l[i] := by
  unfold markTo
  rw [List.getElem_append_left (by simp; omega)]; simp
theorem markTo_stop : ∀ {l : List Int} {i : Nat} (h : i < l.length), 0 ≤ l[i] → markTo l (i + 1) = markL l
  | x :: t, 0, _, h0 => by
    have h0 : 0 ≤ x := h0
    have e : ¬ (noneLeft t = true ∧ x = -1) := by omega
    simp [markTo, markL, e]
  | x :: t, i + 1, h, h0 => by
    have hi : i < t.length := by simpa using h
    have h0 : 0 ≤ t[i] := by simpa using h0
    have e := markTo_stop hi h0
    have c := none_of_ge hi h0 0 (by omega)
    rw [List.drop_zero] at c
    unfold markTo at e ⊢
    simp only [List.take_succ_cons, List.drop_succ_cons, List.cons_append, markL, c]
    rw [e]; simp
theorem markTo_next {l : List Int} {i : Nat} (h : i < l.length) (hn : noneLeft (l.drop (i + 1)) = true) : markTo l i = if l[i] = -1 then (markTo l (i + 1)).set i (-2) else markTo l (i + 1) := by
  have hd : l.drop i = l[i] :: l.drop (i + 1) := by simp
  have e0 : markTo l i = l.take i ++ ((if l[i] = -1 then -2 else l[i]) :: markL (l.drop (i + 1))) := by
    unfold markTo
    rw [hd]
    simp only [markL, hn, true_and]
  have e1 : markTo l (i + 1) = l.take i ++ (l[i] :: markL (l.drop (i + 1))) := by
    unfold markTo
    rw [← List.take_append_getElem h, List.append_assoc]; rfl
  rw [e0, e1]
  split
  · rw [List.set_append_right _ _ (by simp; omega)]
    congr 1
    rw [show i - (l.take i).length = 0 by simp; omega, List.set_cons_zero]
  · rfl

theorem equal_loop (l m : List Int) (he : l.length = m.length) (hl : l.length ≤ 4611686018427387904) : ∀ (d i : Nat), i + d = l.length → Ev (fun k => examboardlaw24_equal.l0 k l m (l.length : Int) (i : Int)) (decide (l.drop i = m.drop i)) := by
  intro d
  induction d with
  | zero =>
    intro i hi
    refine ev_now (fun k => ?_)
    rw [examboardlaw24_equal.l0.eq_2, if_neg (by omega), List.drop_of_length_le (by omega), List.drop_of_length_le (by omega)]
    simp
  | succ d ih =>
    intro i hi
    have hlt : i < l.length := by omega
    have hlm : i < m.length := by omega
    refine Ev.step (f := fun k => if l[i] = m[i] then examboardlaw24_equal.l0 k l m (l.length : Int) ((i + 1 : Nat) : Int) else some false) (fun k => ?_) ?_
    · rw [examboardlaw24_equal.l0.eq_2, if_pos (by omega), if_pos (by omega), if_pos (by omega), if_pos (by omega), rdi_at hlt, rdi_at hlm, wrap_next hlt hl]
    · rw [drop_cons hlt, drop_cons hlm]
      refine ev_if (fun c => ?_) (fun c => ?_)
      · have := ih (i + 1) (by omega)
        rw [c, show decide (m[i] :: l.drop (i + 1) = m[i] :: m.drop (i + 1)) = decide (l.drop (i + 1) = m.drop (i + 1)) from decide_eq_decide.2 (by rw [List.cons.injEq]; simp only [true_and])]
        exact this
      · rw [show decide (l[i] :: l.drop (i + 1) = m[i] :: m.drop (i + 1)) = false from decide_eq_false (by rw [List.cons.injEq]; exact fun h => c h.1)]
        exact Ev.now _
theorem equal_ev (l m : List Int) (hl : l.length ≤ 4611686018427387904) : Ev (fun k => examboardlaw24_equal.f k l m) (decide (l = m)) := by
  unfold examboardlaw24_equal.f
  refine ev_if (fun c => ?_) (fun c => ?_)
  · have := equal_loop l m (by omega) hl l.length 0 (by omega)
    simpa using this
  · rw [show decide (l = m) = false from by rw [decide_eq_false_iff_not]; intro h; exact c (by rw [h])]
    exact Ev.now _
theorem equal_self (l : List Int) (hl : l.length ≤ 4611686018427387904) : Ev (fun k => examboardlaw24_equal.f k l l) true := by
  have := equal_ev l l hl
  rwa [decide_eq_true rfl] at this

theorem same_loop (P I P' I' : List Int) (C : Mat) (hC : C.length ≤ 4611686018427387904) (hr : ∀ r ∈ C, r.length ≤ 4611686018427387904) : ∀ (d i : Nat), i + d = C.length →
    Ev (fun k => examboardlaw24_same.l0 k (C.length : Int) (i : Int) P I C P' I' C) true := by
  intro d
  induction d with
  | zero =>
    intro i hi
    refine ev_now (fun k => ?_)
    rw [examboardlaw24_same.l0.eq_2, if_neg (by omega)]
  | succ d ih =>
    intro i hi
    have hlt : i < C.length := by omega
    refine Ev.step (f := fun k => (examboardlaw24_equal.f k C[i] C[i]).bind fun t => if t = true then examboardlaw24_same.l0 k (C.length : Int) ((i + 1 : Nat) : Int) P I C P' I' C else some false) (fun k => ?_) ?_
    · rw [examboardlaw24_same.l0.eq_2, if_pos (by omega), if_pos (by omega), if_pos (by omega), if_pos (by omega), rdl_at hlt, wrap_next hlt hC]
    · refine Ev.bind (equal_self _ (hr _ (List.getElem_mem hlt))) ?_
      exact ih (i + 1) (by omega)
/-- The same three lists are the same. -/
theorem same_self (P I : List Int) (C : Mat) (hP : P.length ≤ 4611686018427387904) (hI : I.length ≤ 4611686018427387904) (hC : C.length ≤ 4611686018427387904) (hr : ∀ r ∈ C, r.length ≤ 4611686018427387904) :
    Ev (fun k => examboardlaw24_same.f k P I C P I C) true := by
  unfold examboardlaw24_same.f
  refine Ev.bind (equal_self P hP) ?_
  refine ev_if (fun _ => ?_) (fun c => absurd rfl c)
  refine Ev.bind (equal_self I hI) ?_
  refine ev_if (fun _ => ?_) (fun c => absurd rfl c)
  rw [show ((C.length : Int) != (C.length : Int)) = false from bne_self_eq_false _]
  refine Ev.step (f := fun k => examboardlaw24_same.l0 k (C.length : Int) ((0 : Nat) : Int) P I C P I C) (fun k => by rw [examboardlaw24_same.j0.eq_2, if_neg (by simp)]; rfl) ?_
  exact same_loop P I P I C hC hr C.length 0 (by omega)

def ixFrom (x : Int) : List Int → Nat → Int
  | [], _ => -1
  | y :: t, i => if x = y then (i : Int) else ixFrom x t (i + 1)
def ix (l : List Int) (x : Int) : Int := ixFrom x l 0
theorem ixFrom_out : ∀ {l : List Int} {x : Int} {i : Nat}, x ∉ l → ixFrom x l i = -1
  | [], _, _, _ => rfl
  | y :: t, x, i, h => by
    simp only [List.mem_cons, not_or] at h
    simp only [ixFrom]
    rw [if_neg h.1]
    exact ixFrom_out h.2
theorem ixFrom_in : ∀ {l : List Int} {x : Int} {i : Nat}, x ∈ l → ∃ j, ∃ h : j < l.length, ixFrom x l i = ((i + j : Nat) : Int) ∧ l[j] = x ∧ ∀ m (hm : m < j), l[m] ≠ x
  | y :: t, x, i, h => by
    simp only [ixFrom]
    by_cases c : x = y
    · rw [if_pos c]
      exact ⟨0, by simp, by simp, by simp [c], fun m hm => absurd hm (by omega)⟩
    · rw [if_neg c]
      obtain ⟨j, hj, e, e1, e2⟩ := ixFrom_in (i := i + 1) ((List.mem_cons.1 h).resolve_left c)
      refine ⟨j + 1, by simpa using hj, by rw [e]; congr 1; omega, by simpa using e1, fun m hm => ?_⟩
      cases m with
      | zero => simpa using fun e => c e.symm
      | succ m => simpa using e2 m (by omega)
theorem ix_out {l : List Int} {x : Int} (h : x ∉ l) : ix l x = -1 := ixFrom_out h
theorem ix_in {l : List Int} {x : Int} (h : x ∈ l) : ∃ j, ∃ hj : j < l.length, ix l x = (j : Int) ∧ l[j] = x ∧ ∀ m (hm : m < j), l[m] ≠ x := by
  obtain ⟨j, hj, e, r⟩ := ixFrom_in (i := 0) h
  exact ⟨j, hj, by unfold ix; rw [e]; congr 1; omega, r⟩
theorem ix_neg {l : List Int} {x : Int} : ix l x < 0 ↔ x ∉ l := by
  by_cases h : x ∈ l
  · obtain ⟨j, hj, e, _⟩ := ix_in h
    exact ⟨fun c => by omega, fun c => absurd h c⟩
  · rw [ix_out h]; exact ⟨fun _ => h, fun _ => by omega⟩
theorem ix_look {α : Type} {P : List Int} {C : List α} {p : Int} (hc : C.length = P.length) (hp : p ∈ P) : ∃ j, ∃ hj : j < C.length, ix P p = (j : Int) ∧ look P C p = some C[j] := by
  obtain ⟨j, hj, e, e1, e2⟩ := ix_in hp
  exact ⟨j, by omega, e, look_at hj (by omega) e2 e1⟩
theorem ix_rising {l : List Int} (h : Rising l) {i : Nat} (hi : i < l.length) : ix l l[i] = (i : Int) := by
  obtain ⟨j, hj, e, e1, _⟩ := ix_in (List.getElem_mem hi)
  rw [e]
  rcases Nat.lt_trichotomy j i with c | c | c
  · have := rising_inj h hj hi c; omega
  · omega
  · have := rising_inj h hi hj c; omega
theorem index_loop (l : List Int) (x : Int) (hl : l.length ≤ 4611686018427387904) : ∀ (d i : Nat), i + d = l.length → Ev (fun k => slices_Index_int_int.l0 k l x (l.length : Int) (i : Int)) (ixFrom x (l.drop i) i) := by
  intro d
  induction d with
  | zero =>
    intro i hi
    refine ev_now (fun k => ?_)
    rw [slices_Index_int_int.l0.eq_2, if_neg (by omega), List.drop_of_length_le (by omega)]; rfl
  | succ d ih =>
    intro i hi
    have hlt : i < l.length := by omega
    rw [drop_cons hlt]
    simp only [ixFrom]
    refine Ev.step (f := fun k => if x = l[i] then some (i : Int) else slices_Index_int_int.l0 k l x (l.length : Int) ((i + 1 : Nat) : Int)) (fun k => ?_) ?_
    · rw [slices_Index_int_int.l0.eq_2, if_pos (by omega), if_pos (by omega), if_pos (by omega), rdi_at hlt, wrap_next hlt hl]
    · refine ev_if (fun c => by rw [if_pos c]; exact Ev.now _) (fun c => by rw [if_neg c]; exact ih (i + 1) (by omega))
theorem index_ev (l : List Int) (x : Int) (hl : l.length ≤ 4611686018427387904) : Ev (fun k => slices_Index_int_int.f k l x) (ix l x) := by
  unfold slices_Index_int_int.f ix
  have := index_loop l x hl l.length 0 (by omega)
  simpa using this

def indexesE (l some : List Int) : List Int × Int := if riseP 0 some = false then ([], 23) else if some.all (fun x => decide (x ∈ l)) = false then ([], 6) else (some.map (ix l), 0)
theorem indexes_loop (l ps : List Int) (hl : l.length ≤ 4611686018427387904) (hp : ps.length ≤ 17592186044415) : ∀ (d i : Nat), i + d = ps.length →
    Ev (fun k => matrix_indexes.l0 k l ((ps.take i).map (ix l)) ps (ps.length : Int) (i : Int)) (if (ps.drop i).all (fun x => decide (x ∈ l)) = false then ([], 6) else (ps.map (ix l), 0)) := by
  intro d
  induction d with
  | zero =>
    intro i hi
    refine ev_now (fun k => ?_)
    rw [matrix_indexes.l0.eq_2, if_neg (by omega), List.drop_of_length_le (by omega), List.take_of_length_le (by omega)]; rfl
  | succ d ih =>
    intro i hi
    have hlt : i < ps.length := by omega
    rw [drop_cons hlt, List.all_cons]
    refine Ev.step (f := fun k => (slices_Index_int_int.f k l ps[i]).bind fun t => if t < 0 then some ([], 6) else if ((ps.take i).map (ix l)).length < 17592186044416 then matrix_indexes.l0 k l ((ps.take i).map (ix l) ++ [t]) ps (ps.length : Int) ((i + 1 : Nat) : Int) else none) (fun k => ?_) ?_
    · rw [matrix_indexes.l0.eq_2, if_pos (by omega), if_pos (by omega), if_pos (by omega), rdi_at hlt, wrap_next hlt (show ps.length ≤ 4611686018427387904 by omega)]
    · refine Ev.bind (index_ev l _ hl) ?_
      refine ev_if (fun c => ?_) (fun c => ?_)
      · rw [ix_neg] at c
        rw [decide_eq_false c, Bool.false_and, if_pos rfl]
        exact Ev.now _
      · rw [ix_neg, Classical.not_not] at c
        rw [decide_eq_true c, Bool.true_and]
        refine ev_if (fun _ => ?_) (fun c => absurd (by simp; omega) c)
        have := ih (i + 1) (by omega)
        rwa [List.take_succ_eq_append_getElem hlt, List.map_append] at this
theorem indexes_ev (l ps : List Int) (hl : l.length ≤ 4611686018427387904) (hp : ps.length ≤ 17592186044415) : Ev (fun k => matrix_indexes.f k l ps) (indexesE l ps) := by
  unfold matrix_indexes.f indexesE
  refine Ev.bind (rise_ev ps (by omega)) ?_
  refine ev_if (fun c => ?_) (fun c => ?_)
  · rw [c, if_neg (by simp)]
    have := indexes_loop l ps hl hp ps.length 0 (by omega)
    simpa using this
  · rw [if_pos (Bool.eq_false_iff.2 c)]
    exact Ev.now _

def pick (C : Mat) (r c : Int) : Int := rd (rd_L1 C r) c
theorem nodup_sub : ∀ {a b : List Int}, a.Nodup → (∀ x ∈ a, x ∈ b) → a.length ≤ b.length
  | [], _, _, _ => Nat.zero_le _
  | x :: t, b, hn, hs => by
    have hn := List.nodup_cons.1 hn
    have hx := hs x (by simp)
    have := nodup_sub (b := b.erase x) hn.2 (fun y hy => (List.mem_erase_of_ne (fun e => hn.1 (by rw [← e]; exact hy))).2 (hs y (by simp [hy])))
    rw [List.length_erase_of_mem hx] at this
    have := List.length_pos_of_mem hx
    simp only [List.length_cons]
    omega
theorem rising_sub {a b : List Int} (h : Rising a) (hs : ∀ x ∈ a, x ∈ b) : a.length ≤ b.length := nodup_sub (List.Pairwise.imp (fun h => by omega) h) hs
theorem sel_row (rows cols ps is P I : List Int) (C out : Mat) (i63 r : Int) (n : Nat) (res : List Int × List Int × Mat × Int) (hc : ∀ c ∈ cols, 0 ≤ c ∧ c < (n : Int)) (hC : ∀ x ∈ C, x.length = n) (hr : 0 ≤ r ∧ r < (C.length : Int)) (hl : cols.length ≤ 17592186044415)
    (ho : out.length < 5864062014805) (hn : Ev (fun k => matrix_Select.l0 k rows cols ps is (rows.length : Int) (wrap64 (i63 + 1)) P I C (out ++ [cols.map (pick C r)])) res) : ∀ (d j : Nat), j + d = cols.length →
    Ev (fun k => matrix_Select.l1 k rows cols r ((cols.take j).map (pick C r)) ps is (rows.length : Int) i63 (cols.length : Int) (j : Int) P I C out) res := by
  intro d
  induction d with
  | zero =>
    intro j hj
    refine Ev.step (fun k => ?_) hn
    rw [matrix_Select.l1.eq_2, if_neg (by omega), if_pos ho, List.take_of_length_le (by omega)]
  | succ d ih =>
    intro j hj
    have hlt : j < cols.length := by omega
    have h1 := hc cols[j] (List.getElem_mem hlt)
    have hrow : rd_L1 C r ∈ C := by
      obtain ⟨m, rfl⟩ := Int.eq_ofNat_of_zero_le hr.1
      have hm : m < C.length := by omega
      rw [rdl_at hm]; exact List.getElem_mem hm
    refine Ev.step (fun k => ?_) (ih (j + 1) (by omega))
    rw [matrix_Select.l1.eq_2, if_pos (by omega), if_pos (by omega), if_pos (by omega), if_pos hr.1, if_pos hr.2, rdi_at hlt, if_pos h1.1, if_pos (by rw [hC _ hrow]; exact h1.2), if_pos (by simp; omega), wrap_next hlt (show cols.length ≤ 4611686018427387904 by omega),
      List.take_succ_eq_append_getElem hlt, List.map_append]
    rfl
theorem sel_rows (rows cols ps is P I : List Int) (C : Mat) (n : Nat) (hc : ∀ c ∈ cols, 0 ≤ c ∧ c < (n : Int)) (hC : ∀ x ∈ C, x.length = n) (hr : ∀ r ∈ rows, 0 ≤ r ∧ r < (C.length : Int)) (hl : cols.length ≤ 17592186044415)
    (ho : rows.length ≤ 5864062014805) : ∀ (d i : Nat), i + d = rows.length →
    Ev (fun k => matrix_Select.l0 k rows cols ps is (rows.length : Int) (i : Int) P I C ((rows.take i).map fun r => cols.map (pick C r))) (ps, is, rows.map (fun r => cols.map (pick C r)), 0) := by
  intro d
  induction d with
  | zero =>
    intro i hi
    refine ev_now (fun k => ?_)
    rw [matrix_Select.l0.eq_2, if_neg (by omega), List.take_of_length_le (by omega)]
  | succ d ih =>
    intro i hi
    have hlt : i < rows.length := by omega
    have hn := ih (i + 1) (by omega)
    rw [List.take_succ_eq_append_getElem hlt, List.map_append] at hn
    refine Ev.step (f := fun k => matrix_Select.l1 k rows cols rows[i] ((cols.take 0).map (pick C rows[i])) ps is (rows.length : Int) (i : Int) (cols.length : Int) ((0 : Nat) : Int) P I C ((rows.take i).map fun r => cols.map (pick C r))) (fun k => ?_) ?_
    · rw [matrix_Select.l0.eq_2, if_pos (by omega), if_pos (by omega), if_pos (by omega), if_pos (by omega), if_pos (by omega), rdi_at hlt]; rfl
    · refine sel_row rows cols ps is P I C _ (i : Int) rows[i] n _ hc hC (hr _ (List.getElem_mem hlt)) hl (by simp; omega) ?_ cols.length 0 (by omega)
      rw [wrap_next hlt (show rows.length ≤ 4611686018427387904 by omega)]
      exact hn
theorem pick_cell {P I : List Int} {C : Mat} (hs : shapeB P I C = true) {p i : Int} (hp : p ∈ P) (hi : i ∈ I) : pick C (ix P p) (ix I i) = cellD P I C p i := by
  have hs := shape_iff.1 hs
  obtain ⟨j, hj, e, el⟩ := ix_look hs.1 hp
  have hrow := hs.2 C[j] (List.getElem_mem hj)
  obtain ⟨m, hm, e', el'⟩ := ix_look hrow hi
  unfold pick cellD val
  rw [e, e', rdl_at hj, rdi_at hm, el, Option.bind_some, el']; rfl
theorem ix_bound {l : List Int} {x : Int} (h : x ∈ l) : 0 ≤ ix l x ∧ ix l x < (l.length : Int) := by
  obtain ⟨j, hj, e, _⟩ := ix_in h
  omega
theorem clone_ev (l : List Int) (h : l.length ≤ 17592186044415) : slices_Clone_int_int.f l = some l := by
  unfold slices_Clone_int_int.f
  rw [if_pos (by omega)]
theorem select_ev (P I : List Int) (C : Mat) (ps is : List Int) (hP : P.length ≤ 4611686018427387904) (hI : I.length ≤ 4611686018427387904) (hC : C.length ≤ 5864062014805) (hp : ps.length ≤ 17592186044415) (hi : is.length ≤ 17592186044415) :
    Ev (fun k => matrix_Select.f k P I C ps is) (selM P I C ps is) := by
  unfold matrix_Select.f selM
  refine Ev.bind (shape_ev P I C (by omega)) ?_
  refine ev_if (fun c0 => ?_) (fun c0 => by rw [if_pos (Bool.eq_false_iff.2 c0)]; exact Ev.now _)
  rw [c0, if_neg (by simp)]
  have hs := shape_iff.1 c0
  refine Ev.bind (indexes_ev P ps hP hp) ?_
  unfold indexesE
  by_cases c1 : riseP 0 ps = false
  · rw [if_pos c1, if_pos c1]
    refine ev_if (fun c => absurd c (by decide)) (fun _ => Ev.now _)
  rw [if_neg c1, if_neg c1]
  by_cases c2 : ps.all (fun x => decide (x ∈ P)) = false
  · rw [if_pos c2, if_pos c2]
    refine ev_if (fun c => absurd c (by decide)) (fun _ => Ev.now _)
  rw [if_neg c2, if_neg c2]
  refine ev_if (fun _ => ?_) (fun c => absurd rfl c)
  refine Ev.bind (indexes_ev I is hI hi) ?_
  unfold indexesE
  by_cases c3 : riseP 0 is = false
  · rw [if_pos c3, if_pos c3]
    refine ev_if (fun c => absurd c (by decide)) (fun _ => Ev.now _)
  rw [if_neg c3, if_neg c3]
  by_cases c4 : is.all (fun x => decide (x ∈ I)) = false
  · rw [if_pos c4, if_pos c4]
    refine ev_if (fun c => absurd c (by decide)) (fun _ => Ev.now _)
  rw [if_neg c4, if_neg c4]
  refine ev_if (fun _ => ?_) (fun c => absurd rfl c)
  refine ev_bindc (clone_ev ps hp) ?_
  refine ev_bindc (clone_ev is hi) ?_
  have m2 : ∀ p ∈ ps, p ∈ P := by simpa using c2
  have m4 : ∀ p ∈ is, p ∈ I := by simpa using c4
  have hr := rising_sub (rise_iff.1 (Bool.not_eq_false _ ▸ c1)).2 m2
  have := sel_rows (ps.map (ix P)) (is.map (ix I)) ps is P I C I.length (fun c hc => by obtain ⟨x, hx, rfl⟩ := List.mem_map.1 hc; exact ix_bound (m4 x hx)) hs.2
    (fun c hc => by obtain ⟨x, hx, rfl⟩ := List.mem_map.1 hc; rw [hs.1]; exact ix_bound (m2 x hx)) (by simpa using hi) (by rw [List.length_map]; omega) (ps.map (ix P)).length 0 (by omega)
  have e : (ps.map (ix P)).map (fun r => (is.map (ix I)).map (pick C r)) = grid ps is (cellD P I C) := by
    unfold grid
    rw [List.map_map]
    refine List.map_congr_left fun p hp => ?_
    simp only [Function.comp_apply, List.map_map]
    refine List.map_congr_left fun i hi => ?_
    exact pick_cell c0 (m2 p hp) (m4 i hi)
  rw [e] at this
  exact this

theorem mid_eq {i j : Nat} (h : i + j ≤ 9223372036854775807) : wrap64 ((IntKind.u64.wrap (wrap64 ((i : Int) + (j : Int)))) / 2) = (((i + j) / 2 : Nat) : Int) := by
  have e : wrap64 ((i : Int) + (j : Int)) = (i : Int) + (j : Int) := wrap_id (by omega) (by omega)
  have e2 : IntKind.u64.wrap ((i : Int) + (j : Int)) = (i : Int) + (j : Int) := by
    unfold IntKind.wrap
    simp only [IntKind.bits, IntKind.signed, Bool.false_and, Bool.false_eq_true, if_false]
    omega
  rw [e, e2, wrap_id (by omega) (by omega)]
  omega
theorem less_ev (a b : Int) : cmp_Less_int.f a b = some (decide (a < b)) := by
  unfold cmp_Less_int.f cmp_isNaN_int.f
  simp
theorem bs_loop (l : List Int) (x : Int) (hr : Rising l) (hl : l.length ≤ 4611686018427387903) : ∀ (d i j : Nat), j - i ≤ d → i ≤ j → j ≤ l.length → (∀ m (_ : m < l.length), m < i → l[m] < x) → (∀ m (_ : m < l.length), j ≤ m → x ≤ l[m]) →
    ∃ r : Int × Bool, Ev (fun k => matrix_sorted_int_int_62.l0 k l x (l.length : Int) (i : Int) (j : Int)) r ∧ (r.2 = true → ∃ m, ∃ h : m < l.length, r.1 = (m : Int) ∧ l[m] = x) ∧ (r.2 = false → x ∉ l) := by
  intro d
  induction d with
  | zero =>
    intro i j hd hij hj hlo hhi
    have e : i = j := by omega
    subst e
    by_cases c : i < l.length
    · by_cases cx : l[i] = x
      · refine ⟨((i : Int), true), ev_now (fun k => ?_), fun _ => ⟨i, c, rfl, cx⟩, fun h => by cases h⟩
        rw [matrix_sorted_int_int_62.l0.eq_2, if_neg (by omega), if_pos (by omega), if_pos (by omega), if_pos (by omega), rdi_at c, if_pos cx]
      · refine ⟨((i : Int), false), ev_now (fun k => ?_), (fun h => by cases h), fun _ hm => ?_⟩
        · rw [matrix_sorted_int_int_62.l0.eq_2, if_neg (by omega), if_pos (by omega), if_pos (by omega), if_pos (by omega), rdi_at c, if_neg cx]
          unfold slices_isNaN_int.f
          simp
        · obtain ⟨m, hm, e⟩ := List.mem_iff_getElem.1 hm
          rcases Nat.lt_trichotomy m i with h | h | h
          · have := hlo m hm h; omega
          · subst h; exact cx e
          · have h1 := hhi i c (Nat.le_refl _)
            have h2 := rising_inj hr c hm h
            omega
    · refine ⟨((i : Int), false), ev_now (fun k => ?_), (fun h => by cases h), fun _ hm => ?_⟩
      · rw [matrix_sorted_int_int_62.l0.eq_2, if_neg (by omega), if_neg (by omega)]
      · obtain ⟨m, hm, e⟩ := List.mem_iff_getElem.1 hm
        have := hlo m hm (by omega); omega
  | succ d ih =>
    intro i j hd hij hj hlo hhi
    by_cases c : i < j
    · have hm : (i + j) / 2 < l.length := by omega
      have step : ∀ k, matrix_sorted_int_int_62.l0 (k + 1) l x (l.length : Int) (i : Int) (j : Int) = if l[(i + j) / 2] < x then matrix_sorted_int_int_62.l0 k l x (l.length : Int) (((i + j) / 2 + 1 : Nat) : Int) (j : Int) else matrix_sorted_int_int_62.l0 k l x (l.length : Int) (i : Int) (((i + j) / 2 : Nat) : Int) := by
        intro k
        rw [matrix_sorted_int_int_62.l0.eq_2, mid_eq (show i + j ≤ 9223372036854775807 by omega), if_pos (by omega), if_pos (by omega), if_pos (by omega), rdi_at hm, less_ev, Option.bind_some, wrap_next hm (by omega)]
        by_cases cx : l[(i + j) / 2] < x
        · rw [if_pos (decide_eq_true cx), if_pos cx]
        · rw [if_neg (by rw [decide_eq_false cx]; simp), if_neg cx]
      by_cases cx : l[(i + j) / 2] < x
      · obtain ⟨r, hr0, h⟩ := ih ((i + j) / 2 + 1) j (by omega) (by omega) hj (fun m h1 h2 => by
          by_cases e : m = (i + j) / 2
          · subst e; exact cx
          · have := rising_inj hr h1 hm (by omega); omega) hhi
        exact ⟨r, Ev.step (fun k => by rw [step, if_pos cx]) hr0, h⟩
      · obtain ⟨r, hr0, h⟩ := ih i ((i + j) / 2) (by omega) (by omega) (by omega) hlo (fun m h1 h2 => by
          by_cases e : m = (i + j) / 2
          · subst e; omega
          · have := rising_inj hr hm h1 (by omega); omega)
        exact ⟨r, Ev.step (fun k => by rw [step, if_neg cx]) hr0, h⟩
    · exact ih i j (by omega) hij hj hlo hhi
theorem find_ev (l : List Int) (x : Int) (hr : Rising l) (hl : l.length ≤ 4611686018427387903) : Ev (fun k => matrix_sorted_int_find.f k l x) (ix l x) := by
  obtain ⟨r, h0, h1, h2⟩ := bs_loop l x hr hl l.length 0 l.length (by omega) (by omega) (Nat.le_refl _) (fun m _ h => absurd h (by omega)) (fun m h1 h2 => absurd h1 (by omega))
  unfold matrix_sorted_int_find.f matrix_sorted_int_int_62.f
  refine Ev.bind h0 ?_
  refine ev_if (fun c => ?_) (fun c => ?_)
  · obtain ⟨m, hm, e, e1⟩ := h1 c
    rw [e, ← e1, ix_rising hr hm]
    exact Ev.now _
  · rw [ix_out (h2 (Bool.eq_false_iff.2 c))]
    exact Ev.now _

theorem cell_ev {P I : List Int} {C : Mat} (hs : shapeB P I C = true) (hP : Rising P) (hI : Rising I) (p i : Int) (lP : P.length ≤ 4611686018427387903) (lI : I.length ≤ 4611686018427387903) :
    Ev (fun k => matrix_cell.f k P I C p i) (cellD P I C p i, (val P I C p i).isSome) := by
  have hs' := shape_iff.1 hs
  unfold matrix_cell.f
  refine Ev.bind (find_ev P p hP lP) ?_
  refine Ev.bind (find_ev I i hI lI) ?_
  by_cases cp : p ∈ P
  · by_cases ci : i ∈ I
    · rw [val_some hs cp ci]
      obtain ⟨j, hj, e, el⟩ := ix_look hs'.1 cp
      have hrow := hs'.2 C[j] (List.getElem_mem hj)
      obtain ⟨m, hm, e', el'⟩ := ix_look hrow ci
      refine ev_now (fun k => ?_)
      rw [e, e', if_neg (by omega), if_neg (by omega), if_pos (by omega), if_pos (by omega), if_pos (by omega), rdl_at hj, if_pos (by omega), rdi_at hm]
      have : cellD P I C p i = C[j][m] := by
        unfold cellD val
        rw [el, Option.bind_some, el']; rfl
      rw [this]; rfl
    · have hn := val_none hs (fun h : p ∈ P ∧ i ∈ I => ci h.2)
      unfold cellD
      rw [hn]
      refine ev_now (fun k => ?_)
      have h1 := ix_neg (l := I) (x := i)
      rw [if_pos (h1.2 ci)]
      split <;> rfl
  · have hn := val_none hs (fun h : p ∈ P ∧ i ∈ I => cp h.1)
    unfold cellD
    rw [hn]
    refine ev_now (fun k => ?_)
    rw [if_pos (ix_neg.2 cp)]; rfl

theorem concat_ev (a b : List Int) (h : a.length + b.length ≤ 17592186044415) : Ev (fun k => matrix_sorted_int_int_52.f k [a, b]) (a ++ b) := by
  unfold matrix_sorted_int_int_52.f
  have w1 : wrap64 (0 + (a.length : Int)) = (a.length : Int) := by rw [wrap_id (by omega) (by omega)]; omega
  have w2 : wrap64 ((a.length : Int) + (b.length : Int)) = ((a.length + b.length : Nat) : Int) := by rw [wrap_id (by omega) (by omega)]; omega
  have g : matrix_sorted_int_int_59.f [] ((a.length + b.length : Nat) : Int) = some [] := by
    unfold matrix_sorted_int_int_59.f
    rw [if_pos rfl, if_pos (by omega), if_pos (by omega)]
  have r0 : rd_L1 [a, b] 0 = a := rfl
  have r1 : rd_L1 [a, b] 1 = b := rfl
  have n1 : wrap64 ((0 : Int) + 1) = 1 := wrap_id (by omega) (by omega)
  have n2 : wrap64 ((1 : Int) + 1) = 2 := wrap_id (by omega) (by omega)
  refine Ev.step (f := fun k => matrix_sorted_int_int_52.l0 k [a, b] (a.length : Int) [a, b] 2 1) (fun k => by
    rw [show (([a, b] : List (List Int)).length : Int) = 2 from rfl, matrix_sorted_int_int_52.l0.eq_2, if_pos (by omega), if_pos (by omega), if_pos (by rw [show (([a, b] : List (List Int)).length : Int) = 2 from rfl]; omega), r0, w1, if_neg (by omega), n1]) ?_
  refine Ev.step (f := fun k => matrix_sorted_int_int_52.l0 k [a, b] ((a.length + b.length : Nat) : Int) [a, b] 2 2) (fun k => by
    rw [matrix_sorted_int_int_52.l0.eq_2, if_pos (by omega), if_pos (by omega), if_pos (by rw [show (([a, b] : List (List Int)).length : Int) = 2 from rfl]; omega), r1, w2, if_neg (by omega), n2]) ?_
  refine Ev.step (f := fun k => matrix_sorted_int_int_52.l1 k [] [a, b] 2 0) (fun k => by
    rw [matrix_sorted_int_int_52.l0.eq_2, if_neg (by omega), g]; rfl) ?_
  refine Ev.step (f := fun k => matrix_sorted_int_int_52.l1 k a [a, b] 2 1) (fun k => by
    rw [matrix_sorted_int_int_52.l1.eq_2, if_pos (by omega), if_pos (by omega), if_pos (by rw [show (([a, b] : List (List Int)).length : Int) = 2 from rfl]; omega), r0, if_pos (by simp; omega), n1, List.nil_append]) ?_
  refine Ev.step (f := fun k => matrix_sorted_int_int_52.l1 k (a ++ b) [a, b] 2 2) (fun k => by
    rw [matrix_sorted_int_int_52.l1.eq_2, if_pos (by omega), if_pos (by omega), if_pos (by rw [show (([a, b] : List (List Int)).length : Int) = 2 from rfl]; omega), r1, if_pos (by omega), n2]) ?_
  exact ev_now (fun k => by rw [matrix_sorted_int_int_52.l1.eq_2, if_neg (by omega)])
theorem merged_ev (a b : List Int) (h : a.length + b.length ≤ 17592186044415) : Ev (fun k => matrix_merged_int.f k a b) (risen (a ++ b)) := by
  unfold matrix_merged_int.f
  refine Ev.bind (concat_ev a b h) ?_
  refine ev_bindc (a := (a ++ b).mergeSort fun x y => decide (x ≤ y)) (by unfold matrix_sorted_int_int_53.f; rw [if_pos (by simp; omega)]) ?_
  exact ev_const rfl

theorem merge_row (P I : List Int) (C : Mat) (Q J : List Int) (D : Mat) (ps is : List Int) (out : Mat) (p i63 : Int) (res : List Int × List Int × Mat × Int)
    (hs : shapeB P I C = true) (ht : shapeB Q J D = true) (hP : Rising P) (hI : Rising I) (hQ : Rising Q) (hJ : Rising J) (lP : P.length ≤ 4611686018427387903) (lI : I.length ≤ 4611686018427387903) (lQ : Q.length ≤ 4611686018427387903) (lJ : J.length ≤ 4611686018427387903)
    (hl : is.length ≤ 17592186044415) (ho : out.length < 5864062014805) : ∀ (d j : Nat), j + d = is.length →
    ((is.drop j).any (fun i => clash P I C Q J D p i) = true → res = ([], [], [], 11)) →
    ((is.drop j).any (fun i => clash P I C Q J D p i) = false → Ev (fun k => matrix_Merge.l0 k ps is (ps.length : Int) (wrap64 (i63 + 1)) P I C Q J D (out ++ [is.map (mcell P I C Q J D p)])) res) →
    Ev (fun k => matrix_Merge.l1 k p ((is.take j).map (mcell P I C Q J D p)) ps is (ps.length : Int) i63 (is.length : Int) (j : Int) P I C Q J D out) res := by
  intro d
  induction d with
  | zero =>
    intro j hj hy hn
    rw [List.drop_of_length_le (by omega)] at hn
    refine Ev.step (fun k => ?_) (hn rfl)
    rw [matrix_Merge.l1.eq_2, if_neg (by omega), if_pos ho, List.take_of_length_le (by omega)]
  | succ d ih =>
    intro j hj hy hn
    have hlt : j < is.length := by omega
    rw [drop_cons hlt, List.any_cons] at hy hn
    have hlen : ((is.take j).map (mcell P I C Q J D p)).length < 17592186044416 := by simp; omega
    have next : clash P I C Q J D p is[j] = false → Ev (fun k => matrix_Merge.l1 k p ((is.take j).map (mcell P I C Q J D p) ++ [mcell P I C Q J D p is[j]]) ps is (ps.length : Int) i63 (is.length : Int) ((j + 1 : Nat) : Int) P I C Q J D out) res := by
      intro hc
      rw [hc, Bool.false_or] at hy hn
      have := ih (j + 1) (by omega) hy hn
      rwa [List.take_succ_eq_append_getElem hlt, List.map_append] at this
    refine Ev.step (f := fun k => (matrix_cell.f k P I C p is[j]).bind fun t => (matrix_cell.f k Q J D p is[j]).bind fun u => if t.2 = true then (if u.2 = true then
      matrix_Merge.j4 k p ((is.take j).map (mcell P I C Q J D p)) t.1 t.2 u.1 ps is (ps.length : Int) i63 (is.length : Int) (j : Int) (t.1 != u.1) P I C Q J D ps is out
      else matrix_Merge.j4 k p ((is.take j).map (mcell P I C Q J D p)) t.1 t.2 u.1 ps is (ps.length : Int) i63 (is.length : Int) (j : Int) false P I C Q J D ps is out)
      else matrix_Merge.j4 k p ((is.take j).map (mcell P I C Q J D p)) t.1 t.2 u.1 ps is (ps.length : Int) i63 (is.length : Int) (j : Int) false P I C Q J D ps is out) (fun k => by
        rw [matrix_Merge.l1.eq_2, if_pos (by omega), if_pos (by omega), if_pos (by omega), rdi_at hlt]) ?_
    refine Ev.bind (cell_ev hs hP hI p is[j] lP lI) ?_
    refine Ev.bind (cell_ev ht hQ hJ p is[j] lQ lJ) ?_
    have wn := wrap_next hlt (show is.length ≤ 4611686018427387904 by omega)
    cases ea : val P I C p is[j] with
    | none =>
      have hc : clash P I C Q J D p is[j] = false := by unfold clash; rw [ea]
      have hm : mcell P I C Q J D p is[j] = cellD Q J D p is[j] := by unfold mcell; rw [ea]; rfl
      refine ev_if (fun c => by cases c) (fun _ => ?_)
      refine Ev.step (fun k => ?_) (next hc)
      rw [matrix_Merge.j4.eq_2, if_neg (by simp), if_neg (by simp), if_pos hlen, wn, hm]
    | some x =>
      have hx : cellD P I C p is[j] = x := by unfold cellD; rw [ea]; rfl
      have hm : mcell P I C Q J D p is[j] = x := by unfold mcell; rw [ea]; rfl
      refine ev_if (fun _ => ?_) (fun c => absurd rfl c)
      cases eb : val Q J D p is[j] with
      | none =>
        have hc : clash P I C Q J D p is[j] = false := by unfold clash; rw [ea, eb]
        refine ev_if (fun c => by cases c) (fun _ => ?_)
        refine Ev.step (fun k => ?_) (next hc)
        rw [matrix_Merge.j4.eq_2, if_neg (by simp), if_pos (by simp), if_pos hlen, wn, hm, hx]
      | some y =>
        have hd : cellD Q J D p is[j] = y := by unfold cellD; rw [eb]; rfl
        have hcl : clash P I C Q J D p is[j] = decide (x ≠ y) := by unfold clash; rw [ea, eb]
        refine ev_if (fun _ => ?_) (fun c => absurd rfl c)
        rw [hx, hd]
        by_cases c : x = y
        · have hc : clash P I C Q J D p is[j] = false := by rw [hcl]; simpa using c
          refine Ev.step (fun k => ?_) (next hc)
          rw [show (x != y) = false from bne_eq_false_iff_eq.2 c, matrix_Merge.j4.eq_2, if_neg (by simp), if_pos (by simp), if_pos hlen, wn, hm]
        · rw [hy (by rw [hcl, decide_eq_true c, Bool.true_or])]
          refine ev_now (fun k => ?_)
          rw [show (x != y) = true from bne_iff_ne.2 c, matrix_Merge.j4.eq_2, if_pos rfl]
theorem merge_rows (P I : List Int) (C : Mat) (Q J : List Int) (D : Mat) (ps is : List Int)
    (hs : shapeB P I C = true) (ht : shapeB Q J D = true) (hP : Rising P) (hI : Rising I) (hQ : Rising Q) (hJ : Rising J) (lP : P.length ≤ 4611686018427387903) (lI : I.length ≤ 4611686018427387903) (lQ : Q.length ≤ 4611686018427387903) (lJ : J.length ≤ 4611686018427387903)
    (hl : is.length ≤ 17592186044415) (ho : ps.length ≤ 5864062014805) : ∀ (d i : Nat), i + d = ps.length →
    Ev (fun k => matrix_Merge.l0 k ps is (ps.length : Int) (i : Int) P I C Q J D ((ps.take i).map fun p => is.map (mcell P I C Q J D p)))
      (if clashes P I C Q J D (ps.drop i) is = true then ([], [], [], 11) else if 200 < ps.length ∨ 60 < is.length then ([], [], [], 5) else (ps, is, grid ps is (mcell P I C Q J D), 0)) := by
  intro d
  induction d with
  | zero =>
    intro i hi
    rw [List.drop_of_length_le (by omega), List.take_of_length_le (by omega), show clashes P I C Q J D [] is = false from rfl, if_neg (by simp)]
    refine ev_now (fun k => ?_)
    rw [matrix_Merge.l0.eq_2, if_neg (by omega)]
    by_cases c1 : 200 < ps.length
    · rw [if_pos (by omega), if_pos (.inl c1)]
    · rw [if_neg (by omega)]
      by_cases c2 : 60 < is.length
      · rw [if_pos (by omega), if_pos (.inr c2)]
      · rw [if_neg (by omega), if_neg (by omega)]; rfl
  | succ d ih =>
    intro i hi
    have hlt : i < ps.length := by omega
    have hn := ih (i + 1) (by omega)
    rw [List.take_succ_eq_append_getElem hlt, List.map_append] at hn
    have e : clashes P I C Q J D (ps.drop i) is = (is.any (fun y => clash P I C Q J D ps[i] y) || clashes P I C Q J D (ps.drop (i + 1)) is) := by unfold clashes; rw [drop_cons hlt, List.any_cons]
    refine Ev.step (f := fun k => matrix_Merge.l1 k ps[i] ((is.take 0).map (mcell P I C Q J D ps[i])) ps is (ps.length : Int) (i : Int) (is.length : Int) ((0 : Nat) : Int) P I C Q J D ((ps.take i).map fun p => is.map (mcell P I C Q J D p))) (fun k => ?_) ?_
    · rw [matrix_Merge.l0.eq_2, if_pos (by omega), if_pos (by omega), if_pos (by omega), if_pos (by omega), if_pos (by omega), rdi_at hlt]; rfl
    · refine merge_row P I C Q J D ps is _ ps[i] (i : Int) _ hs ht hP hI hQ hJ lP lI lQ lJ hl (by simp; omega) is.length 0 (by omega) (fun h => ?_) (fun h => ?_)
      · rw [List.drop_zero] at h
        rw [e, h, Bool.true_or, if_pos rfl]
      · rw [List.drop_zero] at h
        rw [e, h, Bool.false_or, wrap_next hlt (show ps.length ≤ 4611686018427387904 by omega)]
        exact hn
theorem merge_ev (P I : List Int) (C : Mat) (Q J : List Int) (D : Mat) (hPQ : P.length + Q.length ≤ 5864062014805) (hIJ : I.length + J.length ≤ 17592186044415) (hC : C.length ≤ 4611686018427387904) (hD : D.length ≤ 4611686018427387904) :
    Ev (fun k => matrix_Merge.f k P I C Q J D) (merM P I C Q J D) := by
  have j0t : Ev (fun k => matrix_Merge.j0 k true P I C Q J D) (([] : List Int), ([] : List Int), ([] : Mat), (1 : Int)) := ev_now (fun k => by rw [matrix_Merge.j0.eq_2, if_pos rfl])
  have j1t : Ev (fun k => matrix_Merge.j1 k true P I C Q J D) (([] : List Int), ([] : List Int), ([] : Mat), (23 : Int)) := ev_now (fun k => by rw [matrix_Merge.j1.eq_2, if_pos rfl])
  unfold matrix_Merge.f merM
  refine Ev.bind (shape_ev P I C hC) ?_
  refine ev_if (fun c0 => ?_) (fun c0 => by rw [Bool.eq_false_iff.2 c0, Bool.false_and, if_pos rfl]; exact j0t)
  refine Ev.bind (shape_ev Q J D hD) ?_
  rw [c0, Bool.true_and]
  cases c1 : shapeB Q J D with
  | false => rw [if_pos rfl]; exact j0t
  | true =>
    rw [if_neg (by simp)]
    refine Ev.step (f := fun k => (matrix_rising_int.f k P 1).bind fun t189 => (if t189 = true then ((matrix_rising_int.f k I 1).bind fun t190 => (if t190 = true then ((matrix_rising_int.f k Q 1).bind fun t191 => (if t191 = true then ((matrix_rising_int.f k J 1).bind fun t192 => (matrix_Merge.j1 k (!t192) P I C Q J D)) else (matrix_Merge.j1 k true P I C Q J D))) else (matrix_Merge.j1 k true P I C Q J D))) else (matrix_Merge.j1 k true P I C Q J D))) (fun k => by rw [Bool.not_true, matrix_Merge.j0.eq_2, if_neg (by simp)]) ?_
    refine Ev.bind (rise_ev P (by omega)) ?_
    refine ev_if (fun c2 => ?_) (fun c2 => by rw [Bool.eq_false_iff.2 c2, Bool.false_and, Bool.false_and, Bool.false_and, if_pos rfl]; exact j1t)
    refine Ev.bind (rise_ev I (by omega)) ?_
    refine ev_if (fun c3 => ?_) (fun c3 => by rw [Bool.eq_false_iff.2 c3, Bool.and_false, Bool.false_and, Bool.false_and, if_pos rfl]; exact j1t)
    refine Ev.bind (rise_ev Q (by omega)) ?_
    refine ev_if (fun c4 => ?_) (fun c4 => by rw [Bool.eq_false_iff.2 c4, Bool.and_false, Bool.false_and, if_pos rfl]; exact j1t)
    refine Ev.bind (rise_ev J (by omega)) ?_
    rw [c2, c3, c4, Bool.true_and, Bool.true_and, Bool.true_and]
    cases c5 : riseP 0 J with
    | false => rw [if_pos rfl]; exact j1t
    | true =>
      rw [if_neg (by simp)]
      have lp := risen_length (P ++ Q)
      have li := risen_length (I ++ J)
      rw [List.length_append] at lp li
      refine Ev.step (f := fun k => (matrix_merged_int.f k P Q).bind fun t193 => ((matrix_merged_int.f k I J).bind fun t196 => (matrix_Merge.l0 k t193 t196 (t193.length : Int) ((0 : Nat) : Int) P I C Q J D ([] : Mat)))) (fun k => by rw [Bool.not_true, matrix_Merge.j1.eq_2, if_neg (by simp)]; rfl) ?_
      refine Ev.bind (merged_ev P Q (by omega)) ?_
      refine Ev.bind (merged_ev I J (by omega)) ?_
      exact merge_rows P I C Q J D (risen (P ++ Q)) (risen (I ++ J)) c0 c1 (rise_iff.1 c2).2 (rise_iff.1 c3).2 (rise_iff.1 c4).2 (rise_iff.1 c5).2 (by omega) (by omega) (by omega) (by omega) (by omega) (by omega) (risen (P ++ Q)).length 0 (by omega)

def totW : List Int → Int → Int → Int × Int
  | [], s, n => (s, n)
  | x :: t, s, n => if 0 ≤ x then totW t (wrap64 (s + mn x 1000000)) (wrap64 (n + 1)) else totW t s n
theorem total_loop (l : List Int) (hl : l.length ≤ 4611686018427387904) : ∀ (d i : Nat) (s n : Int), i + d = l.length → Ev (fun k => matrix_Total.l0 k s n l (l.length : Int) (i : Int)) (totW (l.drop i) s n) := by
  intro d
  induction d with
  | zero =>
    intro i s n hi
    refine ev_now (fun k => ?_)
    rw [matrix_Total.l0.eq_2, if_neg (by omega), List.drop_of_length_le (by omega)]; rfl
  | succ d ih =>
    intro i s n hi
    have hlt : i < l.length := by omega
    rw [drop_cons hlt]
    simp only [totW]
    by_cases c : 0 ≤ l[i]
    · rw [if_pos c]
      refine Ev.step (fun k => ?_) (ih (i + 1) _ _ (by omega))
      rw [matrix_Total.l0.eq_2, if_pos (by omega), if_pos (by omega), if_pos (by omega), rdi_at hlt, wrap_next hlt hl, if_pos c]
    · rw [if_neg c]
      refine Ev.step (fun k => ?_) (ih (i + 1) _ _ (by omega))
      rw [matrix_Total.l0.eq_2, if_pos (by omega), if_pos (by omega), if_pos (by omega), rdi_at hlt, wrap_next hlt hl, if_neg c]
theorem total_ev (l : List Int) (hl : l.length ≤ 4611686018427387904) : Ev (fun k => matrix_Total.f k l) (totW l 0 0) := by
  unfold matrix_Total.f
  have := total_loop l hl l.length 0 0 0 (by omega)
  simpa using this

theorem column_loop (C : Mat) (i n : Nat) (hC : C.length ≤ 17592186044415) (hn : ∀ r ∈ C, r.length = n) (hi : i < n) : ∀ (d j : Nat), j + d = C.length →
    Ev (fun k => matrix_Column.l0 k (i : Int) (colOf (C.take j) i) C (C.length : Int) (j : Int)) (colOf C i, true) := by
  intro d
  induction d with
  | zero =>
    intro j hj
    refine ev_now (fun k => ?_)
    rw [matrix_Column.l0.eq_2, if_neg (by omega), List.take_of_length_le (by omega)]
  | succ d ih =>
    intro j hj
    have hlt : j < C.length := by omega
    have hr := hn C[j] (List.getElem_mem hlt)
    have hir : i < C[j].length := by omega
    refine Ev.step (fun k => ?_) (ih (j + 1) (by omega))
    rw [matrix_Column.l0.eq_2, if_pos (by omega), if_pos (by omega), if_pos (by omega), rdl_at hlt, if_neg (by omega), if_pos (by omega), if_pos (by omega), if_pos (by simp [colOf]; omega), rdi_at hir, wrap_next hlt (show C.length ≤ 4611686018427387904 by omega),
      List.take_succ_eq_append_getElem hlt]
    unfold colOf
    rw [List.map_append, List.map_singleton, List.getD_eq_getElem?_getD, List.getElem?_eq_getElem hir]; rfl
theorem column_ev {P I : List Int} {C : Mat} (hs : shapeB P I C = true) {i : Nat} (hi : i < I.length) (hC : C.length ≤ 17592186044415) : Ev (fun k => matrix_Column.f k P I C (i : Int)) (colOf C i, true) := by
  unfold matrix_Column.f
  refine ev_if (fun c => absurd c (by omega)) (fun _ => ?_)
  rw [decide_eq_false (show ¬ (i : Int) ≥ (I.length : Int) by omega)]
  refine Ev.step (f := fun k => matrix_Column.l0 k (i : Int) (colOf (C.take 0) i) C (C.length : Int) ((0 : Nat) : Int)) (fun k => by rw [matrix_Column.j0.eq_2, if_neg (by simp)]; rfl) ?_
  exact column_loop C i I.length hC (shape_iff.1 hs).2 hi C.length 0 (by omega)

theorem mark_loop (l : List Int) (hl : l.length ≤ 4611686018427387904) : ∀ (i : Nat), i ≤ l.length → noneLeft (l.drop i) = true → Ev (fun k => matrix_Mark.l0 k (markTo l i) ((i : Int) - 1)) (markL l) := by
  intro i
  induction i with
  | zero =>
    intro _ _
    refine Ev.step (f := fun k => matrix_Mark.j1 k (markTo l 0) (((0 : Nat) : Int) - 1) false) (fun k => by rw [matrix_Mark.l0.eq_2, if_neg (by omega)]) ?_
    refine ev_now (fun k => ?_)
    rw [matrix_Mark.j1.eq_2, if_neg (by simp), markTo_zero]
  | succ i ih =>
    intro hi hn
    have hlt : i < l.length := by omega
    have hlen := markTo_length l (i + 1) hi
    have hm : i < (markTo l (i + 1)).length := by omega
    have hat : rd (markTo l (i + 1)) (i : Int) = l[i] := by rw [rdi_at hm]; exact markTo_at hlt
    have e : (((i + 1 : Nat) : Int) - 1) = (i : Int) := by omega
    rw [e]
    refine Ev.step (f := fun k => matrix_Mark.j1 k (markTo l (i + 1)) (i : Int) (decide (l[i] < 0))) (fun k => by rw [matrix_Mark.l0.eq_2, if_pos (by omega), if_pos (by omega), if_pos (by omega), hat]) ?_
    by_cases c : l[i] < 0
    · have hn' : noneLeft (l.drop i) = true := by
        unfold noneLeft at hn ⊢
        rw [drop_cons hlt, List.all_cons, hn, decide_eq_true c]; rfl
      have h := ih (by omega) hn'
      have hnx := markTo_next hlt hn
      have hw : wrap64 ((i : Int) - 1) = (i : Int) - 1 := wrap_id (by omega) (by omega)
      rw [decide_eq_true c]
      refine Ev.step (fun k => ?_) h
      rw [matrix_Mark.j1.eq_2, if_pos rfl, if_pos (by omega), if_pos (by omega), hat, hw, hnx]
      by_cases c1 : l[i] = -1
      · rw [if_pos c1, if_pos c1]; rfl
      · rw [if_neg c1, if_neg c1]
    · rw [decide_eq_false c]
      refine ev_now (fun k => ?_)
      rw [matrix_Mark.j1.eq_2, if_neg (by simp), markTo_stop hlt (by omega)]
theorem mark_ev (l : List Int) (hl : l.length ≤ 17592186044415) : Ev (fun k => matrix_Mark.f k l) (markL l) := by
  unfold matrix_Mark.f slices_Clone_int_int.f
  refine ev_bindc (a := l) (by rw [if_pos (by omega)]) ?_
  have := mark_loop l (by omega) l.length (Nat.le_refl _) (by rw [List.drop_of_length_le (Nat.le_refl _)]; rfl)
  rw [markTo_all] at this
  rwa [wrap_id (by omega) (by omega)]

theorem sample_ev : examboardlaw24_sample.f = some ([1, 2], [7, 9], [[1, 0], [-1, 2]]) := rfl
theorem sample_merge : merM [1, 2] [7, 9] [[1, 0], [-1, 2]] [2] [8] [[0]] = ([1, 2], [7, 8, 9], [[1, -1, 0], [-1, 0, 2]], 0) := by
  unfold merM
  rw [show risen ([1, 2] ++ [2]) = [1, 2] from (risen_unique (by unfold Rising; decide) (fun x => by simp)).symm,
    show risen ([7, 9] ++ [8]) = [7, 8, 9] from (risen_unique (by unfold Rising; decide) (fun x => by simp; omega)).symm]
  decide
theorem awake_ev : Ev (fun k => examboardlaw24_awake.f k) true := by
  unfold examboardlaw24_awake.f
  refine ev_bindc sample_ev ?_
  refine Ev.bind (column_ev (P := [1, 2]) (I := [7, 9]) (C := [[1, 0], [-1, 2]]) (i := 0) (by decide) (by decide) (by decide)) ?_
  refine Ev.bind (total_ev _ (by decide)) ?_
  have ht : totW [1, -1, 2] 0 0 = (3, 2) := by simp [totW, wrap64, mn]
  rw [ht]
  refine ev_bindc sample_ev ?_
  refine Ev.bind (select_ev _ _ _ _ _ (by decide) (by decide) (by decide) (by decide) (by decide)) ?_
  rw [show selM [1, 2] [7, 9] [[1, 0], [-1, 2]] [2] [7, 9] = ([2], [7, 9], [[-1, 2]], 0) from by decide]
  refine ev_bindc sample_ev ?_
  refine Ev.bind (merge_ev _ _ _ _ _ _ (by decide) (by decide) (by decide) (by decide)) ?_
  rw [sample_merge]
  refine ev_if (fun _ => ?_) (fun c => absurd rfl c)
  refine Ev.bind (equal_ev _ _ (by decide)) ?_
  refine ev_if (fun _ => ?_) (fun c => absurd (by decide) c)
  refine ev_if (fun _ => ?_) (fun c => absurd rfl c)
  refine ev_if (fun _ => ?_) (fun c => absurd rfl c)
  refine ev_if (fun _ => ?_) (fun c => absurd rfl c)
  refine ev_if (fun _ => ?_) (fun c => absurd rfl c)
  refine Ev.bind (equal_self _ (by decide)) ?_
  refine ev_if (fun _ => ?_) (fun c => absurd rfl c)
  refine ev_if (fun _ => ?_) (fun c => absurd rfl c)
  refine Ev.step (fun k => by rw [show ((([[-1, 2]] : Mat).length : Int) != 1) = false from rfl, examboardlaw24_awake.j0.eq_2, if_neg (by simp)]) ?_
  refine ev_if (fun _ => ?_) (fun c => absurd (by decide) c)
  refine Ev.bind (equal_self _ (by decide)) ?_
  refine ev_if (fun _ => ?_) (fun c => absurd rfl c)
  refine ev_if (fun _ => ?_) (fun c => absurd (by decide) c)
  refine Ev.bind (equal_self _ (by decide)) ?_
  refine ev_if (fun _ => ?_) (fun c => absurd rfl c)
  refine ev_if (fun _ => ?_) (fun c => absurd (by decide) c)
  refine Ev.bind (equal_self _ (by decide)) ?_
  refine ev_if (fun _ => ?_) (fun c => absurd rfl c)
  refine ev_bindc sample_ev ?_
  refine Ev.bind (valid_ev _ _ _ _ (by decide) (by decide) (by decide)) ?_
  refine ev_if (fun _ => ?_) (fun c => absurd (by decide) c)
  refine ev_bindc sample_ev ?_
  refine Ev.bind (valid_ev _ _ _ _ (by decide) (by decide) (by decide)) ?_
  refine ev_if (fun _ => ?_) (fun c => absurd (by decide) c)
  refine Ev.bind (mark_ev _ (by decide)) ?_
  rw [show markL [1, -1, 0, -1] = [1, -1, 0, -2] from by decide]
  refine Ev.bind (equal_self _ (by decide)) ?_
  exact ev_const rfl

theorem lr_loop (l : List Int) (hl : l.length ≤ 4611686018427387904) : ∀ (d i : Nat), i + d = l.length → Ev (fun k => examboardlaw24_rising.l0 k l l (l.length : Int) (i : Int)) (riseP (prevOf l i) (l.drop i)) := by
  intro d
  induction d with
  | zero =>
    intro i hi
    refine ev_now (fun k => ?_)
    rw [examboardlaw24_rising.l0.eq_2, if_neg (by omega), List.drop_of_length_le (by omega)]; rfl
  | succ d ih =>
    intro i hi
    have hlt : i < l.length := by omega
    have hn := ih (i + 1) (by omega)
    rw [prev_next hlt] at hn
    rw [drop_cons hlt]
    simp only [riseP]
    refine Ev.step (f := fun k => if l[i] < 1 then some false else if l[i] ≤ prevOf l i then some false else examboardlaw24_rising.l0 k l l (l.length : Int) ((i + 1 : Nat) : Int)) (fun k => ?_) ?_
    · rw [examboardlaw24_rising.l0.eq_2, if_pos (by omega), if_pos (by omega), if_pos (by omega), rdi_at hlt, wrap_next hlt hl]
      by_cases c : l[i] < 1
      · rw [if_pos c, if_pos c]
      rw [if_neg c, if_neg c]
      by_cases h0 : 0 < i
      · rw [if_pos (by omega), wrap_prev hlt h0 hl, if_pos (by omega), if_pos (by omega), rdi_at (show i - 1 < l.length by omega), prev_pos hlt h0]
      · have : i = 0 := by omega
        subst this
        rw [if_neg (by omega), prev_zero, if_neg (by omega)]
    · refine ev_if (fun c => by rw [if_pos c]; exact Ev.now _) (fun c => ?_)
      rw [if_neg c]
      refine ev_if (fun c1 => by rw [if_pos c1]; exact Ev.now _) (fun c1 => ?_)
      rw [if_neg c1]
      exact hn
theorem lr_ev (l : List Int) (hl : l.length ≤ 4611686018427387904) : Ev (fun k => examboardlaw24_rising.f k l) (riseP 0 l) := by
  unfold examboardlaw24_rising.f
  have := lr_loop l hl l.length 0 (by omega)
  rw [prev_zero] at this
  simpa using this

def fitsB (P I : List Int) (C : Mat) : Bool := shapeB P I C && riseP 0 P && riseP 0 I
theorem fits_loop (P I : List Int) (C : Mat) (hC : C.length ≤ 4611686018427387904) : ∀ (d i : Nat), i + d = C.length → Ev (fun k => examboardlaw24_fits.l0 k C (C.length : Int) (i : Int) P I C) ((C.drop i).all (fun r => decide (r.length = I.length))) := by
  intro d
  induction d with
  | zero =>
    intro i hi
    refine ev_now (fun k => ?_)
    rw [examboardlaw24_fits.l0.eq_2, if_neg (by omega), List.drop_of_length_le (by omega)]; rfl
  | succ d ih =>
    intro i hi
    have hlt : i < C.length := by omega
    rw [drop_cons hlt, List.all_cons]
    refine Ev.step (f := fun k => if (C[i].length : Int) = (I.length : Int) then examboardlaw24_fits.l0 k C (C.length : Int) ((i + 1 : Nat) : Int) P I C else some false) (fun k => ?_) ?_
    · rw [examboardlaw24_fits.l0.eq_2, if_pos (by omega), if_pos (by omega), if_pos (by omega), rdl_at hlt, wrap_next hlt hC]
    · refine ev_if (fun c => ?_) (fun c => ?_)
      · rw [decide_eq_true (by omega), Bool.true_and]; exact ih (i + 1) (by omega)
      · rw [decide_eq_false (by omega), Bool.false_and]; exact Ev.now _
theorem fits_ev (P I : List Int) (C : Mat) (hP : P.length ≤ 4611686018427387904) (hI : I.length ≤ 4611686018427387904) (hC : C.length ≤ 4611686018427387904) : Ev (fun k => examboardlaw24_fits.f k P I C) (fitsB P I C) := by
  have j0t : Ev (fun k => examboardlaw24_fits.j0 k true P I C) false := ev_now (fun k => by rw [examboardlaw24_fits.j0.eq_2, if_pos rfl])
  unfold examboardlaw24_fits.f fitsB
  refine ev_if (fun c => ?_) (fun c => ?_)
  · refine Ev.bind (lr_ev P hP) ?_
    refine ev_if (fun c1 => ?_) (fun c1 => by rw [Bool.eq_false_iff.2 c1, Bool.and_false, Bool.false_and]; exact j0t)
    refine Ev.bind (lr_ev I hI) ?_
    rw [c1, Bool.and_true]
    cases c2 : riseP 0 I with
    | false => rw [Bool.and_false]; exact j0t
    | true =>
      rw [Bool.and_true]
      refine Ev.step (f := fun k => examboardlaw24_fits.l0 k C (C.length : Int) ((0 : Nat) : Int) P I C) (fun k => by rw [Bool.not_true, examboardlaw24_fits.j0.eq_2, if_neg (by simp)]; rfl) ?_
      have := fits_loop P I C hC C.length 0 (by omega)
      unfold shapeB
      rw [decide_eq_true (by omega), Bool.true_and]
      simpa using this
  · have : shapeB P I C = false := by unfold shapeB; rw [decide_eq_false (by omega), Bool.false_and]
    rw [this, Bool.false_and, Bool.false_and]
    exact j0t

theorem all_self (l : List Int) : l.all (fun x => decide (x ∈ l)) = true := by simp
theorem selM_all (P I : List Int) (C : Mat) : selM P I C P I = if shapeB P I C = false then ([], [], [], 1) else if riseP 0 P = false then ([], [], [], 23) else if riseP 0 I = false then ([], [], [], 23) else (P, I, C, 0) := by
  unfold selM
  split
  · rfl
  rename_i c0
  split
  · rfl
  rename_i c1
  rw [all_self, if_neg (by simp)]
  split
  · rfl
  rename_i c2
  rw [all_self, if_neg (by simp), grid_self (Bool.not_eq_false _ ▸ c0) (rise_iff.1 (Bool.not_eq_false _ ▸ c1)).2 (rise_iff.1 (Bool.not_eq_false _ ▸ c2)).2]
theorem selM_ok {P I : List Int} {C : Mat} {ps is : List Int} (h : (selM P I C ps is).2.2.2 = 0) : shapeB P I C = true ∧ riseP 0 ps = true ∧ (∀ p ∈ ps, p ∈ P) ∧ riseP 0 is = true ∧ (∀ i ∈ is, i ∈ I) ∧ selM P I C ps is = (ps, is, grid ps is (cellD P I C), 0) := by
  unfold selM at h
  split at h
  · cases h
  rename_i c0
  split at h
  · cases h
  rename_i c1
  split at h
  · cases h
  rename_i c2
  split at h
  · cases h
  rename_i c3
  split at h
  · cases h
  rename_i c4
  refine ⟨Bool.not_eq_false _ ▸ c0, Bool.not_eq_false _ ▸ c1, by simpa using c2, Bool.not_eq_false _ ▸ c3, by simpa using c4, ?_⟩
  unfold selM
  rw [if_neg c0, if_neg c1, if_neg c2, if_neg c3, if_neg c4]
theorem selM_err {P I : List Int} {C : Mat} {ps is : List Int} (h : (selM P I C ps is).2.2.2 ≠ 0) : (selM P I C ps is).1 = [] ∧ (selM P I C ps is).2.1 = [] ∧ (selM P I C ps is).2.2.1 = [] := by
  unfold selM at h ⊢
  split
  · simp
  rename_i c0
  rw [if_neg c0] at h
  split
  · simp
  rename_i c1
  rw [if_neg c1] at h
  split
  · simp
  rename_i c2
  rw [if_neg c2] at h
  split
  · simp
  rename_i c3
  rw [if_neg c3] at h
  split
  · simp
  rename_i c4
  rw [if_neg c4] at h
  exact absurd rfl h
theorem selM_grid {ps is qs js : List Int} {f : Int → Int → Int} (h1 : riseP 0 qs = true) (h2 : ∀ p ∈ qs, p ∈ ps) (h3 : riseP 0 js = true) (h4 : ∀ i ∈ js, i ∈ is) : selM ps is (grid ps is f) qs js = (qs, js, grid qs js f, 0) := by
  unfold selM
  rw [grid_shape, if_neg (by simp), h1, if_neg (by simp), if_neg (by simpa using h2), h3, if_neg (by simp), if_neg (by simpa using h4), grid_congr (fun p hp i hi => grid_cellD (h2 p hp) (h4 i hi))]
theorem grid_col {ps is : List Int} {f : Int → Int → Int} {i : Nat} (h : i < is.length) : colOf (grid ps is f) i = ps.map (fun p => f p is[i]) := by
  unfold colOf grid
  rw [List.map_map]
  refine List.map_congr_left fun p _ => ?_
  simp only [Function.comp_apply]
  rw [List.getD_eq_getElem?_getD, List.getElem?_map, List.getElem?_eq_getElem h]; rfl

theorem mer_range (P I : List Int) (C : Mat) (Q J : List Int) (D : Mat) : (merM P I C Q J D).1.length ≤ P.length + Q.length ∧ (merM P I C Q J D).2.1.length ≤ I.length + J.length ∧ (merM P I C Q J D).2.2.1.length ≤ P.length + Q.length ∧ ∀ r ∈ (merM P I C Q J D).2.2.1, r.length ≤ I.length + J.length := by
  have h1 := risen_length (P ++ Q)
  have h2 := risen_length (I ++ J)
  rw [List.length_append] at h1 h2
  unfold merM
  split
  · simp
  split
  · simp
  split
  · simp
  split
  · simp
  refine ⟨h1, h2, by unfold grid; simpa using h1, fun r hr => ?_⟩
  unfold grid at hr
  obtain ⟨p, _, rfl⟩ := List.mem_map.1 hr
  simpa using h2

theorem union_j1 (P I : List Int) (C : Mat) (Q J : List Int) (D : Mat) (hP : P.length ≤ 1048576) (hI : I.length ≤ 1048576) (hC : C.length ≤ 1048576) (hQ : Q.length ≤ 1048576) (hJ : J.length ≤ 1048576) (hD : D.length ≤ 1048576)
    (hr : ∀ r ∈ C, r.length ≤ 17592186044415) (hs : ∀ r ∈ D, r.length ≤ 17592186044415) : Ev (fun k => examboardlaw24_MatrixUnion.j1 k false P I C Q J D) true := by
  have h := mer_range P I C Q J D
  refine Ev.step (fun k => by rw [examboardlaw24_MatrixUnion.j1.eq_2, if_neg (by simp)]) ?_
  refine Ev.bind (merge_ev P I C Q J D (by omega) (by omega) (by omega) (by omega)) ?_
  refine Ev.bind (merge_ev Q J D P I C (by omega) (by omega) (by omega) (by omega)) ?_
  rw [merM_symm Q J D P I C]
  refine ev_if (fun _ => ?_) (fun c => absurd rfl c)
  refine Ev.bind (same_self _ _ _ (by omega) (by omega) (by omega) (fun r hr => by have := h.2.2.2 r hr; omega)) ?_
  refine Ev.step (fun k => by rw [Bool.not_true, examboardlaw24_MatrixUnion.j2.eq_2, if_neg (by simp)]) ?_
  refine ev_if (fun c => ?_) (fun _ => Ev.bind awake_ev (ev_const rfl))
  refine Ev.bind (select_ev _ _ _ P I (by omega) (by omega) (by omega) (by omega) (by omega)) ?_
  refine Ev.bind (select_ev _ _ _ Q J (by omega) (by omega) (by omega) (by omega) (by omega)) ?_
  rw [part_left c, part_right c]
  refine ev_if (fun _ => ?_) (fun c => absurd rfl c)
  refine ev_if (fun _ => ?_) (fun c => absurd rfl c)
  refine Ev.bind (same_self P I C (by omega) (by omega) (by omega) (fun r h => by have := hr r h; omega)) ?_
  refine ev_if (fun _ => ?_) (fun c => absurd rfl c)
  refine Ev.bind (same_self Q J D (by omega) (by omega) (by omega) (fun r h => by have := hs r h; omega)) ?_
  refine ev_if (fun _ => ?_) (fun c => absurd rfl c)
  exact Ev.bind awake_ev (ev_const rfl)
theorem union_j0 (P I : List Int) (C : Mat) (Q J : List Int) (D : Mat) (x7 : Bool) (h7 : x7 = decide (P.length ≤ 200 ∧ I.length ≤ 60)) (hP : P.length ≤ 1048576) (hI : I.length ≤ 1048576) (hC : C.length ≤ 1048576) (hr : ∀ r ∈ C, r.length ≤ 17592186044415)
    (rest : Ev (fun k => examboardlaw24_MatrixUnion.j1 k false P I C Q J D) true) :
    Ev (fun k => examboardlaw24_MatrixUnion.j0 k (merM P I C P I C).2.2.2 x7 P I C Q J D (merM P I C P I C).1 (merM P I C P I C).2.1 (merM P I C P I C).2.2.1) true := by
  rw [merM_self]
  refine Ev.step (fun k => by rw [examboardlaw24_MatrixUnion.j0.eq_2]) ?_
  refine Ev.bind (fits_ev P I C (by omega) (by omega) (by omega)) ?_
  unfold fitsB
  by_cases c0 : shapeB P I C = false
  · rw [if_pos c0, c0]
    refine ev_if (fun c => absurd c (by simp)) (fun _ => ?_)
    refine ev_if (fun c => absurd c (by simp)) (fun _ => ?_)
    refine ev_if (fun c => absurd c (by simp)) (fun _ => rest)
  rw [if_neg c0, show shapeB P I C = true from by simpa using c0]
  by_cases c1 : (riseP 0 P && riseP 0 I) = false
  · rw [if_pos c1, Bool.true_and, c1]
    refine ev_if (fun c => absurd c (by simp)) (fun _ => ?_)
    refine ev_if (fun c => absurd c (by simp)) (fun _ => ?_)
    refine ev_if (fun c => absurd c (by simp)) (fun _ => rest)
  rw [if_neg c1, Bool.true_and, show (riseP 0 P && riseP 0 I) = true from by simpa using c1]
  refine ev_if (fun _ => ?_) (fun c => absurd rfl c)
  by_cases c2 : 200 < P.length ∨ 60 < I.length
  · rw [if_pos c2, h7, decide_eq_false (by omega)]
    refine ev_if (fun c => absurd c (by simp)) (fun _ => ?_)
    refine ev_if (fun c => absurd c (by simp)) (fun _ => rest)
  · rw [if_neg c2, h7, decide_eq_true (by omega)]
    refine ev_if (fun c => absurd c (by simp)) (fun _ => ?_)
    refine ev_if (fun _ => ?_) (fun c => absurd rfl c)
    refine Ev.bind (same_self P I C (by omega) (by omega) (by omega) (fun r h => by have := hr r h; omega)) ?_
    exact rest
theorem MatrixUnion (P I : List Int) (C : Mat) (Q J : List Int) (D : Mat) (hP : P.length ≤ 1048576) (hI : I.length ≤ 1048576) (hC : C.length ≤ 1048576) (hQ : Q.length ≤ 1048576) (hJ : J.length ≤ 1048576) (hD : D.length ≤ 1048576)
    (hr : ∀ r ∈ C, r.length ≤ 17592186044415) (hs : ∀ r ∈ D, r.length ≤ 17592186044415) : ∃ k, examboardlaw24_MatrixUnion.f k P I C Q J D = some true := by
  have rest := union_j1 P I C Q J D hP hI hC hQ hJ hD hr hs
  refine Ev.rounds (g := fun k => examboardlaw24_MatrixUnion.f k P I C Q J D) ?_
  unfold examboardlaw24_MatrixUnion.f
  refine Ev.bind (merge_ev P I C P I C (by omega) (by omega) (by omega) (by omega)) ?_
  refine ev_if (fun c => ?_) (fun c => ?_)
  · exact union_j0 P I C Q J D _ (by rw [decide_eq_decide]; omega) hP hI hC hr rest
  · exact union_j0 P I C Q J D _ (by rw [eq_comm, decide_eq_false_iff_not]; omega) hP hI hC hr rest
end Go.Proofs.Ytgeplglggcoaiab.Pure
