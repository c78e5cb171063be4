/- An argument that can be read as data holds a Lean value: whole numbers, strings, slices and structs of these, to whatever depth. -/
import Derived.Test.YtgeplglggcoaiabWAll
import Derived.Deep.Slices
import Derived.SizedLaws
import Derived.WideShapes
import Derived.ChangeArms
namespace Go.Proofs.YtgeplglggcoaiabOpens
open Go.RowKit Go.Proofs.YtgeplglggcoaiabW.PrintWords Go.Deep

/-- Whatever reads as data of type t, of the reach's size, is a value of kind d of which φ holds. -/
structure Opens (P : Program) (t : TypeId) {α : Type} (d : Kd α) (φ : α → Prop) : Prop where
  out : ∀ {H : Type} {enc : TypeId × Value → H} {w : World} {base : Nat} {spare : Nat → Bool} {held : Bool} {fuel : Nat} {cs : List Value} {x : DataW H × List MemPlace},
    DataW.trod enc P w base spare held fuel t cs = some x → (∀ q ∈ x.1.weights P t, q ≤ reachBytes) → ∃ y : α, d.K w y cs ∧ φ y

theorem opens_int {P : Program} {t : TypeId} {k : IntKind} (ht : P.underlying t = some (.int k)) : Opens P t (Kd.int k) (fun n => (Lit.int k n).wf = true) := by
  refine ⟨?_⟩
  intro H enc w base spare held fuel cs x h _
  obtain ⟨n, rfl, _, hw⟩ := DataW.trod_int ht h
  exact ⟨n, rfl, hw⟩
theorem opens_string {P : Program} {t : TypeId} (ht : P.underlying t = some .string) : Opens P t Kd.string (fun s => s.size ≤ 140737488351232) := by
  refine ⟨?_⟩
  intro H enc w base spare held fuel cs x h hq
  obtain ⟨s, rfl, rfl, _⟩ := DataW.trod_string ht h
  refine ⟨s, rfl, ?_⟩
  have := hq s.data.toList.length (by simp [DataW.weights])
  simpa [reachBytes] using this

theorem opens_bool {P : Program} {t : TypeId} (ht : P.underlying t = some .bool) : Opens P t Kd.bool (fun _ => True) := by
  refine ⟨?_⟩
  intro H enc w base spare held fuel cs x h _
  obtain ⟨b, rfl, _⟩ := DataW.trod_bool ht h
  exact ⟨b, rfl, trivial⟩

theorem list_of {α : Type} {n : Nat} {p : Nat → α → Prop} (h : ∀ i, i < n → ∃ x, p i x) : ∃ l : List α, l.length = n ∧ ∀ i y, l[i]? = some y → p i y := by
  induction n with
  | zero => exact ⟨[], rfl, fun i y hi => by simp at hi⟩
  | succ n ih =>
    obtain ⟨l, hl, hp⟩ := ih (fun i hi => h i (Nat.lt_succ_of_lt hi))
    obtain ⟨x, hx⟩ := h n (Nat.lt_succ_self n)
    refine ⟨l ++ [x], by simp [hl], fun i y hi => ?_⟩
    rcases Nat.lt_or_ge i n with hlt | hge
    · rw [List.getElem?_append_left (by omega)] at hi
      exact hp i y hi
    · have hlt := (List.getElem?_eq_some_iff.1 hi).1
      rw [List.length_append, List.length_singleton] at hlt
      have : i = n := by omega
      subst this
      rw [List.getElem?_append_right (by omega), hl] at hi
      simp at hi
      rw [← hi]
      exact hx
theorem weightsAll_mem {H : Type} {P : Program} {e : TypeId} {d : DataW H} {l : List (DataW H)} (hd : d ∈ l) (q : Nat) (hq : q ∈ d.weights P e) : q ∈ DataW.weightsAll P e l := by
  induction l with
  | nil => cases hd
  | cons c r ih =>
    simp only [DataW.weightsAll, List.mem_append]
    rcases List.mem_cons.1 hd with rfl | hd
    · exact .inl hq
    · exact .inr (ih hd)

theorem opens_slice {P : Program} {t e : TypeId} {α : Type} {d : Kd α} {φ : α → Prop} {B : Nat} (ht : P.underlying t = some (.slice e)) (hs : d.sz = P.cellsOf e) (hB : P.bytesOf e = B) (he : Opens P e d φ) :
    Opens P t (Kd.slice e d) (fun l => l.length ≤ maxLen ∧ l.length * B ≤ 140737488351232 ∧ ∀ y ∈ l, φ y) := by
  refine ⟨?_⟩
  intro H enc w base spare held fuel cs x h hq
  rcases open_slice ht h with ⟨rfl, rfl⟩ | ⟨a, len, cap, m, n, D, Pl, rfl, hb, hl, hm, hmm, rfl, hx⟩
  · exact ⟨[], ⟨none, 0, rfl, Nat.le_refl _, Kd.C_nil d w⟩, by simp, by simp, by simp⟩
  · have hlm : len ≤ m := by rw [hmm]; split <;> omega
    have hw : ∀ i, i < len → ∀ q ∈ (D i).weights P e, q ≤ reachBytes := by
      intro i hi q hq'
      refine hq q ?_
      simp only [DataW.weights, ht]
      refine List.mem_cons_of_mem _ (List.mem_append_left _ ?_)
      exact weightsAll_mem (List.mem_map.2 ⟨i, List.mem_range.2 hi, rfl⟩) q hq'
    obtain ⟨l, hll, hp⟩ := list_of (n := len) (p := fun i (y : α) => φ y ∧ ∃ c, c.length = d.sz ∧ d.K w y c ∧ ∀ j u, c[j]? = some u → w.cell? (a.add (i * d.sz + j)) = some u) (fun i hi => by
      obtain ⟨cs', h1, h2⟩ := hx i (by omega)
      obtain ⟨y, hK, hφ⟩ := he.out h2 (hw i hi)
      obtain ⟨_, hlen, hcell⟩ := World.cells?_some h1
      refine ⟨y, hφ, cs', by rw [hs]; exact hlen, hK, fun j u hj => ?_⟩
      have hjl := (List.getElem?_eq_some_iff.1 hj).1
      have := hcell j (by omega)
      rw [Go.Deep.add_add] at this
      rw [hs, this, hj])
    have hcap : len ≤ maxLen := by omega
    refine ⟨l, ⟨some a, cap, by rw [hll], by omega, ⟨hll ▸ rfl, by rw [hll]; unfold maxLen at hcap; omega, fun _ => ⟨a, rfl, fun j p hj => ?_⟩⟩⟩, by rw [hll]; exact hcap, ?_, fun y hy => ?_⟩
    · obtain ⟨_, c, h1, h2, h3⟩ := hp j p hj
      exact ⟨c, h1, h2, h3⟩
    · have := hq ((len + (m - len)) * P.bytesOf e) (by simp [DataW.weights, ht])
      rw [hB] at this
      have h2 : l.length * B ≤ (len + (m - len)) * B := Nat.mul_le_mul_right _ (by omega)
      have h3 : reachBytes = 140737488351232 := rfl
      omega
    · obtain ⟨i, hi⟩ := List.mem_iff_getElem?.1 hy
      exact (hp i y hi).1

/-- Fields in line, from offset off to the end. -/
structure OpensSeq (P : Program) (fs : List Field) (off : Nat) {α : Type} (d : Kd α) (φ : α → Prop) : Prop where
  out : ∀ {H : Type} {enc : TypeId × Value → H} {w : World} {base : Nat} {spare : Nat → Bool} {held : Bool} {n : Nat} {cs : List Value} {xs : List (DataW H × List MemPlace)},
    xs.length = fs.length → (∀ (i : Nat) (f : Field), fs[i]? = some f → DataW.trod enc P w base spare held n f.type ((cs.drop f.offset).take (P.cellsOf f.type)) = xs[i]?) →
    (∀ q ∈ DataW.weightsEach P (fs.map (·.type)) (xs.map (·.1)), q ≤ reachBytes) → cs.length = off + d.sz → ∃ y : α, d.K w y (cs.drop off) ∧ φ y
theorem opens_last {P : Program} {f : Field} {off : Nat} {α : Type} {d : Kd α} {φ : α → Prop} (ho : f.offset = off) (hs : d.sz = P.cellsOf f.type) (h : Opens P f.type d φ) : OpensSeq P [f] off d φ := by
  refine ⟨?_⟩
  intro H enc w base spare held n cs xs hl hf hq hlen
  match xs, hl with
  | [x], _ =>
    have h0 := hf 0 f rfl
    rw [ho, ← hs, List.take_of_length_le (by rw [List.length_drop]; omega)] at h0
    exact h.out h0 (fun q hq' => hq q (by simp [DataW.weightsEach, hq']))
theorem opens_next {P : Program} {f : Field} {fs : List Field} {off off' : Nat} {α β : Type} {a : Kd α} {b : Kd β} {φ : α → Prop} {ψ : β → Prop} (ho : f.offset = off) (hs : a.sz = P.cellsOf f.type) (ho' : off' = off + a.sz)
    (h : Opens P f.type a φ) (hr : OpensSeq P fs off' b ψ) : OpensSeq P (f :: fs) off (Kd.pair a b) (fun y => φ y.1 ∧ ψ y.2) := by
  refine ⟨?_⟩
  intro H enc w base spare held n cs xs hl hf hq hlen
  have hpz : (Kd.pair a b).sz = a.sz + b.sz := rfl
  match xs, hl with
  | x :: xs, hl =>
    have h0 := hf 0 f rfl
    rw [ho, ← hs] at h0
    obtain ⟨y, hy, hφ⟩ := h.out h0 (fun q hq' => hq q (by simp [DataW.weightsEach, hq']))
    obtain ⟨z, hz, hψ⟩ := hr.out (cs := cs) (xs := xs) (by simpa using hl) (fun i g hg => by simpa using hf (i + 1) g (by simpa using hg)) (fun q hq' => hq q (by simp [DataW.weightsEach, hq'])) (by omega)
    refine ⟨(y, z), ⟨_, _, ?_, hy, hz⟩, hφ, hψ⟩
    rw [ho', ← List.drop_drop, List.take_append_drop]
/-- A struct that is an element, or a field. -/
theorem opens_struct {P : Program} {t : TypeId} {L : List Field} {α β : Type} {d : Kd β} {φ : β → Prop} {g : α → β} (ht : P.underlying t = some (.struct L.toArray)) (i : β → α) (hg : ∀ y, g (i y) = y) (hs : d.sz = P.cellsOf t) (h : OpensSeq P L 0 d φ) :
    Opens P t (Kd.iso d g) (fun x => φ (g x)) := by
  refine ⟨?_⟩
  intro H enc w base spare held fuel cs x hx hq
  obtain ⟨xs, n, rfl, rfl, hl, hlen, hf⟩ := DataW.trod_struct ht hx
  obtain ⟨y, hy, hφ⟩ := h.out (cs := cs) (xs := xs) (by simpa using hlen) (fun i f hi => hf i f (by simpa using hi)) (fun q hq' => hq q (by simpa [DataW.weights, ht] using hq')) (by omega)
  refine ⟨i y, ?_, by show φ (g (i y)); rw [hg]; exact hφ⟩
  show d.K w (g (i y)) cs
  rw [hg]
  simpa using hy

/-! ### Arguments -/
theorem arg_opens {H : Type} {enc : TypeId × Value → H} {P : Program} {w : World} {base : Nat} {spare : Nat → Bool} {held : Bool} {t : TypeId} {v : Value} {x : DataW H} {ps : List MemPlace} {ts : List TypeId} {ds : List (DataW H)} {j : Nat} {α : Type} {d : Kd α} {φ : α → Prop}
    (ho : Opens P t d φ) (hsz : (DataW.weightsEach P ts ds).all (· ≤ reachBytes) = true) (ht : ts[j]? = some t) (hd : ds[j]? = some x) (h : DataW.Trod enc P w base spare held t v x ps) : ∃ y : α, d.K w y v.cells.toList ∧ φ y := by
  obtain ⟨fuel, hf⟩ := h
  refine ho.out hf (fun q hq => ?_)
  have := List.all_eq_true.1 hsz _ (DataW.weights_mem_each ht hd q hq)
  simpa using this
theorem arg_seq {H : Type} {enc : TypeId × Value → H} {P : Program} {w : World} {base : Nat} {spare : Nat → Bool} {held : Bool} {t : TypeId} {v : Value} {x : DataW H} {ps : List MemPlace} {ts : List TypeId} {ds : List (DataW H)} {j : Nat} {L : List Field} {α : Type} {d : Kd α} {φ : α → Prop}
    (hu : P.underlying t = some (.struct L.toArray)) (hs : d.sz = P.cellsOf t) (ho : OpensSeq P L 0 d φ) (hsz : (DataW.weightsEach P ts ds).all (· ≤ reachBytes) = true) (ht : ts[j]? = some t) (hd : ds[j]? = some x) (h : DataW.Trod enc P w base spare held t v x ps) : ∃ y : α, d.K w y v.cells.toList ∧ φ y :=
  arg_opens (d := Kd.iso d (fun y => y)) (opens_struct hu (fun y => y) (fun _ => rfl) hs ho) hsz ht hd h
theorem agg_of {r : Reach} {P : Program} {w : World} {b0 : Nat} {t : TypeId} {fs : Array Field} {v : Value} (hu : P.underlying t = some (.struct fs)) (hv : Value.okWide P w r b0 t v) : v = .agg v.cells.toList.toArray := by
  obtain ⟨cs, rfl, _⟩ := Go.WideShapes.okWide_struct hu hv
  simp [Value.cells]
theorem slice_cells {r : Reach} {P : Program} {w : World} {b0 : Nat} {t e : TypeId} {v : Value} (hu : P.underlying t = some (.slice e)) (hv : Value.okWide P w r b0 t v) : v.cells.toList = [v] := by
  obtain ⟨a, l, c, rfl⟩ := Go.WideShapes.okWide_slice hu hv
  rfl
end Go.Proofs.YtgeplglggcoaiabOpens
