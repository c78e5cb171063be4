/- Words on rows of int beside the sort's and Compact's contracts: what they leave is again a row of the call's own. -/
import Derived.Test.YtgeplglggcoaiabWAll
import Derived.Sort.OwnSortedInts
namespace Go.Proofs.YtgeplglggcoaiabGiven
open Go.RowKit Go.Proofs.YtgeplglggcoaiabW.PrintWords Go.Proofs.YtgeplglggcoaiabW.PrintLast Go.Proofs.YtgeplglggcoaiabW.PrintMore Go.Sort

theorem ints_open {w : World} {e base : Nat} {P : Nat → Prop} {u : Value} {l : List Int} (h : Kd.R (Kd.int .i64) e w base P u l) :
    (u = .slice none 0 0 ∧ l = []) ∨ ∃ g cap cur, u = .slice (some ⟨g, 0, none⟩) l.length cap ∧ base ≤ g ∧ w.heap[g]? = some (.cells cur e (0, 0)) ∧ l.length ≤ cap ∧ cap ≤ maxLen ∧ cur.size = cap * 1 ∧ cur.toList.take l.length = l.map (Value.int .i64) ∧ P g ∧ g < w.heap.size := by
  have ho := Kd.own_of_R h
  rcases ho.2 with ⟨rfl, h0⟩ | ⟨g, cap, cur, rfl, hb, hh, h1, h2, h3, h4⟩
  · exact .inl ⟨rfl, List.eq_nil_of_length_eq_zero h0⟩
  · refine .inr ⟨g, cap, cur, rfl, hb, hh, h1, h2, h3, ?_, h.1 g rfl, (Array.getElem?_eq_some_iff.1 hh).1⟩
    rw [Nat.mul_one] at h4
    exact h4

/-- A row whose block now holds other whole numbers at its begin. -/
theorem ints_put {w w' : World} {e base g cap n m : Nat} {cur : Array Value} {P : Nat → Prop} {os : Array Obj} {ts : List Int} (hw : w' = grow (putRow (Value.int .i64) (Sort.ahead w n) g 0 ts.toArray) os)
    (hb : base ≤ g) (hh : w.heap[g]? = some (.cells cur e (0, 0))) (h1 : ts.length ≤ cap) (h2 : cap ≤ maxLen) (h3 : cur.size = cap * 1) (hP : P g) (hm : m ≤ ts.length) :
    Kd.R (Kd.int .i64) e w' base P (.slice (some ⟨g, 0, none⟩) m cap) (ts.take m) := by
  subst hw
  have ho := ownsRow_sortedI (w := w) (n := n) (os := os) (ss := ts) (ts := ts) rfl hb hh h1 h2 h3
  have hR : Kd.R (Kd.int .i64) e (grow (putRow (Value.int .i64) (Sort.ahead w n) g 0 ts.toArray) os) base P (.slice (some ⟨g, 0, none⟩) ts.length cap) ts :=
    Kd.R_of_own ho (fun k hk => by have : g = k := by simpa [Value.ownBlock] using hk
                                   subst this; exact hP)
  exact Kd.R_take hR hm

/-- What such a step leaves as it was. -/
theorem ints_below {w0 w w' : World} {g n : Nat} {os : Array Obj} {ts : List Int} (hw : w' = grow (putRow (Value.int .i64) (Sort.ahead w n) g 0 ts.toArray) os) (hB : Below w0.heap.size w0 w) (hg : w0.heap.size ≤ g) : Below w0.heap.size w0 w' := by
  subst hw
  exact hB.grown (grownBy_sortedI _) hB.size (fun k hk => by injection hk with hk; omega)
theorem ints_kept {w w' : World} {g n : Nat} {os : Array Obj} {ts : List Int} {P : Nat → Prop} (hw : w' = grow (putRow (Value.int .i64) (Sort.ahead w n) g 0 ts.toArray) os) (hP : P g) : Kept w w' P := by
  subst hw
  refine Kept.of_grown (grownBy_sortedI _) (Kept.refl w P) (fun k hk => .inl ?_)
  injection hk with hk
  rw [← hk]; exact hP

end Go.Proofs.YtgeplglggcoaiabGiven
