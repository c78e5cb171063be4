/- A make of length 0 with a capacity of its own: a row of one's own that holds nothing. -/
import Derived.Test.YtgeplglggcoaiabWAll
namespace Go.Proofs.YtgeplglggcoaiabMakec
open Go Go.RowKit Go.Proofs.YtgeplglggcoaiabW.PrintWords Go.Proofs.YtgeplglggcoaiabW.PrintWords.Kd Go.Proofs.YtgeplglggcoaiabW.PrintLast Go.Proofs.YtgeplglggcoaiabW.PrintMore
section
variable {α : Type} {P : Program} {ops : Array Oper} {rest : List Oper} {o : Oper} {a : Act} {Q : Exit → Act → World → Prop}
theorem R_makec (d : Kd α) {w0 W : World} (base e : Nat) (hgd : o.guard = none) {N : Tmp} (_hd : o.dst = some N) (t : TypeId) (x y : Operand) (ho : o.op = .makeSlice t x y) (n : Int) (hx : a.eval x = .int .i64 0) (hy : a.eval y = .int .i64 n)
    (ht : P.underlying t = some (.slice e)) (z : Value) (bytes : Nat) (hinfo : (P.info? e).map (fun i => (i.zero, i.size, i.bytes)) = some (some z, d.sz, bytes)) (hz : z.cells.size = d.sz) (hs0 : 0 < d.sz) (hb0 : 0 < bytes)
    (z0 : α) {ok okp : Nat → Prop} (hzero : d.M W base okp z0 z.cells.toList) (hok : ∀ k, okp k → ok k) (hfresh : ok W.heap.size) (h0 : 0 ≤ n) (hl : n.toNat * bytes ≤ 281474976710656) (HB : Below base w0 W) (hbase : base ≤ W.heap.size)
    (h : ∀ v1 w1, d.R e w1 base ok v1 ([] : List α) → Below base w0 w1 → W.grownBy w1 none → (∃ b, v1.ownBlock = some b ∧ W.heap.size ≤ b) → wpList P ops Q rest (a.put o.dst v1) w1) : wpList P ops Q (o :: rest) a W := by
  obtain ⟨m, rfl⟩ := Int.eq_ofNat_of_zero_le h0
  simp only [Int.toNat_natCast] at hl
  obtain ⟨i0, hi, hzz⟩ := Option.map_eq_some_iff.1 hinfo
  simp only [Prod.mk.injEq] at hzz
  obtain ⟨hz0, hz1, hz2⟩ := hzz
  have hm : m ≤ 281474976710656 := Nat.le_trans (Nat.le_mul_of_pos_right _ hb0) hl
  have hr := run_make (P := P) W t e i0 z ht hi hz0 .i64 .i64 0 (m : Int) (by omega) (by omega)
    (by
      have h3 : ((i0.bytes * m : Nat) : Int) ≤ 281474976710656 := by rw [hz2, Nat.mul_comm]; omega
      rwa [Int.natCast_mul] at h3) (by omega)
  simp only [Int.toNat_natCast] at hr
  rw [hz1] at hr
  have hrep := reps_made (R := d.M W base okp) hz hs0 hzero m
  have hR : d.R e (W.alloc (.cells (madeCells z.cells (m * d.sz)) e)) base ok (.slice (some ⟨W.heap.size, 0, none⟩) m m) (List.replicate m z0) := by
    refine ⟨fun k hk => ?_, (madeCells z.cells (m * d.sz)).toList, ?_, ?_⟩
    · have : W.heap.size = k := by simpa [Value.ownBlock] using hk
      subst this
      exact hfresh
    · have h2 := World.ownsRow_lit (base := base) (e := e) (size := d.sz) W (madeCells z.cells (m * d.sz)) m hbase (by unfold maxLen; omega) (by simp [size_madeCells])
      simpa using h2
    · refine hrep.imp_ (fun p c hp => d.M_mono (fun k hk => ⟨hok k hk.1, fun he => ?_⟩) (M_below (d.M_bound hp) (below_alloc (Below.refl _ _) _)))
      have h3 : k = W.heap.size := by simpa [Value.ownBlock] using he
      have := hk.2.2.1
      omega
  have hT := Kd.R_take hR (m := 0) (Nat.zero_le _)
  rw [List.take_zero] at hT
  refine Kd.event_run hgd (v := .slice (some ⟨W.heap.size, 0, none⟩) 0 m) (w1 := W.alloc (.cells (madeCells z.cells (m * d.sz)) e)) ?_ (h _ _ hT (HB.alloc hbase _) (World.grownBy_alloc W _ none) ⟨W.heap.size, by simp [Value.ownBlock], Nat.le_refl _⟩)
  simp [execOp, ho, hx, hy, hr]
end
/-! Short names, for texts that are long -/
theorem Ra {α : Type} {d : Kd α} {e base : Nat} {w : World} {ok : Nat → Prop} {v : Value} {xs : List α} (h : d.R e w base ok v xs) (o : Obj) : d.R e (w.alloc o) base ok v xs := Kd.R_alloc h o
theorem Rn {α : Type} {d : Kd α} {e base : Nat} {w : World} {ok : Nat → Prop} {v : Value} {xs : List α} (h : d.R e w base ok v xs) (m : Nat) : d.R e (w.drewN m) base ok v xs := Kd.R_drewN h m
theorem Rd {α : Type} {d : Kd α} {e base : Nat} {w : World} {ok : Nat → Prop} {v : Value} {xs : List α} (h : d.R e w base ok v xs) : d.R e w.drew base ok v xs := Kd.R_drew h
theorem Na {α : Type} {d : Kd α} {e base : Nat} {w : World} {ok : Nat → Prop} {v : Value} {xs : List α} (h : Kd.N d e w base ok v xs) (o : Obj) : Kd.N d e (w.alloc o) base ok v xs := Kd.N_alloc h o
theorem Nn {α : Type} {d : Kd α} {e base : Nat} {w : World} {ok : Nat → Prop} {v : Value} {xs : List α} (h : Kd.N d e w base ok v xs) (m : Nat) : Kd.N d e (w.drewN m) base ok v xs := Kd.N_drewN h m
theorem Nd {α : Type} {d : Kd α} {e base : Nat} {w : World} {ok : Nat → Prop} {v : Value} {xs : List α} (h : Kd.N d e w base ok v xs) : Kd.N d e w.drew base ok v xs := Kd.N_drew h
theorem Am {p : Prop} (h : p) : Aside0 p := ⟨h⟩
/-! A world that came of another by makes and draws alone: found by its form. -/
class Gr (w w' : World) : Prop where
  out : ∀ Q : World → Prop, (∀ v o, Q v → Q (v.alloc o)) → (∀ v m, Q v → Q (v.drewN m)) → (∀ v, Q v → Q v.drew) → Q w → Q w'
instance Gr_refl (w : World) : Gr w w := ⟨fun _ _ _ _ h => h⟩
instance Gr_alloc (w w' : World) (o : Obj) [g : Gr w w'] : Gr w (w'.alloc o) := ⟨fun Q a b c h => a _ _ (g.out Q a b c h)⟩
instance Gr_drewN (w w' : World) (m : Nat) [g : Gr w w'] : Gr w (w'.drewN m) := ⟨fun Q a b c h => b _ _ (g.out Q a b c h)⟩
instance Gr_drew (w w' : World) [g : Gr w w'] : Gr w w'.drew := ⟨fun Q a b c h => c _ (g.out Q a b c h)⟩
section
variable {α : Type} {d : Kd α} {e base : Nat} {w w' : World} {ok : Nat → Prop} {v : Value} {xs : List α}
theorem Rm (h : d.R e w base ok v xs) [g : Gr w w'] : d.R e w' base ok v xs := g.out (fun x => d.R e x base ok v xs) (fun _ o h => Kd.R_alloc h o) (fun _ m h => Kd.R_drewN h m) (fun _ h => Kd.R_drew h) h
theorem Nm (h : Kd.N d e w base ok v xs) [g : Gr w w'] : Kd.N d e w' base ok v xs := g.out (fun x => Kd.N d e x base ok v xs) (fun _ o h => Kd.N_alloc h o) (fun _ m h => Kd.N_drewN h m) (fun _ h => Kd.N_drew h) h
theorem Cm {A : Option Addr} {n : Nat} (h : d.C w A n xs) [g : Gr w w'] : d.C w' A n xs := g.out (fun x => d.C x A n xs) (fun _ o h => Kd.C_alloc h o) (fun _ m h => Kd.C_drewN h m) (fun _ h => Kd.C_drew h) h
theorem Rl (h : Aside0 (d.R e w base ok v xs)) [Gr w w'] : d.R e w' base ok v xs := Rm h.out
theorem Nl (h : Aside0 (Kd.N d e w base ok v xs)) [Gr w w'] : Kd.N d e w' base ok v xs := Nm h.out
theorem Cl {A : Option Addr} {n : Nat} (h : Aside0 (d.C w A n xs)) [Gr w w'] : d.C w' A n xs := Cm h.out
/-- No elder row's block is newer. -/
theorem Rb (h : Aside0 (d.R e w base ok v xs)) [Gr w w'] : ∀ k, v.ownBlock = some k → k < w'.heap.size := Kd.R_lt (Rl h)
theorem Nb (h : Aside0 (Kd.N d e w base ok v xs)) [Gr w w'] : ∀ k, v.ownBlock = some k → k < w'.heap.size := Kd.N_lt (Nl h)
end
theorem Bl {w0 w w' : World} (h : Aside0 (Below w0.heap.size w0 w)) [g : Gr w w'] : Below w0.heap.size w0 w' := g.out (fun x => Below w0.heap.size w0 x) (fun _ o h => below_alloc h o) (fun _ m h => pw_below_drewN h m) (fun _ h => below_drew1 h) h.out
theorem Kl {g : Nat} {o : Obj} {w w' : World} (h : Aside0 (w.heap[g]? = some o)) [i : Gr w w'] : w'.heap[g]? = some o := i.out (fun x => x.heap[g]? = some o) (fun _ o' h => blk_alloc h o') (fun _ m h => blk_drewN h m) (fun _ h => blk_drew h) h.out
theorem Km {g : Nat} {o : Obj} {w w' : World} (h : w.heap[g]? = some o) [i : Gr w w'] : w'.heap[g]? = some o := Kl ⟨h⟩
section
variable {α : Type} {d : Kd α} {e base : Nat} {w w' : World} {ok : Nat → Prop} {v : Value} {xs : List α}
theorem Sm (h : Kd.S d e w base ok v xs) [g : Gr w w'] : Kd.S d e w' base ok v xs := g.out (fun x => Kd.S d e x base ok v xs) (fun _ o h => Kd.S_alloc h o) (fun _ m h => Kd.S_drewN h m) (fun _ h => Kd.S_drew h) h
theorem Sl (h : Aside0 (Kd.S d e w base ok v xs)) [Gr w w'] : Kd.S d e w' base ok v xs := Sm h.out
theorem Sb (h : Aside0 (Kd.S d e w base ok v xs)) [Gr w w'] : ∀ k, v.ownBlock = some k → k < w'.heap.size := Kd.S_lt (Sl h)
end
/-! The same, where the world before is to be found. -/
class Gp (w : outParam World) (w' : World) : Prop where
  out : Gr w w'
instance Gp_refl (w : World) : Gp w w := ⟨Gr_refl w⟩
instance Gp_alloc (w w' : World) (o : Obj) [g : Gp w w'] : Gp w (w'.alloc o) := ⟨⟨fun Q a b c h => a _ _ (g.out.out Q a b c h)⟩⟩
instance Gp_drewN (w w' : World) (m : Nat) [g : Gp w w'] : Gp w (w'.drewN m) := ⟨⟨fun Q a b c h => b _ _ (g.out.out Q a b c h)⟩⟩
instance Gp_drew (w w' : World) [g : Gp w w'] : Gp w w'.drew := ⟨⟨fun Q a b c h => c _ (g.out.out Q a b c h)⟩⟩
theorem Kp {g : Nat} {o : Obj} {w w' : World} [i : Gp w w'] (h : w.heap[g]? = some o) : w'.heap[g]? = some o := @Km g o w w' h i.out
theorem Bp {w0 w w' : World} [i : Gp w w'] (h : Below w0.heap.size w0 w) : Below w0.heap.size w0 w' := @Bl w0 w w' ⟨h⟩ i.out
end Go.Proofs.YtgeplglggcoaiabMakec
