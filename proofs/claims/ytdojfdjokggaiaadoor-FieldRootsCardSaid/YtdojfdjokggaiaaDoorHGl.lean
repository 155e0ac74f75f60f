/- What the listed variables of the program hold, as facts on a world that stay while only new memory is made: the numbers of the four fields. -/
import Derived.Test.YtdojfdjokggaiaaDoorQ0
namespace Go.Proofs.YtdojfdjokggaiaaDoor.Q
open Go.RowKit Go.Proofs.YtdojfdjokggaiaaDoorW.PrintWords Go.Proofs.YtdojfdjokggaiaaDoorW.PrintLast Go.Proofs.YtdojfdjokggaiaaDoorW.PrintMore

/-- The numbers of the fields: P, generator, twos, exponent, the odd primes of P - 1. -/
def fp (f : Int) : Int := if f = 0 then 97 else if f = 1 then 257 else if f = 2 then 12289 else if f = 3 then 998244353 else 0
def fg (f : Int) : Int := if f = 0 then 5 else if f = 1 then 3 else if f = 2 then 11 else if f = 3 then 3 else 0
def ft (f : Int) : Int := if f = 0 then 5 else if f = 1 then 8 else if f = 2 then 12 else if f = 3 then 23 else 0
def fe (f : Int) : Int := if f = 0 then 5 else if f = 1 then 3 else if f = 2 then 5 else if f = 3 then 3 else 0
def fl (f : Int) : List Int := if f = 0 then [3] else if f = 1 then [] else if f = 2 then [3] else if f = 3 then [7, 17] else []
/-- The cells of the variable 'fields'. -/
structure GL (w : World) : Prop where
  c0 : ∀ f : Nat, f < 4 → w.cell? ⟨0, 5 * f, none⟩ = some (.int .u64 (fp f))
  c1 : ∀ f : Nat, f < 4 → w.cell? ⟨0, 5 * f + 1, none⟩ = some (.int .u64 (fg f))
  c2 : ∀ f : Nat, f < 4 → w.cell? ⟨0, 5 * f + 2, none⟩ = some (.int .i64 (ft f))
  c3 : ∀ f : Nat, f < 4 → w.cell? ⟨0, 5 * f + 3, none⟩ = some (.int .i64 (fe f))
  c4 : ∀ f : Nat, f < 4 → ∃ A c, w.cell? ⟨0, 5 * f + 4, none⟩ = some (.slice A (fl f).length c) ∧ (fl f).length ≤ c ∧ Kd.C (Kd.int .u64) w A (fl f).length (fl f)
theorem GL.below {w w1 : World} (h : GL w) (hb : Below w.heap.size w w1) : GL w1 :=
  ⟨fun f hf => pw_cell_below hb (h.c0 f hf), fun f hf => pw_cell_below hb (h.c1 f hf), fun f hf => pw_cell_below hb (h.c2 f hf), fun f hf => pw_cell_below hb (h.c3 f hf), fun f hf => by
    obtain ⟨A, c, e, hl, hC⟩ := h.c4 f hf
    exact ⟨A, c, pw_cell_below hb e, hl, Kd.C_below hC hb⟩⟩
theorem GL.alloc {w : World} (h : GL w) (o : Obj) : GL (w.alloc o) := h.below (below_alloc (Below.refl _ _) o)
theorem GL.drewN {w : World} (h : GL w) (n : Nat) : GL (w.drewN n) := h.below (pw_below_drewN (Below.refl _ _) n)
theorem GL.drew {w : World} (h : GL w) : GL w.drew := h.below (below_drew (Below.refl _ _))
end Go.Proofs.YtdojfdjokggaiaaDoor.Q
