/- What the listed variable 'uses' holds, as a fact on a world that stays while only new memory is made. -/
import Derived.Test.YtamjeglenbokfaaDoorQ0
namespace Go.Proofs.YtamjeglenbokfaaDoor.Q
open Go.RowKit Go.Proofs.YtamjeglenbokfaaDoorW.PrintWords Go.Proofs.YtamjeglenbokfaaDoorW.PrintLast Go.Proofs.YtamjeglenbokfaaDoorW.PrintMore

def usesL : List Int := [0, 5, 3, 3, 3, 3, 3, 3, 5]
/-- The cells of the variable 'uses' (block 0). -/
structure GL (w : World) : Prop where
  cells : ∀ j, j < 9 → w.cell? ⟨0, j, none⟩ = some (.int .u8 (usesL.getD j 0))
theorem GL.below {w w1 : World} (h : GL w) (hb : Below w.heap.size w w1) : GL w1 := ⟨fun j hj => pw_cell_below hb (h.cells j hj)⟩
theorem GL.alloc {w : World} (h : GL w) (o : Obj) : GL (w.alloc o) := h.below (below_alloc (Below.refl _ _) o)
theorem GL.drewN {w : World} (h : GL w) (n : Nat) : GL (w.drewN n) := h.below (pw_below_drewN (Below.refl _ _) n)
theorem GL.drew {w : World} (h : GL w) : GL w.drew := h.below (below_drew (Below.refl _ _))
end Go.Proofs.YtamjeglenbokfaaDoor.Q
