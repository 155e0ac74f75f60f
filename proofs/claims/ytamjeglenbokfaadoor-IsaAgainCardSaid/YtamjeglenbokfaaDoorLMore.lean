/- How bytes are read; bounds of a byte. -/
import Derived.Test.YtamjeglenbokfaaDoorLGl
import Derived.Test.YtamjeglenbokfaaDoorPIsa
namespace Go.Proofs.YtamjeglenbokfaaDoor.Q
open Go.RowKit Go.Proofs.YtamjeglenbokfaaDoorW.PrintWords Go.Proofs.YtamjeglenbokfaaDoor.Opn
theorem u8_bounds {x : Int} (h : (Lit.int .u8 x).wf = true) : 0 ≤ x ∧ x ≤ 255 := by
  simp [Lit.wf, IntKind.min, IntKind.max, IntKind.signed, IntKind.bits] at h
  omega
theorem wfI_of {i : S37} (h : (Lit.int .u8 i.f0).wf = true ∧ (Lit.int .u8 i.f1).wf = true ∧ (Lit.int .u8 i.f2).wf = true ∧ (Lit.int .u8 i.f3).wf = true) : wfI i :=
  ⟨u8_bounds h.1, u8_bounds h.2.1, u8_bounds h.2.2.1, u8_bounds h.2.2.2⟩
theorem opn22 {H : Type} {enc : TypeId × Value → H} {W : World} : Opn enc Tryd.prog W 22 (Kd.slice 5 (Kd.int .u8)) (fun l => ∀ y ∈ l, 0 ≤ y ∧ y ≤ 255) :=
  Opn.slice Tryd.underlying22 cells5 ((Opn.int Tryd.underlying5).imp fun _ h => u8_bounds h)
theorem opn23 {H : Type} {enc : TypeId × Value → H} {W : World} : Opn enc Tryd.prog W 23 (Kd.slice 37 k37) (fun l => ∀ y ∈ l, wfI y) :=
  Opn.slice Tryd.underlying23 cells37 (opn37.imp fun _ h => wfI_of h)
end Go.Proofs.YtamjeglenbokfaaDoor.Q
