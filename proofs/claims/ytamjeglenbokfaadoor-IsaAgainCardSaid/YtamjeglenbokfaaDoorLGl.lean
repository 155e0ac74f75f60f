/- From the card's condition on the variable 'uses' to the fact that the contracts ask; how a program (a slice of instructions) is read. -/
import Derived.Test.YtamjeglenbokfaaDoorRows
import Derived.Test.YtamjeglenbokfaaDoorHGl
import Derived.Test.YtamjeglenbokfaaDoorOpn
import Derived.ProofKit
import Derived.LaidMore
import Derived.OpenShut
import Derived.Lib.SmallJoins
import Derived.Stop.Joined
namespace Go.Proofs.YtamjeglenbokfaaDoor.Q
open Go.ChangeShapes Go.WideShapes Go.ChangeAt Go.WideMaps Go.WideElems Go.RowKit
open Go.Proofs.YtamjeglenbokfaaDoorW.PrintWords Go.Proofs.YtamjeglenbokfaaDoorW.PrintLast Go.Proofs.YtamjeglenbokfaaDoorW.PrintMore
open Go.Proofs.YtamjeglenbokfaaDoor.Opn
set_option linter.unusedVariables false

theorem gUses : Tryd.prog.globalNamed "attestor/isa.uses" = some 0 := by kernel_rfl
theorem tUses : (Tryd.prog.globals[0]?).map (·.type) = some 58 := by kernel_rfl
abbrev laid1 : List (String × DataW Unit) := [("attestor/isa.uses", Rows.laid_attestor_isa_uses)]
theorem cells5 : Tryd.prog.cellsOf 5 = 1 := by kernel_rfl
/-- The condition gives the fact. -/
theorem gl_of_laid {W : World} (h : laidMetH Tryd.prog laid1 W) : GL W := by
  rw [MakeChecks.laidMetH_plain _ _ _ (by kernel_rfl)] at h
  obtain ⟨ps, ⟨g0, t0, cs0, f0, p0, q0, hg0, ht0, hv0, hd0, _, _⟩, _, _⟩ := h
  obtain rfl := Option.some.inj (gUses.symm.trans hg0)
  obtain rfl := Option.some.inj (tUses.symm.trans ht0)
  obtain ⟨xs, m1, rfl, hx1, hlen, hn, hel⟩ := DataW.trod_array Tryd.underlying58 hd0
  simp only [Prod.mk.injEq, Rows.laid_attestor_isa_uses, DataW.agg.injEq] at hx1
  refine ⟨fun j hj => ?_⟩
  have hj1 := hel j hj
  rw [List.getElem?_eq_getElem (by omega : j < xs.length)] at hj1
  obtain ⟨k, e1, e2, _⟩ := DataW.trod_int Tryd.underlying5 hj1
  have hv := World.var?_cell hg0 hv0 j
  have hk : k = usesL.getD j 0 := by
    have : (xs.map (·.1))[j]? = some (.lit (.int .u8 k)) := by rw [List.getElem?_map, List.getElem?_eq_getElem (by omega : j < xs.length), Option.map_some, e2]
    rw [← hx1.1] at this
    rcases (show j = 0 ∨ j = 1 ∨ j = 2 ∨ j = 3 ∨ j = 4 ∨ j = 5 ∨ j = 6 ∨ j = 7 ∨ j = 8 by omega) with rfl | rfl | rfl | rfl | rfl | rfl | rfl | rfl | rfl <;> simpa [usesL] using this.symm
  rw [hv, ← hk]
  rw [cells5, Nat.mul_one] at e1
  have : (cs0.toList.drop j)[0]? = some (.int .u8 k) := by
    have h2 : ((cs0.toList.drop j).take 1)[0]? = some (.int .u8 k) := by rw [e1]; rfl
    rwa [List.getElem?_take, if_pos (by omega)] at h2
  rw [List.getElem?_drop, Nat.add_zero] at this
  simpa using this
/-- The door's own heap meets the condition. -/
theorem door_met (os : Os) (args : Array Value) : laidMetH Tryd.prog laid1 ((World.doorLaid Tryd.prog 400 os).forCall (fun _ _ => 0) ⟨#[], args, []⟩).memory :=
  laidMetH_of_parts3 (fuel := 8) (laidMet_of_run' 8 (by kernel_rfl) (by kernel_rfl)) (by kernel_rfl) (by kernel_rfl)

theorem own : ownKnob Tryd.prog.godebug = Option.none := by kernel_rfl
theorem laidOut : laidOutB Tryd.prog = true := by kernel_rfl
theorem cells37 : Tryd.prog.cellsOf 37 = 4 := by kernel_rfl
theorem cells35 : Tryd.prog.cellsOf 35 = 1 := by kernel_rfl
/-- An instruction, as it is read. -/
theorem opn37 {H : Type} {enc : TypeId × Value → H} {W : World} : Opn enc Tryd.prog W 37 k37 (fun i => (Lit.int .u8 i.f0).wf = true ∧ (Lit.int .u8 i.f1).wf = true ∧ (Lit.int .u8 i.f2).wf = true ∧ (Lit.int .u8 i.f3).wf = true) := by
  intro fuel cs x h
  obtain ⟨xs, n, rfl, _, hl, hn, hf⟩ := DataW.trod_struct Tryd.underlying37 h
  rw [cells37] at hl
  match cs, hl with
  | [c0, c1, c2, c3], _ =>
    have e0 : DataW.trod enc Tryd.prog W 0 (fun _ => true) true n 35 (([c0, c1, c2, c3].drop 0).take (Tryd.prog.cellsOf 35)) = xs[0]? := hf 0 _ rfl
    have e1 : DataW.trod enc Tryd.prog W 0 (fun _ => true) true n 5 (([c0, c1, c2, c3].drop 1).take (Tryd.prog.cellsOf 5)) = xs[1]? := hf 1 _ rfl
    have e2 : DataW.trod enc Tryd.prog W 0 (fun _ => true) true n 5 (([c0, c1, c2, c3].drop 2).take (Tryd.prog.cellsOf 5)) = xs[2]? := hf 2 _ rfl
    have e3 : DataW.trod enc Tryd.prog W 0 (fun _ => true) true n 5 (([c0, c1, c2, c3].drop 3).take (Tryd.prog.cellsOf 5)) = xs[3]? := hf 3 _ rfl
    have x4 : xs.length = 4 := hn
    rw [cells35, List.getElem?_eq_getElem (by omega)] at e0
    rw [cells5, List.getElem?_eq_getElem (by omega)] at e1 e2 e3
    obtain ⟨a0, r0, _, w0⟩ := DataW.trod_int Tryd.underlying35 e0
    obtain ⟨a1, r1, _, w1⟩ := DataW.trod_int Tryd.underlying5 e1
    obtain ⟨a2, r2, _, w2⟩ := DataW.trod_int Tryd.underlying5 e2
    obtain ⟨a3, r3, _, w3⟩ := DataW.trod_int Tryd.underlying5 e3
    replace r0 : c0 = .int .u8 a0 := by simpa using r0
    replace r1 : c1 = .int .u8 a1 := by simpa using r1
    replace r2 : c2 = .int .u8 a2 := by simpa using r2
    replace r3 : c3 = .int .u8 a3 := by simpa using r3
    subst r0; subst r1; subst r2; subst r3
    exact ⟨⟨a0, a1, a2, a3⟩, k37_mk W ⟨a0, a1, a2, a3⟩, w0, w1, w2, w3⟩
end Go.Proofs.YtamjeglenbokfaaDoor.Q
