/- Several texts in one, in build order. What they prove, each by its own first remark:
For all arguments attestorlaw07.TreeClashes returns true and leaves them as they were, where the package-level variables hold what the program's text lays (the card ties that): no other condition. -/
import Derived.Test.YtpnpmeogffodgaaDoorM2
import Derived.Test.YtpnpmeogffodgaaDoorM5
import Derived.Test.YtpnpmeogffodgaaDoorM6
import Derived.Test.YtpnpmeogffodgaaDoorCards
import Derived.Test.YtpnpmeogffodgaaDoorTie
import Derived.SevenTiedAt
import Derived.SizedLaws
import Derived.ShutString
import Derived.ChangeOld
import Derived.ProofKit
import Derived.Below
import Derived.OpenShut
section
namespace Go.Proofs.YtpnpmeogffodgaaDoor.Q
open Go.ChangeShapes Go.WideShapes Go.ChangeAt Go.WideMaps Go.WideElems Go.RowKit
open Go.Proofs.YtpnpmeogffodgaaDoorW.PrintWords Go.Proofs.YtpnpmeogffodgaaDoorW.PrintLast Go.Proofs.YtpnpmeogffodgaaDoorW.PrintMore
open Go.Proofs.YtpnpmeogffodgaaDoor.Opn
set_option linter.unusedVariables false

set_option maxRecDepth 100000 in
theorem treeClashes_lifted (os : Os) (started : os.Started) (H : Type) (enc : TypeId × Value → H) :
    ReturnsInHanded {} Tryd.checked os 7 .any (fun w args => (Rows.treeClashesSpec.pre enc Tryd.prog Tryd.f7 [] false w args ∧ laidMetH Tryd.prog laid1 w) ∧ sizedMet enc Tryd.prog Tryd.f7 (OpenSpec.ofChange Rows.treeClashesSpec) false w args)
      (Rows.treeClashesSpec.post enc Tryd.prog Tryd.f7 false true false false) := by
  refine returnsInHanded_of_change_and (C := Tryd.checked) (X := (fun w _ => laidMetH Tryd.prog laid1 w)) (fun _ _ _ hh h => h.of_heap hh) own started (by kernel_rfl) Tryd.func7
    (ChangeSpec.witness_shaped (enc := enc) (C := Tryd.checked) (os := os) (X := (fun w _ => laidMetH Tryd.prog laid1 w)) false (World.doorLaid Tryd.prog 400 os) #[.int .i64 0, .agg #[.int .i64 0, .int .u64 0, .int .u64 0, .int .u64 0, .int .u64 0, .slice none 0 0, .slice none 0 0]] 8 rfl (World.shaped_of_RefB (by kernel_rfl) (by kernel_rfl)) (by kernel_rfl) (by kernel_rfl) (by kernel_rfl) (door_met os _)) ?_
  intro W base args ds gs before hval0 hW _ _ hL _
  have hval : ∀ (j : Nat) t v, Tryd.f7.params[j]? = some t → args[j]? = some v → Value.okWide Tryd.prog W .any base t v := hval0
  have hW' := hW
  obtain ⟨p, q, hA0, hV, rfl, hfz, hnd⟩ := hW
  have hA : DataW.TrodAll enc Tryd.prog W 0 (fun _ => true) true Tryd.f7.params.toList args.toList ds p := hA0
  rw [Tryd.params7] at hA hval
  obtain ⟨v0, vs0, d0, ds0, p0, q0, hargs, rfl, rfl, h0, r0⟩ := trodAll_cons hA
  obtain ⟨v1, vs1, d1, ds1, p1, q1, rfl, rfl, rfl, h1, r1⟩ := trodAll_cons r0
  obtain ⟨rfl, rfl, rfl⟩ := trodAll_nil r1
  obtain rfl : args = #[v0, v1] := by cases args; simp_all
  obtain ⟨rfl, rfl⟩ := trodVars_none hV
  obtain ⟨a0, rfl, rfl, rfl, w0⟩ := open_int Tryd.underlying3 (hval 0 3 v0 rfl rfl) h0
  have k1 := h1
  have lt1 : ∀ x ∈ p1, x.block < W.heap.size := by obtain ⟨m, hm⟩ := k1; exact DataW.trod_lt m _ _ _ hm
  obtain ⟨cs1, rfl, _⟩ := okWide_struct Tryd.underlying47 (hval 1 47 v1 rfl rfl)
  obtain ⟨m1, hm1⟩ := h1
  obtain ⟨a1_0, a1_1, a1_2, a1_3, a1_4, A1_5, c1_5, l1_5, A1_6, c1_6, l1_6, hcs1, w1_0, w1_1, w1_2, w1_3, w1_4, hle1_5, hC1_5, w1_5, hle1_6, hC1_6, w1_6⟩ := flat47 m1 _ _ hm1
  obtain rfl : cs1 = #[.int .i64 a1_0, .int .u64 a1_1, .int .u64 a1_2, .int .u64 a1_3, .int .u64 a1_4, .slice A1_5 l1_5.length c1_5, .slice A1_6 l1_6.length c1_6] := by cases cs1; simp only [Value.cells] at hcs1; subst hcs1; rfl
  clear hA0 hval0
  refine (attestorlaw07_TreeClashes.calls 1300 a0 a1_0 a1_1 a1_2 a1_3 a1_4 A1_5 c1_5 l1_5 A1_6 c1_6 l1_6 true W hC1_5 hle1_5 hC1_6 hle1_6 (gl_of_laid hL) (clashes_true a0 a1_0 a1_1 a1_2 a1_3 a1_4 l1_5 l1_6 ⟨(wf_u64 w1_1).1, (wf_u64 w1_2).1⟩ ⟨(wf_u64 w1_3).1, (wf_u64 w1_4).1⟩ (nn_of w1_5) (nn_of w1_6) (by have := (wf_i64 w1_0).2; omega))).mono fun e W' ⟨he, bel⟩ => ?_
  subst he
  exact ⟨_, rfl, _, _, _, [], _, [], hW', trodAll_mk1 (shut_bool Tryd.underlying4 _), (trodAll_cons_mk (shut_int Tryd.underlying3 w0) (trodAll_cons_mk (Below.trod laidOut (by kernel_rfl) (of_decide_eq_true (by kernel_rfl)) k1 bel lt1) trodAll_mk0)), rfl, bel.frame _, fun h => by cases h⟩
theorem treeClashes_row : Rows.TreeClashesSaid :=
  OpenClaim.holds_of_wide 7 Tryd.f7 rfl rfl rfl rfl rfl rfl rfl ⟨rfl, rfl, rfl, rfl, rfl⟩ rfl rfl rfl rfl rfl (by kernel_rfl) Tryd.func7 (by kernel_rfl)
    (of_decide_eq_true (by kernel_rfl)) (by unfold Func.isWrapper; first | (rw [if_pos (by decide +kernel)]; kernel_rfl) | (rw [if_neg (by decide +kernel)]; exact ⟨rfl, rfl⟩))
    (fun os started H enc _ => treeClashes_lifted os started H enc)
theorem treeClashes_card : Rows.TreeClashesCardSaid :=
  Claim7.holds_tied_plain_at .later [] [.widerDeep, .data, .data] true Rows.treeClashesCard.stood.harness false
    treeClashes_row (fun _ h => by cases h) (by kernel_rfl) (fun _ h => by cases h) treeClashes_row_tie rfl ⟨rfl, rfl⟩ (by kernel_rfl) rfl
    (fun f fn hf hfn => by
      obtain rfl : f = 7 := Option.some.inj ((show Tryd.prog.funcNamed "attestor/attestorlaw07.TreeClashes" = some 7 by kernel_rfl).symm.trans hf) |>.symm
      obtain rfl : fn = Tryd.f7 := (Option.some.inj (Tryd.func7.symm.trans hfn)).symm
      exact ⟨by kernel_rfl, fun j t ht => by
        rw [Tryd.params7] at ht
        have hm : t ∈ [3, 47] := by simpa using Array.mem_of_getElem? ht
        have hall : ([3, 47].all fun u => !Tryd.prog.wantsStandIn u) = true := by kernel_rfl
        exact (show Tryd.prog.wantsStandIn t = false by simpa using List.all_eq_true.1 hall t hm)⟩)
    (by kernel_rfl)
end Go.Proofs.YtpnpmeogffodgaaDoor.Q
namespace Go.Proofs.YtpnpmeogffodgaaDoor
/-- Under a short name, for the claim. -/
theorem treeClashes_holds : Rows.TreeClashesCardSaid := Q.treeClashes_card
end Go.Proofs.YtpnpmeogffodgaaDoor
#print axioms Go.Proofs.YtpnpmeogffodgaaDoor.treeClashes_holds
end
