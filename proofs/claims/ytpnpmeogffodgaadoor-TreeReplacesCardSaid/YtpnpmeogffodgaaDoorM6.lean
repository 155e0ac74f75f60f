/- Several texts in one, in build order. What they prove, each by its own first remark:
Written by our own copy of a printing program (a twelfth state) out of the translation. Not trusted: Lean checks it.
Of PReplT what this claim needs.
For all arguments attestorlaw07.TreeReplaces returns true and leaves them as they were, where the package-level variables hold what the program's text lays (the card ties that): no other condition. -/
import Derived.Test.YtpnpmeogffodgaaDoorM2
import Derived.Test.YtpnpmeogffodgaaDoorM4
import Derived.Test.YtpnpmeogffodgaaDoorM5
import Derived.Test.YtpnpmeogffodgaaDoorCards
import Derived.Test.YtpnpmeogffodgaaDoorTie
import Derived.SevenTiedAt
import Derived.SizedLaws
import Derived.ShutString
import Derived.ChangeOld
import Derived.ProofKit
import Derived.Below
import Derived.OpenShut
section
namespace Go.Proofs.YtpnpmeogffodgaaDoor.Q
open Go.RowKit Go.Proofs.YtpnpmeogffodgaaDoorW.PrintWords Go.Proofs.YtpnpmeogffodgaaDoorW.PrintLast Go.Proofs.YtpnpmeogffodgaaDoorW.PrintMore
attribute [local go_sem] max2_int min2_int max_two min_two max_three min_three max_four min_four run_store_fnV run_store_fnc run_store_nfn   -- for this text's walks alone
set_option linter.unusedVariables false
set_option linter.unusedSimpArgs false

/-! ### attestorlaw07_TreeReplaces: function 9 -/
def attestorlaw07_TreeReplaces.f (k : Nat) (a0 : Int) (a1 : Int) (a2 : Int) (l3 : List Int) (a4_0 : Int) (a4_1 : Int) : Option (Bool) := if (wrap64 ((wrap64 (Int.tmod a1 6)) + 1)) = 0 then (none) else ((attestorlaw07_leaves.f k (wrap64 (Int.tmod a0 4)) (wrap64 (Int.tmod a1 6)) l3).bind fun t726 => ((tree_Build.f k (wrap64 (Int.tmod a0 4)) t726 (Int.tmod (wrap64 (a2)) (wrap64 ((wrap64 (Int.tmod a1 6)) + 1)))).bind fun bt729 => (if (IntKind.u64.wrap ((t726.length : Int))) = 0 then (none) else ((attestorref01_P.f (wrap64 (Int.tmod a0 4))).bind fun t737 => (if t737 = 0 then (none) else ((attestorref01_P.f (wrap64 (Int.tmod a0 4))).bind fun t738 => (if t738 = 0 then (none) else ((tree_Replace.f k bt729.1 bt729.2.1 bt729.2.2.1 bt729.2.2.2.1 (wrap64 (Int.tmod a4_0 (IntKind.u64.wrap ((t726.length : Int))))) (Int.tmod a4_1 t737) (Int.tmod a4_0 t738)).bind fun bt740 => (if 0 ≤ (wrap64 (Int.tmod a4_0 (IntKind.u64.wrap ((t726.length : Int))))) then (if (wrap64 (Int.tmod a4_0 (IntKind.u64.wrap ((t726.length : Int))))) < (t726.length : Int) then ((tree_Build.f k (wrap64 (Int.tmod a0 4)) (t726.set ((wrap64 (Int.tmod a4_0 (IntKind.u64.wrap ((t726.length : Int))))) : Int).toNat (⟨Int.tmod a4_1 t737, Int.tmod a4_0 t738⟩ : S36)) (Int.tmod (wrap64 (a2)) (wrap64 ((wrap64 (Int.tmod a1 6)) + 1)))).bind fun bt749 => (if bt729.2.2.2.2 = 0 then (if bt740.2.2.2.2 = 0 then (if bt749.2.2.2.2 = 0 then ((attestorref07_Same.f k bt740.1 bt740.2.1 bt740.2.2.1 bt740.2.2.2.1 bt749.1 bt749.2.1 bt749.2.2.1 bt749.2.2.2.1).bind fun t757 => (if t757 = true then ((attestorlaw07_lives.f k).bind fun t758 => (some t758)) else (none))) else (none)) else (none)) else (none))) else (none)) else (none))))))))))
theorem attestorlaw07_TreeReplaces.mono : ∀ a0 a1 a2 a3 a4 a5 k, LeO (attestorlaw07_TreeReplaces.f k a0 a1 a2 a3 a4 a5) (attestorlaw07_TreeReplaces.f (k + 1) a0 a1 a2 a3 a4 a5) := by
  intro a0 a1 a2 a3 a4 a5 k
  unfold attestorlaw07_TreeReplaces.f
  repeat' first
      | (with_reducible exact attestorlaw07_leaves.mono _ _ _ _)
      | (with_reducible exact attestorlaw07_lives.mono _)
      | (with_reducible exact attestorref07_Same.mono _ _ _ _ _ _ _ _ _)
      | (with_reducible exact tree_Build.mono _ _ _ _)
      | (with_reducible exact tree_Replace.mono _ _ _ _ _ _ _ _)
      | (with_reducible exact LeO.refl _)
      | (with_reducible exact LeO.none _)
      | (with_reducible refine LeO.ite ?_ ?_)
      | (with_reducible refine LeO.bind ?_ (fun _ => ?_))
      | exact attestorlaw07_leaves.mono _ _ _ _
      | exact attestorlaw07_lives.mono _
      | exact attestorref07_Same.mono _ _ _ _ _ _ _ _ _
      | exact tree_Build.mono _ _ _ _
      | exact tree_Replace.mono _ _ _ _ _ _ _ _
      | exact LeO.none _
      | refine LeO.ite ?_ ?_
      | refine LeO.bind ?_ (fun _ => ?_)
def attestorlaw07_TreeReplaces.T6 : Bool × List (List Nat × List Nat) := (true, [([], []), ([0], [0]), ([], []), ([2], [2]), ([1, 3], [1, 3]), ([], []), ([5], [5]), ([], []), ([7, 3], [7]), ([6, 8], [6, 8]), ([4, 9], [4, 9]), ([], []), ([11, 10, 8, 0, 1, 2, 3, 4, 5, 6, 7, 8, 9, 10, 11], [10, 11])])
def attestorlaw07_TreeReplaces.B6 : List Nat := [0, 1, 0, 4, 15, 0, 32, 0, 140, 492, 1023, 0, 4095]
theorem attestorlaw07_TreeReplaces.tab6 : rtab .any (opsOf Tryd.f9 6) = attestorlaw07_TreeReplaces.T6 := by kernel_rfl
theorem attestorlaw07_TreeReplaces.bits6 : waitsOk attestorlaw07_TreeReplaces.T6.2 attestorlaw07_TreeReplaces.B6 = true := by kernel_rfl
set_option maxHeartbeats 8000000 in
set_option maxRecDepth 100000 in
theorem attestorlaw07_TreeReplaces.calls (k : Nat) (a0 : Int) (a1 : Int) (a2 : Int) (A3 : Option Addr) (c3 : Nat) (l3 : List Int) (a4_0 : Int) (a4_1 : Int) (r : Bool) (w : World) (hr3 : Kd.C (Kd.int .u64) w A3 l3.length l3) (hc3 : l3.length ≤ c3) (hrG : GL w) (h : attestorlaw07_TreeReplaces.f k a0 a1 a2 l3 a4_0 a4_1 = some r) :
    Calls Tryd.prog 9 #[.int .u8 a0, .int .u8 a1, .int .u8 a2, .slice A3 l3.length c3, .agg #[.int .u64 a4_0, .int .u64 a4_1]] w fun e w' => e = .returned (.bool r) ∧ Below w.heap.size w w' := by
  have hu35 := Tryd.underlying35
  have hu26 := Tryd.underlying26
  have hu36 := Tryd.underlying36
  have HRG := Aside0.mk hrG
  clear hrG
  have HR3 := Aside0.mk hr3
  have HC3 := Aside0.mk hc3
  clear hr3 hc3
  have HB := Aside0.mk (Below.refl w.heap.size w)
  have H : (if (wrap64 ((wrap64 (Int.tmod a1 6)) + 1)) = 0 then (none) else ((attestorlaw07_leaves.f k (wrap64 (Int.tmod a0 4)) (wrap64 (Int.tmod a1 6)) l3).bind fun t726 => ((tree_Build.f k (wrap64 (Int.tmod a0 4)) t726 (Int.tmod (wrap64 (a2)) (wrap64 ((wrap64 (Int.tmod a1 6)) + 1)))).bind fun bt729 => (if (IntKind.u64.wrap ((t726.length : Int))) = 0 then (none) else ((attestorref01_P.f (wrap64 (Int.tmod a0 4))).bind fun t737 => (if t737 = 0 then (none) else ((attestorref01_P.f (wrap64 (Int.tmod a0 4))).bind fun t738 => (if t738 = 0 then (none) else ((tree_Replace.f k bt729.1 bt729.2.1 bt729.2.2.1 bt729.2.2.2.1 (wrap64 (Int.tmod a4_0 (IntKind.u64.wrap ((t726.length : Int))))) (Int.tmod a4_1 t737) (Int.tmod a4_0 t738)).bind fun bt740 => (if 0 ≤ (wrap64 (Int.tmod a4_0 (IntKind.u64.wrap ((t726.length : Int))))) then (if (wrap64 (Int.tmod a4_0 (IntKind.u64.wrap ((t726.length : Int))))) < (t726.length : Int) then ((tree_Build.f k (wrap64 (Int.tmod a0 4)) (t726.set ((wrap64 (Int.tmod a4_0 (IntKind.u64.wrap ((t726.length : Int))))) : Int).toNat (⟨Int.tmod a4_1 t737, Int.tmod a4_0 t738⟩ : S36)) (Int.tmod (wrap64 (a2)) (wrap64 ((wrap64 (Int.tmod a1 6)) + 1)))).bind fun bt749 => (if bt729.2.2.2.2 = 0 then (if bt740.2.2.2.2 = 0 then (if bt749.2.2.2.2 = 0 then ((attestorref07_Same.f k bt740.1 bt740.2.1 bt740.2.2.1 bt740.2.2.2.1 bt749.1 bt749.2.1 bt749.2.2.1 bt749.2.2.2.1).bind fun t757 => (if t757 = true then ((attestorlaw07_lives.f k).bind fun t758 => (some t758)) else (none))) else (none)) else (none)) else (none))) else (none)) else (none))))))))))) = some r := h
  clear h
  by_cases c6 : (wrap64 ((wrap64 (Int.tmod a1 6)) + 1)) = 0
  · rw [if_pos c6] at H
    exact absurd H (by simp)
  · rw [if_neg c6] at H
    have c6b0 : ((wrap64 ((wrap64 (Int.tmod a1 6)) + 1)) == 0) = false := beq_eq_false_iff_ne.mpr c6
    have c6b1 : ((wrap64 ((wrap64 (Int.tmod a1 6)) + 1)) != 0) = true := bne_iff_ne.mpr c6
    replace H := Option.bind_eq_some_iff.mp H
    obtain ⟨t726, A70, H⟩ := H
    replace H : ((tree_Build.f k (wrap64 (Int.tmod a0 4)) t726 (Int.tmod (wrap64 (a2)) (wrap64 ((wrap64 (Int.tmod a1 6)) + 1)))).bind fun bt729 => (if (IntKind.u64.wrap ((t726.length : Int))) = 0 then (none) else ((attestorref01_P.f (wrap64 (Int.tmod a0 4))).bind fun t737 => (if t737 = 0 then (none) else ((attestorref01_P.f (wrap64 (Int.tmod a0 4))).bind fun t738 => (if t738 = 0 then (none) else ((tree_Replace.f k bt729.1 bt729.2.1 bt729.2.2.1 bt729.2.2.2.1 (wrap64 (Int.tmod a4_0 (IntKind.u64.wrap ((t726.length : Int))))) (Int.tmod a4_1 t737) (Int.tmod a4_0 t738)).bind fun bt740 => (if 0 ≤ (wrap64 (Int.tmod a4_0 (IntKind.u64.wrap ((t726.length : Int))))) then (if (wrap64 (Int.tmod a4_0 (IntKind.u64.wrap ((t726.length : Int))))) < (t726.length : Int) then ((tree_Build.f k (wrap64 (Int.tmod a0 4)) (t726.set ((wrap64 (Int.tmod a4_0 (IntKind.u64.wrap ((t726.length : Int))))) : Int).toNat (⟨Int.tmod a4_1 t737, Int.tmod a4_0 t738⟩ : S36)) (Int.tmod (wrap64 (a2)) (wrap64 ((wrap64 (Int.tmod a1 6)) + 1)))).bind fun bt749 => (if bt729.2.2.2.2 = 0 then (if bt740.2.2.2.2 = 0 then (if bt749.2.2.2.2 = 0 then ((attestorref07_Same.f k bt740.1 bt740.2.1 bt740.2.2.1 bt740.2.2.2.1 bt749.1 bt749.2.1 bt749.2.2.1 bt749.2.2.2.1).bind fun t757 => (if t757 = true then ((attestorlaw07_lives.f k).bind fun t758 => (some t758)) else (none))) else (none)) else (none)) else (none))) else (none)) else (none))))))))) = some r := H
    have A7 := Aside0.mk A70
    clear A70
    replace H := Option.bind_eq_some_iff.mp H
    obtain ⟨⟨t729, t730, t731, t732, t735⟩, A80, H⟩ := H
    replace H : (if (IntKind.u64.wrap ((t726.length : Int))) = 0 then (none) else ((attestorref01_P.f (wrap64 (Int.tmod a0 4))).bind fun t737 => (if t737 = 0 then (none) else ((attestorref01_P.f (wrap64 (Int.tmod a0 4))).bind fun t738 => (if t738 = 0 then (none) else ((tree_Replace.f k t729 t730 t731 t732 (wrap64 (Int.tmod a4_0 (IntKind.u64.wrap ((t726.length : Int))))) (Int.tmod a4_1 t737) (Int.tmod a4_0 t738)).bind fun bt740 => (if 0 ≤ (wrap64 (Int.tmod a4_0 (IntKind.u64.wrap ((t726.length : Int))))) then (if (wrap64 (Int.tmod a4_0 (IntKind.u64.wrap ((t726.length : Int))))) < (t726.length : Int) then ((tree_Build.f k (wrap64 (Int.tmod a0 4)) (t726.set ((wrap64 (Int.tmod a4_0 (IntKind.u64.wrap ((t726.length : Int))))) : Int).toNat (⟨Int.tmod a4_1 t737, Int.tmod a4_0 t738⟩ : S36)) (Int.tmod (wrap64 (a2)) (wrap64 ((wrap64 (Int.tmod a1 6)) + 1)))).bind fun bt749 => (if t735 = 0 then (if bt740.2.2.2.2 = 0 then (if bt749.2.2.2.2 = 0 then ((attestorref07_Same.f k bt740.1 bt740.2.1 bt740.2.2.1 bt740.2.2.2.1 bt749.1 bt749.2.1 bt749.2.2.1 bt749.2.2.2.1).bind fun t757 => (if t757 = true then ((attestorlaw07_lives.f k).bind fun t758 => (some t758)) else (none))) else (none)) else (none)) else (none))) else (none)) else (none)))))))) = some r := H
    have A8 := Aside0.mk A80
    clear A80
    by_cases c9 : (IntKind.u64.wrap ((t726.length : Int))) = 0
    · rw [if_pos c9] at H
      exact absurd H (by simp)
    · rw [if_neg c9] at H
      have c9b0 : ((IntKind.u64.wrap ((t726.length : Int))) == 0) = false := beq_eq_false_iff_ne.mpr c9
      have c9b1 : ((IntKind.u64.wrap ((t726.length : Int))) != 0) = true := bne_iff_ne.mpr c9
      replace H := Option.bind_eq_some_iff.mp H
      obtain ⟨t737, A100, H⟩ := H
      replace H : (if t737 = 0 then (none) else ((attestorref01_P.f (wrap64 (Int.tmod a0 4))).bind fun t738 => (if t738 = 0 then (none) else ((tree_Replace.f k t729 t730 t731 t732 (wrap64 (Int.tmod a4_0 (IntKind.u64.wrap ((t726.length : Int))))) (Int.tmod a4_1 t737) (Int.tmod a4_0 t738)).bind fun bt740 => (if 0 ≤ (wrap64 (Int.tmod a4_0 (IntKind.u64.wrap ((t726.length : Int))))) then (if (wrap64 (Int.tmod a4_0 (IntKind.u64.wrap ((t726.length : Int))))) < (t726.length : Int) then ((tree_Build.f k (wrap64 (Int.tmod a0 4)) (t726.set ((wrap64 (Int.tmod a4_0 (IntKind.u64.wrap ((t726.length : Int))))) : Int).toNat (⟨Int.tmod a4_1 t737, Int.tmod a4_0 t738⟩ : S36)) (Int.tmod (wrap64 (a2)) (wrap64 ((wrap64 (Int.tmod a1 6)) + 1)))).bind fun bt749 => (if t735 = 0 then (if bt740.2.2.2.2 = 0 then (if bt749.2.2.2.2 = 0 then ((attestorref07_Same.f k bt740.1 bt740.2.1 bt740.2.2.1 bt740.2.2.2.1 bt749.1 bt749.2.1 bt749.2.2.1 bt749.2.2.2.1).bind fun t757 => (if t757 = true then ((attestorlaw07_lives.f k).bind fun t758 => (some t758)) else (none))) else (none)) else (none)) else (none))) else (none)) else (none)))))) = some r := H
      have A10 := Aside0.mk A100
      clear A100
      by_cases c11 : t737 = 0
      · rw [if_pos c11] at H
        exact absurd H (by simp)
      · rw [if_neg c11] at H
        have c11b0 : (t737 == 0) = false := beq_eq_false_iff_ne.mpr c11
        have c11b1 : (t737 != 0) = true := bne_iff_ne.mpr c11
        replace H := Option.bind_eq_some_iff.mp H
        obtain ⟨t738, A120, H⟩ := H
        replace H : (if t738 = 0 then (none) else ((tree_Replace.f k t729 t730 t731 t732 (wrap64 (Int.tmod a4_0 (IntKind.u64.wrap ((t726.length : Int))))) (Int.tmod a4_1 t737) (Int.tmod a4_0 t738)).bind fun bt740 => (if 0 ≤ (wrap64 (Int.tmod a4_0 (IntKind.u64.wrap ((t726.length : Int))))) then (if (wrap64 (Int.tmod a4_0 (IntKind.u64.wrap ((t726.length : Int))))) < (t726.length : Int) then ((tree_Build.f k (wrap64 (Int.tmod a0 4)) (t726.set ((wrap64 (Int.tmod a4_0 (IntKind.u64.wrap ((t726.length : Int))))) : Int).toNat (⟨Int.tmod a4_1 t737, Int.tmod a4_0 t738⟩ : S36)) (Int.tmod (wrap64 (a2)) (wrap64 ((wrap64 (Int.tmod a1 6)) + 1)))).bind fun bt749 => (if t735 = 0 then (if bt740.2.2.2.2 = 0 then (if bt749.2.2.2.2 = 0 then ((attestorref07_Same.f k bt740.1 bt740.2.1 bt740.2.2.1 bt740.2.2.2.1 bt749.1 bt749.2.1 bt749.2.2.1 bt749.2.2.2.1).bind fun t757 => (if t757 = true then ((attestorlaw07_lives.f k).bind fun t758 => (some t758)) else (none))) else (none)) else (none)) else (none))) else (none)) else (none)))) = some r := H
        have A12 := Aside0.mk A120
        clear A120
        by_cases c13 : t738 = 0
        · rw [if_pos c13] at H
          exact absurd H (by simp)
        · rw [if_neg c13] at H
          have c13b0 : (t738 == 0) = false := beq_eq_false_iff_ne.mpr c13
          have c13b1 : (t738 != 0) = true := bne_iff_ne.mpr c13
          replace H := Option.bind_eq_some_iff.mp H
          obtain ⟨⟨t740, t741, t742, t743, t746⟩, A140, H⟩ := H
          replace H : (if 0 ≤ (wrap64 (Int.tmod a4_0 (IntKind.u64.wrap ((t726.length : Int))))) then (if (wrap64 (Int.tmod a4_0 (IntKind.u64.wrap ((t726.length : Int))))) < (t726.length : Int) then ((tree_Build.f k (wrap64 (Int.tmod a0 4)) (t726.set ((wrap64 (Int.tmod a4_0 (IntKind.u64.wrap ((t726.length : Int))))) : Int).toNat (⟨Int.tmod a4_1 t737, Int.tmod a4_0 t738⟩ : S36)) (Int.tmod (wrap64 (a2)) (wrap64 ((wrap64 (Int.tmod a1 6)) + 1)))).bind fun bt749 => (if t735 = 0 then (if t746 = 0 then (if bt749.2.2.2.2 = 0 then ((attestorref07_Same.f k t740 t741 t742 t743 bt749.1 bt749.2.1 bt749.2.2.1 bt749.2.2.2.1).bind fun t757 => (if t757 = true then ((attestorlaw07_lives.f k).bind fun t758 => (some t758)) else (none))) else (none)) else (none)) else (none))) else (none)) else (none)) = some r := H
          have A14 := Aside0.mk A140
          clear A140
          obtain ⟨ji15, hji15⟩ : ∃ j_ : Int, (wrap64 (Int.tmod a4_0 (IntKind.u64.wrap ((t726.length : Int))))) = j_ := ⟨_, rfl⟩
          replace H : (if 0 ≤ (ji15) then (if (ji15) < (t726.length : Int) then ((tree_Build.f k (wrap64 (Int.tmod a0 4)) (t726.set ((ji15) : Int).toNat (⟨Int.tmod a4_1 t737, Int.tmod a4_0 t738⟩ : S36)) (Int.tmod (wrap64 (a2)) (wrap64 ((wrap64 (Int.tmod a1 6)) + 1)))).bind fun bt749 => (if t735 = 0 then (if t746 = 0 then (if bt749.2.2.2.2 = 0 then ((attestorref07_Same.f k t740 t741 t742 t743 bt749.1 bt749.2.1 bt749.2.2.1 bt749.2.2.2.1).bind fun t757 => (if t757 = true then ((attestorlaw07_lives.f k).bind fun t758 => (some t758)) else (none))) else (none)) else (none)) else (none))) else (none)) else (none)) = some r := by first | (rw [hji15] at H; exact H) | (simp only [hji15] at H ⊢; exact H)
          (try rw [hji15] at A7)
          (try rw [hji15] at A8)
          (try rw [hji15] at A10)
          (try rw [hji15] at A12)
          (try rw [hji15] at A14)
          have hji15w : (IntKind.i64.wrap (Int.tmod a4_0 (IntKind.u64.wrap ((t726.length : Int))))) = ji15 := (i64_w _).trans hji15
          by_cases c16 : 0 ≤ (ji15)
          · rw [if_pos c16] at H
            have c16b0 : decide (0 ≤ (ji15)) = true := decide_eq_true c16
            clear c16
            by_cases c17 : (ji15) < (t726.length : Int)
            · rw [if_pos c17] at H
              have c17b0 : decide ((ji15) < (t726.length : Int)) = true := decide_eq_true c17
              clear c17
              obtain ⟨y748, hy748⟩ : ∃ y_ : List (S36), y_ = (t726.set ((ji15) : Int).toNat (⟨Int.tmod a4_1 t737, Int.tmod a4_0 t738⟩ : S36)) := ⟨_, rfl⟩
              replace H : ((tree_Build.f k (wrap64 (Int.tmod a0 4)) y748 (Int.tmod (wrap64 (a2)) (wrap64 ((wrap64 (Int.tmod a1 6)) + 1)))).bind fun bt749 => (if t735 = 0 then (if t746 = 0 then (if bt749.2.2.2.2 = 0 then ((attestorref07_Same.f k t740 t741 t742 t743 bt749.1 bt749.2.1 bt749.2.2.1 bt749.2.2.2.1).bind fun t757 => (if t757 = true then ((attestorlaw07_lives.f k).bind fun t758 => (some t758)) else (none))) else (none)) else (none)) else (none))) = some r := by first | (rw [hy748]; with_reducible exact H) | (have H2_ := (Option.bind_some _ _).symm.trans H; rw [hy748]; with_reducible exact H2_) | (have H2_ := (Option.bind_some _ _).symm.trans H; with_reducible exact H2_) | with_reducible exact H | (rw [hy748]; exact H) | exact H
              have Ny748 := Aside0.mk hy748
              clear hy748
              replace H := Option.bind_eq_some_iff.mp H
              obtain ⟨⟨t749, t750, t751, t752, t755⟩, A190, H⟩ := H
              replace H : (if t735 = 0 then (if t746 = 0 then (if t755 = 0 then ((attestorref07_Same.f k t740 t741 t742 t743 t749 t750 t751 t752).bind fun t757 => (if t757 = true then ((attestorlaw07_lives.f k).bind fun t758 => (some t758)) else (none))) else (none)) else (none)) else (none)) = some r := H
              have A19 := Aside0.mk A190
              clear A190
              by_cases c20 : t735 = 0
              · rw [if_pos c20] at H
                have c20b0 : (t735 == 0) = true := beq_iff_eq.mpr c20
                have c20b1 : (t735 != 0) = false := bne_eq_false_iff_eq.mpr c20
                clear c20
                by_cases c21 : t746 = 0
                · rw [if_pos c21] at H
                  have c21b0 : (t746 == 0) = true := beq_iff_eq.mpr c21
                  have c21b1 : (t746 != 0) = false := bne_eq_false_iff_eq.mpr c21
                  clear c21
                  by_cases c22 : t755 = 0
                  · rw [if_pos c22] at H
                    have c22b0 : (t755 == 0) = true := beq_iff_eq.mpr c22
                    have c22b1 : (t755 != 0) = false := bne_eq_false_iff_eq.mpr c22
                    clear c22
                    replace H := Option.bind_eq_some_iff.mp H
                    obtain ⟨t757, A230, H⟩ := H
                    replace H : (if t757 = true then ((attestorlaw07_lives.f k).bind fun t758 => (some t758)) else (none)) = some r := H
                    have A23 := Aside0.mk A230
                    clear A230
                    by_cases c24 : t757 = true
                    · subst c24
                      have H1 : ((attestorlaw07_lives.f k).bind fun t758 => (some t758)) = some r := by rw [if_pos rfl] at H; exact H
                      clear H
                      have H := H1
                      clear H1
                      replace H := Option.bind_eq_some_iff.mp H
                      obtain ⟨t758, A250, H⟩ := H
                      replace H : (some t758) = some r := H
                      have A25 := Aside0.mk A250
                      clear A250
                      obtain rfl := Option.some.inj H
                      go_enter Tryd.func9, Tryd.ntmps9
                      try go_wp2_with (first | ((with_reducible refine gate_dst (N := 9) rfl ?_); refine box_event ?hg (N := 9) ?hd (cs := #[.int .u64 a4_0, .int .u64 a4_1]) (t := 35) ?hr ?_; (case hd => rfl); (case hg => rfl); (case hr => first | (go_simp; done) | (go_simp; rfl)); intro gb725 hg w26 hbox hb; have n0_ := Aside0.mk (below_step (by repeat (first | (with_reducible first | exact HB.out | apply below_alloc | apply pw_below_drewN | apply below_drew1) | exact HB.out)) hb); have n1_ := Aside0.mk (hbox); have n2_ := Aside0.mk ((by rw [hg]; exact (below_size (by repeat (first | (with_reducible first | exact HB.out | apply below_alloc | apply pw_below_drewN | apply below_drew1) | exact HB.out))) : w.heap.size ≤ gb725)); have n3_ := Aside0.mk ((by rw [hg]; exact (below_size (by repeat (first | (with_reducible first | exact HB.out | apply below_alloc | apply pw_below_drewN | apply below_drew1) | exact HB.out))) : w.heap.size ≤ gb725)); clear HB; have HB := n0_; have BK725 := n1_; have GW725 := n2_; have GE725 := n3_; clear n0_ n1_ n2_ n3_; clear hb hbox hg) | ((with_reducible refine gate_callee (f := 22) rfl ?_); refine goesL_ (some 37) rfl rfl Tryd.func22 (by kernel_rfl) rfl #[.int .i64 (wrap64 (Int.tmod a0 4)), .int .i64 (wrap64 (Int.tmod a1 6)), .slice A3 l3.length c3] rfl (by (try simp only [List.map_toArray, List.map_cons, List.map_nil]); first | done | rfl | (simp only [List.length_drop, List.length_take]; rfl) | (go_simp; done) | (go_simp; rw [Int.tmod_eq_emod_of_nonneg (by omega)]; omega)) ?_; (with_reducible refine (attestorlaw07_leaves.calls k (wrap64 (Int.tmod a0 4)) (wrap64 (Int.tmod a1 6)) _ _ l3 t726 _ ?side1 ?side2 A7.out).mono ?_); (case side1 => repeat (first | exact (Kd.C_below HR3.out HB.out) | (with_reducible refine Kd.C_alloc ?_ _) | (with_reducible refine Kd.C_drewN ?_ _) | (with_reducible refine Kd.C_drew ?_))); (case side2 => exact HC3.out); rintro e w27 ⟨v727, rfl, ho0, hb⟩; refine ⟨_, rfl, ?_⟩; have n0_ := Aside0.mk (Kd.R_lower ho0 (below_size (by repeat (first | (with_reducible first | exact HB.out | apply below_alloc | apply pw_below_drewN | apply below_drew1 | refine below_set ?_ GE725.out) | exact HB.out)))); have n1_ := Aside0.mk (blk_below (g := gb725) (o := .cells #[.int .u64 a4_0, .int .u64 a4_1] 35 (0, 0)) (by (with_reducible repeat (first | refine blk_drewN ?_ _ | refine blk_drew ?_ | refine blk_alloc ?_ _)); exact BK725.out) hb); have n2_ := Aside0.mk (below_step (by repeat (first | (with_reducible first | exact HB.out | apply below_alloc | apply pw_below_drewN | apply below_drew1 | refine below_set ?_ GE725.out) | exact HB.out)) hb); clear BK725; clear HB; have HO728 := n0_; have BK725 := n1_; have HB := n2_; clear n0_ n1_ n2_; (try clear hb); (try clear hb2); (try clear hk); (try clear hi); (try clear ho0); obtain ⟨Ao28, co28, eo28⟩ := Kd.R_slice HO728.out; subst eo28) | ((with_reducible refine gate_callee (f := 13) rfl ?_); refine goesL_ (some 42) rfl rfl Tryd.func13 (by kernel_rfl) rfl #[.int .i64 (wrap64 (Int.tmod a0 4)), .slice Ao28 t726.length co28, .int .i64 (Int.tmod (wrap64 (a2)) (wrap64 ((wrap64 (Int.tmod a1 6)) + 1)))] rfl (by (try simp only [List.map_toArray, List.map_cons, List.map_nil]); first | done | rfl | (simp only [List.length_drop, List.length_take]; rfl) | (go_simp; done) | (go_simp; rw [Int.tmod_eq_emod_of_nonneg (by omega)]; omega)) ?_; (with_reducible refine (tree_Build.calls k (wrap64 (Int.tmod a0 4)) _ _ t726 (Int.tmod (wrap64 (a2)) (wrap64 ((wrap64 (Int.tmod a1 6)) + 1))) t729 t730 t731 t732 t735 _ ?side1 ?side2 ?side3 A8.out).mono ?_); (case side1 => repeat (first | exact (Kd.R_reads' HO728.out).2.2 | (with_reducible refine Kd.C_alloc ?_ _) | (with_reducible refine Kd.C_drewN ?_ _) | (with_reducible refine Kd.C_drew ?_))); (case side2 => exact (Kd.R_reads' HO728.out).2.1); (case side3 => repeat (first | exact (GL.below HRG.out HB.out) | (with_reducible refine GL.alloc ?_ _) | (with_reducible refine GL.drewN ?_ _) | (with_reducible refine GL.drew ?_))); rintro e w29 ⟨v733, rfl, ho0, hb⟩; refine ⟨_, rfl, ?_⟩; have n0_ := Aside0.mk (Kd.R_below (by (with_reducible repeat (first | apply Kd.R_alloc | apply Kd.R_drewN | apply Kd.R_drew)); exact HO728.out) hb); have n1_ := Aside0.mk (Kd.S_lower (Kd.S_new' ho0 (Kd.R_lt (by (with_reducible repeat (first | apply Kd.R_alloc | apply Kd.R_drewN | apply Kd.R_drew)); exact HO728.out))) (below_size (by repeat (first | (with_reducible first | exact HB.out | apply below_alloc | apply pw_below_drewN | apply below_drew1 | refine below_set ?_ GE725.out) | exact HB.out)))); have n2_ := Aside0.mk (blk_below (g := gb725) (o := .cells #[.int .u64 a4_0, .int .u64 a4_1] 35 (0, 0)) (by (with_reducible repeat (first | refine blk_drewN ?_ _ | refine blk_drew ?_ | refine blk_alloc ?_ _)); exact BK725.out) hb); have n3_ := Aside0.mk (below_step (by repeat (first | (with_reducible first | exact HB.out | apply below_alloc | apply pw_below_drewN | apply below_drew1 | refine below_set ?_ GE725.out) | exact HB.out)) hb); clear HO728; clear BK725; clear HB; have HO728 := n0_; have HO734 := n1_; have BK725 := n2_; have HB := n3_; clear n0_ n1_ n2_ n3_; (try clear hb); (try clear hb2); (try clear hk); (try clear hi); (try clear ho0)) | ((with_reducible refine gate_dst (N := 15) rfl ?_); refine box_event ?hg (N := 15) ?hd (cs := #[.int .i64 0, .int .i64 0, .int .i64 0, .slice none 0 0]) (t := 26) ?hr ?_; (case hd => rfl); (case hg => rfl); (case hr => first | (go_simp; done) | (go_simp; rfl)); intro gb736 hg w30 hbox hb; have n0_ := Aside0.mk (Kd.R_below (by (with_reducible repeat (first | apply Kd.R_alloc | apply Kd.R_drewN | apply Kd.R_drew)); exact HO728.out) hb); have n1_ := Aside0.mk (Kd.S_below (by (with_reducible repeat (first | apply Kd.S_alloc | apply Kd.S_drewN | apply Kd.S_drew)); exact HO734.out) hb); have n2_ := Aside0.mk (blk_below (g := gb725) (o := .cells #[.int .u64 a4_0, .int .u64 a4_1] 35 (0, 0)) (by (with_reducible repeat (first | refine blk_drewN ?_ _ | refine blk_drew ?_ | refine blk_alloc ?_ _)); exact BK725.out) hb); have n3_ := Aside0.mk (below_step (by repeat (first | (with_reducible first | exact HB.out | apply below_alloc | apply pw_below_drewN | apply below_drew1 | refine below_set ?_ GE725.out) | exact HB.out)) hb); have n4_ := Aside0.mk (hbox); have n5_ := Aside0.mk ((by rw [hg]; exact (below_size (by repeat (first | (with_reducible first | exact HB.out | apply below_alloc | apply pw_below_drewN | apply below_drew1 | refine below_set ?_ GE725.out) | exact HB.out))) : w.heap.size ≤ gb736)); have n6_ := Aside0.mk ((by rw [hg]; exact (below_size (by repeat (first | (with_reducible first | exact HB.out | apply below_alloc | apply pw_below_drewN | apply below_drew1 | refine below_set ?_ GE725.out) | exact HB.out))) : w.heap.size ≤ gb736)); have n7_ := Aside0.mk ((by rw [hg]; exact Nat.ne_of_lt (blk_lt (g := gb725) (o := .cells #[.int .u64 a4_0, .int .u64 a4_1] 35 (0, 0)) (by (with_reducible repeat (first | refine blk_drewN ?_ _ | refine blk_drew ?_ | refine blk_alloc ?_ _)); exact BK725.out)) : gb725 ≠ gb736)); have n8_ := Aside0.mk ((by rw [hg]; exact Nat.ne_of_gt (blk_lt (g := gb725) (o := .cells #[.int .u64 a4_0, .int .u64 a4_1] 35 (0, 0)) (by (with_reducible repeat (first | refine blk_drewN ?_ _ | refine blk_drew ?_ | refine blk_alloc ?_ _)); exact BK725.out)) : gb736 ≠ gb725)); clear HO728; clear HO734; clear BK725; clear HB; have HO728 := n0_; have HO734 := n1_; have BK725 := n2_; have HB := n3_; have BK736 := n4_; have GW736 := n5_; have GE736 := n6_; have NB725_736 := n7_; have NB736_725 := n8_; clear n0_ n1_ n2_ n3_ n4_ n5_ n6_ n7_ n8_; clear hb hbox hg; have hnb31 := NB736_725.out; have hnc31 := NB725_736.out; have hcz32_0 : w30.cell? ⟨gb736, 0, none⟩ = some (.int .i64 0) := (blk_cell BK736.out 0).trans rfl; have hcz32_1 : w30.cell? ⟨gb736, 1, none⟩ = some (.int .i64 0) := (blk_cell BK736.out 1).trans rfl; have hcz32_2 : w30.cell? ⟨gb736, 2, none⟩ = some (.int .i64 0) := (blk_cell BK736.out 2).trans rfl; have hcz32_3 : w30.cell? ⟨gb736, 3, none⟩ = some (.slice none 0 0) := (blk_cell BK736.out 3).trans rfl; have hfz32_0 := blk_frozen BK736.out 0; have hfz32_1 := blk_frozen BK736.out 1; have hfz32_2 := blk_frozen BK736.out 2; have hfz32_3 := blk_frozen BK736.out 3; obtain ⟨Ao33, co33, eo33⟩ := Kd.S_slice HO734.out; subst eo33; have hcz34_0 : w30.cell? ⟨gb725, 0, none⟩ = some (.int .u64 a4_0) := (blk_cell BK725.out 0).trans rfl; have hcz34_1 : w30.cell? ⟨gb725, 1, none⟩ = some (.int .u64 a4_1) := (blk_cell BK725.out 1).trans rfl; have hfz34_0 := blk_frozen BK725.out 0; have hfz34_1 := blk_frozen BK725.out 1))
                      have n0_ : Aside0 (Kd.R k36 36 ((((w30.setCell ⟨gb736, 0, none⟩ (.int .i64 t729)).setCell ⟨gb736, 1, none⟩ (.int .i64 t730)).setCell ⟨gb736, 2, none⟩ (.int .i64 t731)).setCell ⟨gb736, 3, none⟩ (.slice Ao33 t732.length co33)) w.heap.size (fun _ => True) (.slice Ao28 t726.length co28) t726) := ⟨by (with_reducible repeat (first | apply Kd.R_alloc | apply Kd.R_drewN | apply Kd.R_drew)); exact Kd.R_mono (Kd.R_far (p := ⟨gb736, 3, none⟩) (Kd.R_far (p := ⟨gb736, 2, none⟩) (Kd.R_far (p := ⟨gb736, 1, none⟩) (Kd.R_far (p := ⟨gb736, 0, none⟩) (Kd.R_types HO728.out BK736.out (by decide)) (fun _ hk => hk.2) (.int .i64 t729)) (fun _ hk => hk.2) (.int .i64 t730)) (fun _ hk => hk.2) (.int .i64 t731)) (fun _ hk => hk.2) (.slice Ao33 t732.length co33)) (fun _ hk => trivial)⟩
                      have n1_ : Aside0 (Kd.S (Kd.slice 36 k36) 22 ((((w30.setCell ⟨gb736, 0, none⟩ (.int .i64 t729)).setCell ⟨gb736, 1, none⟩ (.int .i64 t730)).setCell ⟨gb736, 2, none⟩ (.int .i64 t731)).setCell ⟨gb736, 3, none⟩ (.slice Ao33 t732.length co33)) w.heap.size (fun k_ => some k_ ≠ (.slice Ao28 t726.length co28 : Value).ownBlock) (.slice Ao33 t732.length co33) t732) := ⟨by (with_reducible repeat (first | apply Kd.S_alloc | apply Kd.S_drewN | apply Kd.S_drew)); exact Kd.S_mono (Kd.S_far (p := ⟨gb736, 3, none⟩) (Kd.S_far (p := ⟨gb736, 2, none⟩) (Kd.S_far (p := ⟨gb736, 1, none⟩) (Kd.S_far (p := ⟨gb736, 0, none⟩) (Kd.S_types HO734.out BK736.out (by decide)) (fun _ hk => hk.2) (.int .i64 t729)) (fun _ hk => hk.2) (.int .i64 t730)) (fun _ hk => hk.2) (.int .i64 t731)) (fun _ hk => hk.2) (.slice Ao33 t732.length co33)) (fun _ hk => hk.1.2)⟩
                      have n2_ : Aside0 (((((w30.setCell ⟨gb736, 0, none⟩ (.int .i64 t729)).setCell ⟨gb736, 1, none⟩ (.int .i64 t730)).setCell ⟨gb736, 2, none⟩ (.int .i64 t731)).setCell ⟨gb736, 3, none⟩ (.slice Ao33 t732.length co33)).heap[gb725]? = some (.cells #[.int .u64 a4_0, .int .u64 a4_1] 35 (0, 0))) := ⟨by (with_reducible repeat (first | refine blk_drewN ?_ _ | refine blk_drew ?_ | refine blk_alloc ?_ _)); refine blk_far ?_ NB725_736.out _; (with_reducible repeat (first | refine blk_drewN ?_ _ | refine blk_drew ?_ | refine blk_alloc ?_ _)); refine blk_far ?_ NB725_736.out _; (with_reducible repeat (first | refine blk_drewN ?_ _ | refine blk_drew ?_ | refine blk_alloc ?_ _)); refine blk_far ?_ NB725_736.out _; (with_reducible repeat (first | refine blk_drewN ?_ _ | refine blk_drew ?_ | refine blk_alloc ?_ _)); refine blk_far ?_ NB725_736.out _; (with_reducible repeat (first | refine blk_drewN ?_ _ | refine blk_drew ?_ | refine blk_alloc ?_ _)); exact BK725.out⟩
                      have n3_ : Aside0 (((((w30.setCell ⟨gb736, 0, none⟩ (.int .i64 t729)).setCell ⟨gb736, 1, none⟩ (.int .i64 t730)).setCell ⟨gb736, 2, none⟩ (.int .i64 t731)).setCell ⟨gb736, 3, none⟩ (.slice Ao33 t732.length co33)).heap[gb736]? = some (.cells #[.int .i64 t729, .int .i64 t730, .int .i64 t731, .slice Ao33 t732.length co33] 26 (0, 0))) := ⟨by (with_reducible repeat (first | refine blk_drewN ?_ _ | refine blk_drew ?_ | refine blk_alloc ?_ _)); refine blk_put (cs := #[.int .i64 t729, .int .i64 t730, .int .i64 t731, .slice none 0 0]) ?_ 3 _ rfl; (with_reducible repeat (first | refine blk_drewN ?_ _ | refine blk_drew ?_ | refine blk_alloc ?_ _)); refine blk_put (cs := #[.int .i64 t729, .int .i64 t730, .int .i64 0, .slice none 0 0]) ?_ 2 _ rfl; (with_reducible repeat (first | refine blk_drewN ?_ _ | refine blk_drew ?_ | refine blk_alloc ?_ _)); refine blk_put (cs := #[.int .i64 t729, .int .i64 0, .int .i64 0, .slice none 0 0]) ?_ 1 _ rfl; (with_reducible repeat (first | refine blk_drewN ?_ _ | refine blk_drew ?_ | refine blk_alloc ?_ _)); refine blk_put (cs := #[.int .i64 0, .int .i64 0, .int .i64 0, .slice none 0 0]) ?_ 0 _ rfl; (with_reducible repeat (first | refine blk_drewN ?_ _ | refine blk_drew ?_ | refine blk_alloc ?_ _)); exact BK736.out⟩
                      have n4_ : Aside0 (Below w.heap.size w ((((w30.setCell ⟨gb736, 0, none⟩ (.int .i64 t729)).setCell ⟨gb736, 1, none⟩ (.int .i64 t730)).setCell ⟨gb736, 2, none⟩ (.int .i64 t731)).setCell ⟨gb736, 3, none⟩ (.slice Ao33 t732.length co33))) := ⟨by repeat (first | (with_reducible first | exact HB.out | apply below_alloc | apply pw_below_drewN | apply below_drew1 | refine below_set ?_ GE725.out | refine below_set ?_ GE736.out) | exact HB.out)⟩
                      (try clear HO728)
                      (try clear HO734)
                      (try clear BK725)
                      (try clear BK736)
                      (try clear HB)
                      generalize ((((w30.setCell ⟨gb736, 0, none⟩ (.int .i64 t729)).setCell ⟨gb736, 1, none⟩ (.int .i64 t730)).setCell ⟨gb736, 2, none⟩ (.int .i64 t731)).setCell ⟨gb736, 3, none⟩ (.slice Ao33 t732.length co33)) = w35 at n0_ n1_ n2_ n3_ n4_ ⊢
                      have HO728 := n0_
                      have HO734 := n1_
                      have BK725 := n2_
                      have BK736 := n3_
                      have HB := n4_
                      clear n0_ n1_ n2_ n3_ n4_
                      have n0_ := Aside0.mk (Kd.R_drew HO728.out)
                      have n1_ := Aside0.mk (Kd.S_drew HO734.out)
                      have n2_ := Aside0.mk (blk_drew BK725.out)
                      have n3_ := Aside0.mk (blk_drew BK736.out)
                      have n4_ := Aside0.mk (below_drew1 HB.out)
                      clear HO728
                      clear HO734
                      clear BK725
                      clear BK736
                      clear HB
                      have HO728 := n0_
                      have HO734 := n1_
                      have BK725 := n2_
                      have BK736 := n3_
                      have HB := n4_
                      clear n0_ n1_ n2_ n3_ n4_
                      refine start_ (n := 13) (S := fun w' => w'.cell? ⟨gb725, 0, none⟩ = some (.int .u64 a4_0) ∧ w'.cell? ⟨gb725, 1, none⟩ = some (.int .u64 a4_1)) (ds := []) #[false, false, false, false, false, false, false, false, false, false, false, false, false] (by kernel_rfl) rfl rfl ⟨(blk_cell BK725.out 0).trans rfl, (blk_cell BK725.out 1).trans rfl⟩ (fun hHeld => ?_); refine with_tabW attestorlaw07_TreeReplaces.tab6 attestorlaw07_TreeReplaces.bits6 (fun HT_ HW_ => ?_)
                      generalize w35.drew = w36 at HO728 HO734 BK725 BK736 HB hHeld ⊢
                      refine pure_ (i := 0) (N := some 52) (v := ?_) (a' := ?_) #[true, false, false, false, false, false, false, false, false, false, false, false, false] rfl rfl (any_of HT_.out (by kernel_rfl)) (fun _ _ _ h => h) (Or.inl ⟨by rfl, ?_⟩) ?_ ?_
                      rotate_left
                      · intro w'
                        go_simp
                        with_reducible rfl
                      rotate_left
                      · simp only [Act.put, List.setIfInBounds_toArray, List.set_cons_zero, List.set_cons_succ, i64_w, i32_w]
                        rfl
                      refine pure_ (i := 2) (N := some 54) (v := ?_) (a' := ?_) #[true, false, true, false, false, false, false, false, false, false, false, false, false] rfl rfl (any_of HT_.out (by kernel_rfl)) (fun _ _ _ h => h) (Or.inl ⟨by rfl, ?_⟩) ?_ ?_
                      rotate_left
                      · intro w'
                        go_simp
                        with_reducible rfl
                      rotate_left
                      · simp only [Act.put, List.setIfInBounds_toArray, List.set_cons_zero, List.set_cons_succ, i64_w, i32_w]
                        rfl
                      refine pure_ (i := 5) (N := some 57) (v := ?_) (a' := ?_) #[true, false, true, false, false, true, false, false, false, false, false, false, false] rfl rfl (any_of HT_.out (by kernel_rfl)) (fun _ _ _ h => h) (Or.inl ⟨by rfl, ?_⟩) ?_ ?_
                      rotate_left
                      · intro w'
                        go_simp
                        with_reducible rfl
                      rotate_left
                      · simp only [Act.put, List.setIfInBounds_toArray, List.set_cons_zero, List.set_cons_succ, i64_w, i32_w]
                        rfl
                      refine pure_ (i := 7) (N := some 59) (v := ?_) (a' := ?_) #[true, false, true, false, false, true, false, true, false, false, false, false, false] rfl rfl (any_of HT_.out (by kernel_rfl)) (fun _ _ _ h => h) (Or.inl ⟨by rfl, ?_⟩) ?_ ?_
                      rotate_left
                      · intro w'
                        go_simp
                        with_reducible rfl
                      rotate_left
                      · simp only [Act.put, List.setIfInBounds_toArray, List.set_cons_zero, List.set_cons_succ, i64_w, i32_w]
                        rfl
                      refine take_ (i := 1) (N := some 53) (v := ?_) (a' := ?_) #[true, true, true, false, false, true, false, true, false, false, false, false, false] rfl rfl (take_ofW HT_.out HW_.out (by kernel_rfl)) (fun _ _ _ h => h) (Or.inl ⟨by rfl, ?_⟩) hHeld ?_ ?_
                      rotate_left
                      · rintro w' ⟨s0, s1⟩
                        go_simp
                        with_reducible rfl
                      rotate_left
                      · simp only [Act.put, List.setIfInBounds_toArray, List.set_cons_zero, List.set_cons_succ, i64_w, i32_w]
                        rfl
                      refine take_ (i := 6) (N := some 58) (v := ?_) (a' := ?_) #[true, true, true, false, false, true, true, true, false, false, false, false, false] rfl rfl (take_ofW HT_.out HW_.out (by kernel_rfl)) (fun _ _ _ h => h) (Or.inl ⟨by rfl, ?_⟩) hHeld ?_ ?_
                      rotate_left
                      · rintro w' ⟨s0, s1⟩
                        go_simp
                        with_reducible rfl
                      rotate_left
                      · simp only [Act.put, List.setIfInBounds_toArray, List.set_cons_zero, List.set_cons_succ, i64_w, i32_w]
                        rfl
                      refine join_ (σ := Nat) 1 #[true, true, true, true, true, true, true, true, true, true, true, true, false] (fun s_ => [(55, .int .u64 t737), (60, .int .u64 t738), (18, .pointer (some ⟨s_, 0, none⟩)), (56, .int .u64 (Int.tmod a4_1 t737)), (61, .int .u64 (Int.tmod a4_0 t738)), (62, .agg #[.int .u64 (Int.tmod a4_1 t737), .int .u64 (Int.tmod a4_0 t738)])]) (fun s_ w' => (w'.cell? ⟨gb725, 0, none⟩ = some (.int .u64 a4_0) ∧ w'.cell? ⟨gb725, 1, none⟩ = some (.int .u64 a4_1)) ∧ (Kd.R k36 36 w' w.heap.size (fun k_ => k_ ≠ s_) (.slice Ao28 t726.length co28) t726) ∧ (Kd.S (Kd.slice 36 k36) 22 w' w.heap.size (fun k_ => some k_ ≠ (.slice Ao28 t726.length co28 : Value).ownBlock ∧ k_ ≠ s_) (.slice Ao33 t732.length co33) t732) ∧ (w'.heap[gb725]? = some (.cells #[.int .u64 a4_0, .int .u64 a4_1] 35 (0, 0))) ∧ (w'.heap[gb736]? = some (.cells #[.int .i64 t729, .int .i64 t730, .int .i64 t731, .slice Ao33 t732.length co33] 26 (0, 0))) ∧ (w'.heap[s_]? = some (.cells #[.int .u64 0, .int .u64 0] 36 (0, 0))) ∧ (w.heap.size ≤ s_) ∧ (w.heap.size ≤ s_) ∧ (gb725 ≠ s_) ∧ (s_ ≠ gb725) ∧ (gb736 ≠ s_) ∧ (s_ ≠ gb736) ∧ (Below w.heap.size w w')) ?_ ?_
                      rotate_left
                      · intro hCont
                        refine two_ (i := 3) (j := 11) (Ni := some 55) (Nj := some 18) #[true, true, true, true, false, true, true, true, false, false, false, false, false] #[true, true, true, false, false, true, true, true, false, false, false, true, false] rfl rfl rfl rfl (two_of HT_.out (by kernel_rfl)) (by decide) (by decide) (fun K hK => ?_) (fun K hK => ?_)
                        · skip
                          refine goes_ Tryd.func34 (by kernel_rfl) rfl #[.int .i64 (wrap64 (Int.tmod a0 4))] (by rfl) rfl rfl (by (try simp only [List.map_toArray, List.map_cons, List.map_nil]); first | done | rfl | (simp only [List.length_drop, List.length_take]; rfl) | (go_simp; done) | (go_simp; rw [Int.tmod_eq_emod_of_nonneg (by omega)]; omega)) ?_
                          with_reducible refine (attestorref01_P.calls (wrap64 (Int.tmod a0 4)) t737 _ A10.out).mono ?_
                          rintro e w' ⟨rfl, ⟨nd, rfl⟩⟩
                          refine ⟨_, rfl, ?_⟩
                          (try (rw [drewN_self w36]; generalize hq_ : World.drewN w36 _ = w36; have n0_ := Aside0.mk (Kd.R_at hq_ HO728.out); have n1_ := Aside0.mk (Kd.S_at hq_ HO734.out); have n2_ := Aside0.mk (blk_at hq_ BK725.out); have n3_ := Aside0.mk (blk_at hq_ BK736.out); have n4_ := Aside0.mk (below_at hq_ HB.out); clear hq_ HO728 HO734 BK725 BK736 HB; have HO728 := n0_; have HO734 := n1_; have BK725 := n2_; have BK736 := n3_; have HB := n4_; clear n0_ n1_ n2_ n3_ n4_))
                          refine hK.out _ _ ⟨(blk_cell BK725.out 0).trans rfl, (blk_cell BK725.out 1).trans rfl⟩ (fun hHeld => ?_)
                          clear hK K
                          refine norm_ (a' := ?_) ?_ ?_
                          rotate_left
                          · show Act.put _ (some 55) _ = _
                            simp only [Act.put, List.setIfInBounds_toArray, List.set_cons_zero, List.set_cons_succ, i64_w, i32_w]
                            rfl
                          refine pure_ (i := 4) (N := some 56) (v := ?_) (a' := ?_) #[true, true, true, true, true, true, true, true, false, false, false, false, false] rfl rfl (any_of HT_.out (by kernel_rfl)) (fun _ _ _ h => h) (Or.inl ⟨by rfl, ?_⟩) ?_ ?_
                          rotate_left
                          · intro w'
                            go_simp
                            with_reducible rfl
                          rotate_left
                          · simp only [Act.put, List.setIfInBounds_toArray, List.set_cons_zero, List.set_cons_succ, i64_w, i32_w]
                            rfl
                          refine two_ (i := 8) (j := 11) (Ni := some 60) (Nj := some 18) #[true, true, true, true, true, true, true, true, true, false, false, false, false] #[true, true, true, true, true, true, true, true, false, false, false, true, false] rfl rfl rfl rfl (two_of HT_.out (by kernel_rfl)) (by decide) (by decide) (fun K hK => ?_) (fun K hK => ?_)
                          · skip
                            refine goes_ Tryd.func34 (by kernel_rfl) rfl #[.int .i64 (wrap64 (Int.tmod a0 4))] (by rfl) rfl rfl (by (try simp only [List.map_toArray, List.map_cons, List.map_nil]); first | done | rfl | (simp only [List.length_drop, List.length_take]; rfl) | (go_simp; done) | (go_simp; rw [Int.tmod_eq_emod_of_nonneg (by omega)]; omega)) ?_
                            with_reducible refine (attestorref01_P.calls (wrap64 (Int.tmod a0 4)) t738 _ A12.out).mono ?_
                            rintro e w' ⟨rfl, ⟨nd, rfl⟩⟩
                            refine ⟨_, rfl, ?_⟩
                            (try (rw [drewN_self w36]; generalize hq_ : World.drewN w36 _ = w36; have n0_ := Aside0.mk (Kd.R_at hq_ HO728.out); have n1_ := Aside0.mk (Kd.S_at hq_ HO734.out); have n2_ := Aside0.mk (blk_at hq_ BK725.out); have n3_ := Aside0.mk (blk_at hq_ BK736.out); have n4_ := Aside0.mk (below_at hq_ HB.out); clear hq_ HO728 HO734 BK725 BK736 HB; have HO728 := n0_; have HO734 := n1_; have BK725 := n2_; have BK736 := n3_; have HB := n4_; clear n0_ n1_ n2_ n3_ n4_))
                            refine hK.out _ _ ⟨(blk_cell BK725.out 0).trans rfl, (blk_cell BK725.out 1).trans rfl⟩ (fun hHeld => ?_)
                            clear hK K
                            refine norm_ (a' := ?_) ?_ ?_
                            rotate_left
                            · show Act.put _ (some 60) _ = _
                              simp only [Act.put, List.setIfInBounds_toArray, List.set_cons_zero, List.set_cons_succ, i64_w, i32_w]
                              rfl
                            refine pure_ (i := 9) (N := some 61) (v := ?_) (a' := ?_) #[true, true, true, true, true, true, true, true, true, true, false, false, false] rfl rfl (any_of HT_.out (by kernel_rfl)) (fun _ _ _ h => h) (Or.inl ⟨by rfl, ?_⟩) ?_ ?_
                            rotate_left
                            · intro w'
                              go_simp
                              with_reducible rfl
                            rotate_left
                            · simp only [Act.put, List.setIfInBounds_toArray, List.set_cons_zero, List.set_cons_succ, i64_w, i32_w]
                              rfl
                            refine pure_ (i := 10) (N := some 62) (v := ?_) (a' := ?_) #[true, true, true, true, true, true, true, true, true, true, true, false, false] rfl rfl (any_of HT_.out (by kernel_rfl)) (fun _ _ _ h => h) (Or.inl ⟨by rfl, ?_⟩) ?_ ?_
                            rotate_left
                            · intro w'
                              go_simp
                              with_reducible rfl
                            rotate_left
                            · simp only [Act.put, List.setIfInBounds_toArray, List.set_cons_zero, List.set_cons_succ, i64_w, i32_w]
                              rfl
                            refine one_ (i := 11) (N := some 18) #[true, true, true, true, true, true, true, true, true, true, true, true, false] rfl rfl (one_of HT_.out (by kernel_rfl)) (by decide) (fun K hK => ?_)
                            refine box_step ?hg (N := 18) ?hd (cs := #[.int .u64 0, .int .u64 0]) (t := 36) ?hr ?_; (case hd => rfl); (case hg => rfl); (case hr => first | (go_simp; done) | (go_simp; rfl))
                            intro gb739 hg w37 hbox hb
                            have n0_ := Aside0.mk (Kd.R_below (Kd.R_elderB (by (with_reducible repeat (first | apply Kd.R_alloc | apply Kd.R_drewN | apply Kd.R_drew)); exact HO728.out) gb739 (Nat.le_of_eq hg.symm)) hb)
                            have n1_ := Aside0.mk (Kd.S_below (Kd.S_elderB (by (with_reducible repeat (first | apply Kd.S_alloc | apply Kd.S_drewN | apply Kd.S_drew)); exact HO734.out) gb739 (Nat.le_of_eq hg.symm)) hb)
                            have n2_ := Aside0.mk (blk_below (g := gb725) (o := .cells #[.int .u64 a4_0, .int .u64 a4_1] 35 (0, 0)) (by (with_reducible repeat (first | refine blk_drewN ?_ _ | refine blk_drew ?_ | refine blk_alloc ?_ _)); exact BK725.out) hb)
                            have n3_ := Aside0.mk (blk_below (g := gb736) (o := .cells #[.int .i64 t729, .int .i64 t730, .int .i64 t731, .slice Ao33 t732.length co33] 26 (0, 0)) (by (with_reducible repeat (first | refine blk_drewN ?_ _ | refine blk_drew ?_ | refine blk_alloc ?_ _)); exact BK736.out) hb)
                            have n4_ := Aside0.mk (below_step (by repeat (first | (with_reducible first | exact HB.out | apply below_alloc | apply pw_below_drewN | apply below_drew1 | refine below_set ?_ GE725.out | refine below_set ?_ GE736.out) | exact HB.out)) hb)
                            have n5_ := Aside0.mk (hbox)
                            have n6_ := Aside0.mk ((by rw [hg]; exact (below_size (by repeat (first | (with_reducible first | exact HB.out | apply below_alloc | apply pw_below_drewN | apply below_drew1 | refine below_set ?_ GE725.out | refine below_set ?_ GE736.out) | exact HB.out))) : w.heap.size ≤ gb739))
                            have n7_ := Aside0.mk ((by rw [hg]; exact (below_size (by repeat (first | (with_reducible first | exact HB.out | apply below_alloc | apply pw_below_drewN | apply below_drew1 | refine below_set ?_ GE725.out | refine below_set ?_ GE736.out) | exact HB.out))) : w.heap.size ≤ gb739))
                            have n8_ := Aside0.mk ((by rw [hg]; exact Nat.ne_of_lt (blk_lt (g := gb725) (o := .cells #[.int .u64 a4_0, .int .u64 a4_1] 35 (0, 0)) (by (with_reducible repeat (first | refine blk_drewN ?_ _ | refine blk_drew ?_ | refine blk_alloc ?_ _)); exact BK725.out)) : gb725 ≠ gb739))
                            have n9_ := Aside0.mk ((by rw [hg]; exact Nat.ne_of_gt (blk_lt (g := gb725) (o := .cells #[.int .u64 a4_0, .int .u64 a4_1] 35 (0, 0)) (by (with_reducible repeat (first | refine blk_drewN ?_ _ | refine blk_drew ?_ | refine blk_alloc ?_ _)); exact BK725.out)) : gb739 ≠ gb725))
                            have n10_ := Aside0.mk ((by rw [hg]; exact Nat.ne_of_lt (blk_lt (g := gb736) (o := .cells #[.int .i64 t729, .int .i64 t730, .int .i64 t731, .slice Ao33 t732.length co33] 26 (0, 0)) (by (with_reducible repeat (first | refine blk_drewN ?_ _ | refine blk_drew ?_ | refine blk_alloc ?_ _)); exact BK736.out)) : gb736 ≠ gb739))
                            have n11_ := Aside0.mk ((by rw [hg]; exact Nat.ne_of_gt (blk_lt (g := gb736) (o := .cells #[.int .i64 t729, .int .i64 t730, .int .i64 t731, .slice Ao33 t732.length co33] 26 (0, 0)) (by (with_reducible repeat (first | refine blk_drewN ?_ _ | refine blk_drew ?_ | refine blk_alloc ?_ _)); exact BK736.out)) : gb739 ≠ gb736))
                            clear HO728
                            clear HO734
                            clear BK725
                            clear BK736
                            clear HB
                            have HO728 := n0_
                            have HO734 := n1_
                            have BK725 := n2_
                            have BK736 := n3_
                            have HB := n4_
                            have BK739 := n5_
                            have GW739 := n6_
                            have GE739 := n7_
                            have NB725_739 := n8_
                            have NB739_725 := n9_
                            have NB736_739 := n10_
                            have NB739_736 := n11_
                            clear n0_ n1_ n2_ n3_ n4_ n5_ n6_ n7_ n8_ n9_ n10_ n11_
                            clear hb hbox hg
                            refine hK.out _ _ ⟨(blk_cell BK725.out 0).trans rfl, (blk_cell BK725.out 1).trans rfl⟩ (fun hHeld => ?_)
                            clear hK K
                            refine norm_ (a' := ?_) ?_ ?_
                            rotate_left
                            · show Act.put _ (some 18) _ = _
                              simp only [Act.put, List.setIfInBounds_toArray, List.set_cons_zero, List.set_cons_succ, i64_w, i32_w]
                              rfl
                            exact norm_ (by simp only [putAll, Act.put, List.setIfInBounds_toArray, List.set_cons_zero, List.set_cons_succ]) (hCont (gb739) _ ⟨hHeld, (by (with_reducible repeat (first | apply Kd.R_alloc | apply Kd.R_drewN | apply Kd.R_drew)); exact Kd.R_mono HO728.out (fun _ hk => hk.2)), (by (with_reducible repeat (first | apply Kd.S_alloc | apply Kd.S_drewN | apply Kd.S_drew)); exact HO734.out), (by (with_reducible repeat (first | refine blk_drewN ?_ _ | refine blk_drew ?_ | refine blk_alloc ?_ _)); exact BK725.out), (by (with_reducible repeat (first | refine blk_drewN ?_ _ | refine blk_drew ?_ | refine blk_alloc ?_ _)); exact BK736.out), (by (with_reducible repeat (first | refine blk_drewN ?_ _ | refine blk_drew ?_ | refine blk_alloc ?_ _)); exact BK739.out), GW739.out, GE739.out, NB725_739.out, NB739_725.out, NB736_739.out, NB739_736.out, (by repeat (first | (with_reducible first | exact HB.out | apply below_alloc | apply pw_below_drewN | apply below_drew1 | refine below_set ?_ GE725.out | refine below_set ?_ GE736.out | refine below_set ?_ GE739.out) | exact HB.out))⟩)
                          · skip
                            refine box_step ?hg (N := 18) ?hd (cs := #[.int .u64 0, .int .u64 0]) (t := 36) ?hr ?_; (case hd => rfl); (case hg => rfl); (case hr => first | (go_simp; done) | (go_simp; rfl))
                            intro gb739 hg w37 hbox hb
                            have n0_ := Aside0.mk (Kd.R_below (Kd.R_elderB (by (with_reducible repeat (first | apply Kd.R_alloc | apply Kd.R_drewN | apply Kd.R_drew)); exact HO728.out) gb739 (Nat.le_of_eq hg.symm)) hb)
                            have n1_ := Aside0.mk (Kd.S_below (Kd.S_elderB (by (with_reducible repeat (first | apply Kd.S_alloc | apply Kd.S_drewN | apply Kd.S_drew)); exact HO734.out) gb739 (Nat.le_of_eq hg.symm)) hb)
                            have n2_ := Aside0.mk (blk_below (g := gb725) (o := .cells #[.int .u64 a4_0, .int .u64 a4_1] 35 (0, 0)) (by (with_reducible repeat (first | refine blk_drewN ?_ _ | refine blk_drew ?_ | refine blk_alloc ?_ _)); exact BK725.out) hb)
                            have n3_ := Aside0.mk (blk_below (g := gb736) (o := .cells #[.int .i64 t729, .int .i64 t730, .int .i64 t731, .slice Ao33 t732.length co33] 26 (0, 0)) (by (with_reducible repeat (first | refine blk_drewN ?_ _ | refine blk_drew ?_ | refine blk_alloc ?_ _)); exact BK736.out) hb)
                            have n4_ := Aside0.mk (below_step (by repeat (first | (with_reducible first | exact HB.out | apply below_alloc | apply pw_below_drewN | apply below_drew1 | refine below_set ?_ GE725.out | refine below_set ?_ GE736.out) | exact HB.out)) hb)
                            have n5_ := Aside0.mk (hbox)
                            have n6_ := Aside0.mk ((by rw [hg]; exact (below_size (by repeat (first | (with_reducible first | exact HB.out | apply below_alloc | apply pw_below_drewN | apply below_drew1 | refine below_set ?_ GE725.out | refine below_set ?_ GE736.out) | exact HB.out))) : w.heap.size ≤ gb739))
                            have n7_ := Aside0.mk ((by rw [hg]; exact (below_size (by repeat (first | (with_reducible first | exact HB.out | apply below_alloc | apply pw_below_drewN | apply below_drew1 | refine below_set ?_ GE725.out | refine below_set ?_ GE736.out) | exact HB.out))) : w.heap.size ≤ gb739))
                            have n8_ := Aside0.mk ((by rw [hg]; exact Nat.ne_of_lt (blk_lt (g := gb725) (o := .cells #[.int .u64 a4_0, .int .u64 a4_1] 35 (0, 0)) (by (with_reducible repeat (first | refine blk_drewN ?_ _ | refine blk_drew ?_ | refine blk_alloc ?_ _)); exact BK725.out)) : gb725 ≠ gb739))
                            have n9_ := Aside0.mk ((by rw [hg]; exact Nat.ne_of_gt (blk_lt (g := gb725) (o := .cells #[.int .u64 a4_0, .int .u64 a4_1] 35 (0, 0)) (by (with_reducible repeat (first | refine blk_drewN ?_ _ | refine blk_drew ?_ | refine blk_alloc ?_ _)); exact BK725.out)) : gb739 ≠ gb725))
                            have n10_ := Aside0.mk ((by rw [hg]; exact Nat.ne_of_lt (blk_lt (g := gb736) (o := .cells #[.int .i64 t729, .int .i64 t730, .int .i64 t731, .slice Ao33 t732.length co33] 26 (0, 0)) (by (with_reducible repeat (first | refine blk_drewN ?_ _ | refine blk_drew ?_ | refine blk_alloc ?_ _)); exact BK736.out)) : gb736 ≠ gb739))
                            have n11_ := Aside0.mk ((by rw [hg]; exact Nat.ne_of_gt (blk_lt (g := gb736) (o := .cells #[.int .i64 t729, .int .i64 t730, .int .i64 t731, .slice Ao33 t732.length co33] 26 (0, 0)) (by (with_reducible repeat (first | refine blk_drewN ?_ _ | refine blk_drew ?_ | refine blk_alloc ?_ _)); exact BK736.out)) : gb739 ≠ gb736))
                            clear HO728
                            clear HO734
                            clear BK725
                            clear BK736
                            clear HB
                            have HO728 := n0_
                            have HO734 := n1_
                            have BK725 := n2_
                            have BK736 := n3_
                            have HB := n4_
                            have BK739 := n5_
                            have GW739 := n6_
                            have GE739 := n7_
                            have NB725_739 := n8_
                            have NB739_725 := n9_
                            have NB736_739 := n10_
                            have NB739_736 := n11_
                            clear n0_ n1_ n2_ n3_ n4_ n5_ n6_ n7_ n8_ n9_ n10_ n11_
                            clear hb hbox hg
                            refine hK.out _ _ ⟨(blk_cell BK725.out 0).trans rfl, (blk_cell BK725.out 1).trans rfl⟩ (fun hHeld => ?_)
                            clear hK K
                            refine norm_ (a' := ?_) ?_ ?_
                            rotate_left
                            · show Act.put _ (some 18) _ = _
                              simp only [Act.put, List.setIfInBounds_toArray, List.set_cons_zero, List.set_cons_succ, i64_w, i32_w]
                              rfl
                            refine one_ (i := 8) (N := some 60) #[true, true, true, true, true, true, true, true, true, false, false, true, false] rfl rfl (one_of HT_.out (by kernel_rfl)) (by decide) (fun K hK => ?_)
                            refine goes_ Tryd.func34 (by kernel_rfl) rfl #[.int .i64 (wrap64 (Int.tmod a0 4))] (by rfl) rfl rfl (by (try simp only [List.map_toArray, List.map_cons, List.map_nil]); first | done | rfl | (simp only [List.length_drop, List.length_take]; rfl) | (go_simp; done) | (go_simp; rw [Int.tmod_eq_emod_of_nonneg (by omega)]; omega)) ?_
                            with_reducible refine (attestorref01_P.calls (wrap64 (Int.tmod a0 4)) t738 _ A12.out).mono ?_
                            rintro e w' ⟨rfl, ⟨nd, rfl⟩⟩
                            refine ⟨_, rfl, ?_⟩
                            (try (rw [drewN_self w37]; generalize hq_ : World.drewN w37 _ = w37; have n0_ := Aside0.mk (Kd.R_at hq_ HO728.out); have n1_ := Aside0.mk (Kd.S_at hq_ HO734.out); have n2_ := Aside0.mk (blk_at hq_ BK725.out); have n3_ := Aside0.mk (blk_at hq_ BK736.out); have n4_ := Aside0.mk (blk_at hq_ BK739.out); have n5_ := Aside0.mk (below_at hq_ HB.out); clear hq_ HO728 HO734 BK725 BK736 BK739 HB; have HO728 := n0_; have HO734 := n1_; have BK725 := n2_; have BK736 := n3_; have BK739 := n4_; have HB := n5_; clear n0_ n1_ n2_ n3_ n4_ n5_))
                            refine hK.out _ _ ⟨(blk_cell BK725.out 0).trans rfl, (blk_cell BK725.out 1).trans rfl⟩ (fun hHeld => ?_)
                            clear hK K
                            refine norm_ (a' := ?_) ?_ ?_
                            rotate_left
                            · show Act.put _ (some 60) _ = _
                              simp only [Act.put, List.setIfInBounds_toArray, List.set_cons_zero, List.set_cons_succ, i64_w, i32_w]
                              rfl
                            refine pure_ (i := 9) (N := some 61) (v := ?_) (a' := ?_) #[true, true, true, true, true, true, true, true, true, true, false, true, false] rfl rfl (any_of HT_.out (by kernel_rfl)) (fun _ _ _ h => h) (Or.inl ⟨by rfl, ?_⟩) ?_ ?_
                            rotate_left
                            · intro w'
                              go_simp
                              with_reducible rfl
                            rotate_left
                            · simp only [Act.put, List.setIfInBounds_toArray, List.set_cons_zero, List.set_cons_succ, i64_w, i32_w]
                              rfl
                            refine pure_ (i := 10) (N := some 62) (v := ?_) (a' := ?_) #[true, true, true, true, true, true, true, true, true, true, true, true, false] rfl rfl (any_of HT_.out (by kernel_rfl)) (fun _ _ _ h => h) (Or.inl ⟨by rfl, ?_⟩) ?_ ?_
                            rotate_left
                            · intro w'
                              go_simp
                              with_reducible rfl
                            rotate_left
                            · simp only [Act.put, List.setIfInBounds_toArray, List.set_cons_zero, List.set_cons_succ, i64_w, i32_w]
                              rfl
                            exact norm_ (by simp only [putAll, Act.put, List.setIfInBounds_toArray, List.set_cons_zero, List.set_cons_succ]) (hCont (gb739) _ ⟨hHeld, (by (with_reducible repeat (first | apply Kd.R_alloc | apply Kd.R_drewN | apply Kd.R_drew)); exact Kd.R_mono HO728.out (fun _ hk => hk.2)), (by (with_reducible repeat (first | apply Kd.S_alloc | apply Kd.S_drewN | apply Kd.S_drew)); exact HO734.out), (by (with_reducible repeat (first | refine blk_drewN ?_ _ | refine blk_drew ?_ | refine blk_alloc ?_ _)); exact BK725.out), (by (with_reducible repeat (first | refine blk_drewN ?_ _ | refine blk_drew ?_ | refine blk_alloc ?_ _)); exact BK736.out), (by (with_reducible repeat (first | refine blk_drewN ?_ _ | refine blk_drew ?_ | refine blk_alloc ?_ _)); exact BK739.out), GW739.out, GE739.out, NB725_739.out, NB739_725.out, NB736_739.out, NB739_736.out, (by repeat (first | (with_reducible first | exact HB.out | apply below_alloc | apply pw_below_drewN | apply below_drew1 | refine below_set ?_ GE725.out | refine below_set ?_ GE736.out | refine below_set ?_ GE739.out) | exact HB.out))⟩)
                        · skip
                          refine box_step ?hg (N := 18) ?hd (cs := #[.int .u64 0, .int .u64 0]) (t := 36) ?hr ?_; (case hd => rfl); (case hg => rfl); (case hr => first | (go_simp; done) | (go_simp; rfl))
                          intro gb739 hg w37 hbox hb
                          have n0_ := Aside0.mk (Kd.R_below (Kd.R_elderB (by (with_reducible repeat (first | apply Kd.R_alloc | apply Kd.R_drewN | apply Kd.R_drew)); exact HO728.out) gb739 (Nat.le_of_eq hg.symm)) hb)
                          have n1_ := Aside0.mk (Kd.S_below (Kd.S_elderB (by (with_reducible repeat (first | apply Kd.S_alloc | apply Kd.S_drewN | apply Kd.S_drew)); exact HO734.out) gb739 (Nat.le_of_eq hg.symm)) hb)
                          have n2_ := Aside0.mk (blk_below (g := gb725) (o := .cells #[.int .u64 a4_0, .int .u64 a4_1] 35 (0, 0)) (by (with_reducible repeat (first | refine blk_drewN ?_ _ | refine blk_drew ?_ | refine blk_alloc ?_ _)); exact BK725.out) hb)
                          have n3_ := Aside0.mk (blk_below (g := gb736) (o := .cells #[.int .i64 t729, .int .i64 t730, .int .i64 t731, .slice Ao33 t732.length co33] 26 (0, 0)) (by (with_reducible repeat (first | refine blk_drewN ?_ _ | refine blk_drew ?_ | refine blk_alloc ?_ _)); exact BK736.out) hb)
                          have n4_ := Aside0.mk (below_step (by repeat (first | (with_reducible first | exact HB.out | apply below_alloc | apply pw_below_drewN | apply below_drew1 | refine below_set ?_ GE725.out | refine below_set ?_ GE736.out) | exact HB.out)) hb)
                          have n5_ := Aside0.mk (hbox)
                          have n6_ := Aside0.mk ((by rw [hg]; exact (below_size (by repeat (first | (with_reducible first | exact HB.out | apply below_alloc | apply pw_below_drewN | apply below_drew1 | refine below_set ?_ GE725.out | refine below_set ?_ GE736.out) | exact HB.out))) : w.heap.size ≤ gb739))
                          have n7_ := Aside0.mk ((by rw [hg]; exact (below_size (by repeat (first | (with_reducible first | exact HB.out | apply below_alloc | apply pw_below_drewN | apply below_drew1 | refine below_set ?_ GE725.out | refine below_set ?_ GE736.out) | exact HB.out))) : w.heap.size ≤ gb739))
                          have n8_ := Aside0.mk ((by rw [hg]; exact Nat.ne_of_lt (blk_lt (g := gb725) (o := .cells #[.int .u64 a4_0, .int .u64 a4_1] 35 (0, 0)) (by (with_reducible repeat (first | refine blk_drewN ?_ _ | refine blk_drew ?_ | refine blk_alloc ?_ _)); exact BK725.out)) : gb725 ≠ gb739))
                          have n9_ := Aside0.mk ((by rw [hg]; exact Nat.ne_of_gt (blk_lt (g := gb725) (o := .cells #[.int .u64 a4_0, .int .u64 a4_1] 35 (0, 0)) (by (with_reducible repeat (first | refine blk_drewN ?_ _ | refine blk_drew ?_ | refine blk_alloc ?_ _)); exact BK725.out)) : gb739 ≠ gb725))
                          have n10_ := Aside0.mk ((by rw [hg]; exact Nat.ne_of_lt (blk_lt (g := gb736) (o := .cells #[.int .i64 t729, .int .i64 t730, .int .i64 t731, .slice Ao33 t732.length co33] 26 (0, 0)) (by (with_reducible repeat (first | refine blk_drewN ?_ _ | refine blk_drew ?_ | refine blk_alloc ?_ _)); exact BK736.out)) : gb736 ≠ gb739))
                          have n11_ := Aside0.mk ((by rw [hg]; exact Nat.ne_of_gt (blk_lt (g := gb736) (o := .cells #[.int .i64 t729, .int .i64 t730, .int .i64 t731, .slice Ao33 t732.length co33] 26 (0, 0)) (by (with_reducible repeat (first | refine blk_drewN ?_ _ | refine blk_drew ?_ | refine blk_alloc ?_ _)); exact BK736.out)) : gb739 ≠ gb736))
                          clear HO728
                          clear HO734
                          clear BK725
                          clear BK736
                          clear HB
                          have HO728 := n0_
                          have HO734 := n1_
                          have BK725 := n2_
                          have BK736 := n3_
                          have HB := n4_
                          have BK739 := n5_
                          have GW739 := n6_
                          have GE739 := n7_
                          have NB725_739 := n8_
                          have NB739_725 := n9_
                          have NB736_739 := n10_
                          have NB739_736 := n11_
                          clear n0_ n1_ n2_ n3_ n4_ n5_ n6_ n7_ n8_ n9_ n10_ n11_
                          clear hb hbox hg
                          refine hK.out _ _ ⟨(blk_cell BK725.out 0).trans rfl, (blk_cell BK725.out 1).trans rfl⟩ (fun hHeld => ?_)
                          clear hK K
                          refine norm_ (a' := ?_) ?_ ?_
                          rotate_left
                          · show Act.put _ (some 18) _ = _
                            simp only [Act.put, List.setIfInBounds_toArray, List.set_cons_zero, List.set_cons_succ, i64_w, i32_w]
                            rfl
                          refine one_ (i := 3) (N := some 55) #[true, true, true, true, false, true, true, true, false, false, false, true, false] rfl rfl (one_of HT_.out (by kernel_rfl)) (by decide) (fun K hK => ?_)
                          refine goes_ Tryd.func34 (by kernel_rfl) rfl #[.int .i64 (wrap64 (Int.tmod a0 4))] (by rfl) rfl rfl (by (try simp only [List.map_toArray, List.map_cons, List.map_nil]); first | done | rfl | (simp only [List.length_drop, List.length_take]; rfl) | (go_simp; done) | (go_simp; rw [Int.tmod_eq_emod_of_nonneg (by omega)]; omega)) ?_
                          with_reducible refine (attestorref01_P.calls (wrap64 (Int.tmod a0 4)) t737 _ A10.out).mono ?_
                          rintro e w' ⟨rfl, ⟨nd, rfl⟩⟩
                          refine ⟨_, rfl, ?_⟩
                          (try (rw [drewN_self w37]; generalize hq_ : World.drewN w37 _ = w37; have n0_ := Aside0.mk (Kd.R_at hq_ HO728.out); have n1_ := Aside0.mk (Kd.S_at hq_ HO734.out); have n2_ := Aside0.mk (blk_at hq_ BK725.out); have n3_ := Aside0.mk (blk_at hq_ BK736.out); have n4_ := Aside0.mk (blk_at hq_ BK739.out); have n5_ := Aside0.mk (below_at hq_ HB.out); clear hq_ HO728 HO734 BK725 BK736 BK739 HB; have HO728 := n0_; have HO734 := n1_; have BK725 := n2_; have BK736 := n3_; have BK739 := n4_; have HB := n5_; clear n0_ n1_ n2_ n3_ n4_ n5_))
                          refine hK.out _ _ ⟨(blk_cell BK725.out 0).trans rfl, (blk_cell BK725.out 1).trans rfl⟩ (fun hHeld => ?_)
                          clear hK K
                          refine norm_ (a' := ?_) ?_ ?_
                          rotate_left
                          · show Act.put _ (some 55) _ = _
                            simp only [Act.put, List.setIfInBounds_toArray, List.set_cons_zero, List.set_cons_succ, i64_w, i32_w]
                            rfl
                          refine pure_ (i := 4) (N := some 56) (v := ?_) (a' := ?_) #[true, true, true, true, true, true, true, true, false, false, false, true, false] rfl rfl (any_of HT_.out (by kernel_rfl)) (fun _ _ _ h => h) (Or.inl ⟨by rfl, ?_⟩) ?_ ?_
                          rotate_left
                          · intro w'
                            go_simp
                            with_reducible rfl
                          rotate_left
                          · simp only [Act.put, List.setIfInBounds_toArray, List.set_cons_zero, List.set_cons_succ, i64_w, i32_w]
                            rfl
                          refine one_ (i := 8) (N := some 60) #[true, true, true, true, true, true, true, true, true, false, false, true, false] rfl rfl (one_of HT_.out (by kernel_rfl)) (by decide) (fun K hK => ?_)
                          refine goes_ Tryd.func34 (by kernel_rfl) rfl #[.int .i64 (wrap64 (Int.tmod a0 4))] (by rfl) rfl rfl (by (try simp only [List.map_toArray, List.map_cons, List.map_nil]); first | done | rfl | (simp only [List.length_drop, List.length_take]; rfl) | (go_simp; done) | (go_simp; rw [Int.tmod_eq_emod_of_nonneg (by omega)]; omega)) ?_
                          with_reducible refine (attestorref01_P.calls (wrap64 (Int.tmod a0 4)) t738 _ A12.out).mono ?_
                          rintro e w' ⟨rfl, ⟨nd, rfl⟩⟩
                          refine ⟨_, rfl, ?_⟩
                          (try (rw [drewN_self w37]; generalize hq_ : World.drewN w37 _ = w37; have n0_ := Aside0.mk (Kd.R_at hq_ HO728.out); have n1_ := Aside0.mk (Kd.S_at hq_ HO734.out); have n2_ := Aside0.mk (blk_at hq_ BK725.out); have n3_ := Aside0.mk (blk_at hq_ BK736.out); have n4_ := Aside0.mk (blk_at hq_ BK739.out); have n5_ := Aside0.mk (below_at hq_ HB.out); clear hq_ HO728 HO734 BK725 BK736 BK739 HB; have HO728 := n0_; have HO734 := n1_; have BK725 := n2_; have BK736 := n3_; have BK739 := n4_; have HB := n5_; clear n0_ n1_ n2_ n3_ n4_ n5_))
                          refine hK.out _ _ ⟨(blk_cell BK725.out 0).trans rfl, (blk_cell BK725.out 1).trans rfl⟩ (fun hHeld => ?_)
                          clear hK K
                          refine norm_ (a' := ?_) ?_ ?_
                          rotate_left
                          · show Act.put _ (some 60) _ = _
                            simp only [Act.put, List.setIfInBounds_toArray, List.set_cons_zero, List.set_cons_succ, i64_w, i32_w]
                            rfl
                          refine pure_ (i := 9) (N := some 61) (v := ?_) (a' := ?_) #[true, true, true, true, true, true, true, true, true, true, false, true, false] rfl rfl (any_of HT_.out (by kernel_rfl)) (fun _ _ _ h => h) (Or.inl ⟨by rfl, ?_⟩) ?_ ?_
                          rotate_left
                          · intro w'
                            go_simp
                            with_reducible rfl
                          rotate_left
                          · simp only [Act.put, List.setIfInBounds_toArray, List.set_cons_zero, List.set_cons_succ, i64_w, i32_w]
                            rfl
                          refine pure_ (i := 10) (N := some 62) (v := ?_) (a' := ?_) #[true, true, true, true, true, true, true, true, true, true, true, true, false] rfl rfl (any_of HT_.out (by kernel_rfl)) (fun _ _ _ h => h) (Or.inl ⟨by rfl, ?_⟩) ?_ ?_
                          rotate_left
                          · intro w'
                            go_simp
                            with_reducible rfl
                          rotate_left
                          · simp only [Act.put, List.setIfInBounds_toArray, List.set_cons_zero, List.set_cons_succ, i64_w, i32_w]
                            rfl
                          exact norm_ (by simp only [putAll, Act.put, List.setIfInBounds_toArray, List.set_cons_zero, List.set_cons_succ]) (hCont (gb739) _ ⟨hHeld, (by (with_reducible repeat (first | apply Kd.R_alloc | apply Kd.R_drewN | apply Kd.R_drew)); exact Kd.R_mono HO728.out (fun _ hk => hk.2)), (by (with_reducible repeat (first | apply Kd.S_alloc | apply Kd.S_drewN | apply Kd.S_drew)); exact HO734.out), (by (with_reducible repeat (first | refine blk_drewN ?_ _ | refine blk_drew ?_ | refine blk_alloc ?_ _)); exact BK725.out), (by (with_reducible repeat (first | refine blk_drewN ?_ _ | refine blk_drew ?_ | refine blk_alloc ?_ _)); exact BK736.out), (by (with_reducible repeat (first | refine blk_drewN ?_ _ | refine blk_drew ?_ | refine blk_alloc ?_ _)); exact BK739.out), GW739.out, GE739.out, NB725_739.out, NB739_725.out, NB736_739.out, NB739_736.out, (by repeat (first | (with_reducible first | exact HB.out | apply below_alloc | apply pw_below_drewN | apply below_drew1 | refine below_set ?_ GE725.out | refine below_set ?_ GE736.out | refine below_set ?_ GE739.out) | exact HB.out))⟩)
                      rintro gb739 w38 ⟨hS_, h0_, h1_, h2_, h3_, h4_, h5_, h6_, h7_, h8_, h9_, h10_, h11_⟩
                      have n0_ : Aside0 (Kd.R k36 36 w38 w.heap.size (fun k_ => k_ ≠ gb739) (.slice Ao28 t726.length co28) t726) := ⟨h0_⟩
                      have n1_ : Aside0 (Kd.S (Kd.slice 36 k36) 22 w38 w.heap.size (fun k_ => some k_ ≠ (.slice Ao28 t726.length co28 : Value).ownBlock ∧ k_ ≠ gb739) (.slice Ao33 t732.length co33) t732) := ⟨h1_⟩
                      have n2_ : Aside0 (w38.heap[gb725]? = some (.cells #[.int .u64 a4_0, .int .u64 a4_1] 35 (0, 0))) := ⟨h2_⟩
                      have n3_ : Aside0 (w38.heap[gb736]? = some (.cells #[.int .i64 t729, .int .i64 t730, .int .i64 t731, .slice Ao33 t732.length co33] 26 (0, 0))) := ⟨h3_⟩
                      have n4_ : Aside0 (w38.heap[gb739]? = some (.cells #[.int .u64 0, .int .u64 0] 36 (0, 0))) := ⟨h4_⟩
                      have n5_ : Aside0 (w.heap.size ≤ gb739) := ⟨h5_⟩
                      have n6_ : Aside0 (w.heap.size ≤ gb739) := ⟨h6_⟩
                      have n7_ : Aside0 (gb725 ≠ gb739) := ⟨h7_⟩
                      have n8_ : Aside0 (gb739 ≠ gb725) := ⟨h8_⟩
                      have n9_ : Aside0 (gb736 ≠ gb739) := ⟨h9_⟩
                      have n10_ : Aside0 (gb739 ≠ gb736) := ⟨h10_⟩
                      have n11_ : Aside0 (Below w.heap.size w w38) := ⟨h11_⟩
                      clear HO728
                      clear HO734
                      clear BK725
                      clear BK736
                      clear HB
                      clear h0_ h1_ h2_ h3_ h4_ h5_ h6_ h7_ h8_ h9_ h10_ h11_
                      have HO728 := n0_
                      have HO734 := n1_
                      have BK725 := n2_
                      have BK736 := n3_
                      have BK739 := n4_
                      have GW739 := n5_
                      have GE739 := n6_
                      have NB725_739 := n7_
                      have NB739_725 := n8_
                      have NB736_739 := n9_
                      have NB739_736 := n10_
                      have HB := n11_
                      clear n0_ n1_ n2_ n3_ n4_ n5_ n6_ n7_ n8_ n9_ n10_ n11_
                      have hHeld : w38.cell? ⟨gb725, 0, none⟩ = some (.int .u64 a4_0) ∧ w38.cell? ⟨gb725, 1, none⟩ = some (.int .u64 a4_1) := hS_
                      refine norm_ (a' := ?_) ?_ ?_
                      rotate_left
                      · simp only [putAll, Act.put, List.setIfInBounds_toArray, List.set_cons_zero, List.set_cons_succ]
                        rfl
                      refine one_ (i := 12) (N := none) #[true, true, true, true, true, true, true, true, true, true, true, true, true] rfl rfl (one_of HT_.out (by kernel_rfl)) (by decide) (fun K hK => ?_)
                      have hs39 : w38.cell? ⟨gb739, 0, none⟩ = some (.int .u64 0) := (blk_cell BK739.out 0).trans rfl
                      have hfs39 := blk_frozen BK739.out 0
                      have hns39_0 := NB725_739.out
                      have hns39_1 := NB736_739.out
                      have hms39_0 := NB739_725.out
                      have hms39_1 := NB739_736.out
                      have hs40 : w38.cell? ⟨gb739, 1, none⟩ = some (.int .u64 0) := (blk_cell BK739.out 1).trans rfl
                      have hfs40 := blk_frozen BK739.out 1
                      have hns40_0 := NB725_739.out
                      have hns40_1 := NB736_739.out
                      have hms40_0 := NB739_725.out
                      have hms40_1 := NB739_736.out
                      refine skip_ (w1 := ?_) (by rfl) rfl ?_ ?_
                      rotate_left
                      · go_simp
                        rfl
                      refine hK.out _ _ ⟨((cell_far (p := ⟨gb739, _, none⟩) NB725_739.out _).trans (((cell_far (p := ⟨gb739, _, none⟩) NB725_739.out _).trans (hHeld.1)))), ((cell_far (p := ⟨gb739, _, none⟩) NB725_739.out _).trans (((cell_far (p := ⟨gb739, _, none⟩) NB725_739.out _).trans (hHeld.2))))⟩ (fun hHeld => ?_)
                      clear hK K
                      refine done_ (done_of HT_.out (by kernel_rfl)) ?_
                      have hnb41 := NB736_739.out
                      have hnc41 := NB739_736.out
                      have hcz42_0 : w38.cell? ⟨gb736, 0, none⟩ = some (.int .i64 t729) := (blk_cell BK736.out 0).trans rfl
                      have hcz42_1 : w38.cell? ⟨gb736, 1, none⟩ = some (.int .i64 t730) := (blk_cell BK736.out 1).trans rfl
                      have hcz42_2 : w38.cell? ⟨gb736, 2, none⟩ = some (.int .i64 t731) := (blk_cell BK736.out 2).trans rfl
                      have hcz42_3 : w38.cell? ⟨gb736, 3, none⟩ = some (.slice Ao33 t732.length co33) := (blk_cell BK736.out 3).trans rfl
                      have hfz42_0 := blk_frozen BK736.out 0
                      have hfz42_1 := blk_frozen BK736.out 1
                      have hfz42_2 := blk_frozen BK736.out 2
                      have hfz42_3 := blk_frozen BK736.out 3
                      have hnb43 := NB739_725.out
                      have hnc43 := NB725_739.out
                      have hcz44_0 : w38.cell? ⟨gb739, 0, none⟩ = some (.int .u64 0) := (blk_cell BK739.out 0).trans rfl
                      have hcz44_1 : w38.cell? ⟨gb739, 1, none⟩ = some (.int .u64 0) := (blk_cell BK739.out 1).trans rfl
                      have hfz44_0 := blk_frozen BK739.out 0
                      have hfz44_1 := blk_frozen BK739.out 1
                      try go_wp2_with (first | ((with_reducible refine gate_callee (f := 32) rfl ?_); refine goesL_ (some 67) rfl rfl Tryd.func32 (by kernel_rfl) rfl #[.agg #[.int .i64 t729, .int .i64 t730, .int .i64 t731, .slice Ao33 t732.length co33], .int .i64 ji15, .agg #[.int .u64 (Int.tmod a4_1 t737), .int .u64 (Int.tmod a4_0 t738)]] rfl (by (try simp only [List.map_toArray, List.map_cons, List.map_nil]); first | done | (simp only [hji15]; rfl) | rfl | (simp only [List.length_drop, List.length_take]; rfl) | (go_simp; done) | (go_simp; rw [Int.tmod_eq_emod_of_nonneg (by omega)]; omega)) ?_; (with_reducible refine (tree_Replace.calls k t729 t730 t731 _ _ t732 ji15 (Int.tmod a4_1 t737) (Int.tmod a4_0 t738) t740 t741 t742 t743 t746 _ ?side1 ?side2 ?side3 A14.out).mono ?_); (case side1 => refine (Kd.S_reads' (e := 22) (base := w.heap.size) (ok := fun k_ => (some k_ ≠ (.slice Ao28 t726.length co28 : Value).ownBlock ∧ k_ ≠ gb739)) (n := t732.length) (c := co33) ?_).2.2; exact (by (with_reducible repeat (first | apply Kd.S_alloc | apply Kd.S_drewN | apply Kd.S_drew)); exact (Kd.S_mono (Kd.S_far (p := ⟨gb739, 1, none⟩) (Kd.S_far (p := ⟨gb739, 0, none⟩) (Kd.S_mono HO734.out (fun k_ hk => (⟨hk, hk.2⟩ : _ ∧ k_ ≠ gb739))) (fun _ hk => hk.2) (.int .u64 (Int.tmod a4_1 t737))) (fun _ hk => hk.2) (.int .u64 (Int.tmod a4_0 t738))) (fun _ h_ => h_.1)))); (case side2 => exact (Kd.S_reads' HO734.out).2.1); (case side3 => exact GL.below HRG.out (by repeat (first | (with_reducible first | exact HB.out | apply below_alloc | apply pw_below_drewN | apply below_drew1 | refine below_set ?_ GE725.out | refine below_set ?_ GE736.out | refine below_set ?_ GE739.out) | exact HB.out))); rintro e w45 ⟨v744, rfl, ho0, hb⟩; refine ⟨_, rfl, ?_⟩; have n0_ := Aside0.mk (Kd.R_below (by (with_reducible repeat (first | apply Kd.R_alloc | apply Kd.R_drewN | apply Kd.R_drew)); exact (Kd.R_mono (Kd.R_far (p := ⟨gb739, 1, none⟩) (Kd.R_far (p := ⟨gb739, 0, none⟩) (Kd.R_mono HO728.out (fun k_ hk => (⟨hk, hk⟩ : _ ∧ k_ ≠ gb739))) (fun _ hk => hk.2) (.int .u64 (Int.tmod a4_1 t737))) (fun _ hk => hk.2) (.int .u64 (Int.tmod a4_0 t738))) (fun _ h_ => h_.1))) hb); have n1_ := Aside0.mk (Kd.S_elder' (by (with_reducible repeat (first | apply Kd.S_alloc | apply Kd.S_drewN | apply Kd.S_drew)); exact (Kd.S_mono (Kd.S_far (p := ⟨gb739, 1, none⟩) (Kd.S_far (p := ⟨gb739, 0, none⟩) (Kd.S_mono HO734.out (fun k_ hk => (⟨hk, hk.2⟩ : _ ∧ k_ ≠ gb739))) (fun _ hk => hk.2) (.int .u64 (Int.tmod a4_1 t737))) (fun _ hk => hk.2) (.int .u64 (Int.tmod a4_0 t738))) (fun _ h_ => h_.1))) (Kd.S_base ho0) hb); have n2_ := Aside0.mk (Kd.S_lower (Kd.S_newB (Kd.S_new' (Kd.S_new' ho0 (Kd.R_lt (by (with_reducible repeat (first | apply Kd.R_alloc | apply Kd.R_drewN | apply Kd.R_drew)); exact (Kd.R_mono (Kd.R_far (p := ⟨gb739, 1, none⟩) (Kd.R_far (p := ⟨gb739, 0, none⟩) (Kd.R_mono HO728.out (fun k_ hk => (⟨hk, hk⟩ : _ ∧ k_ ≠ gb739))) (fun _ hk => hk.2) (.int .u64 (Int.tmod a4_1 t737))) (fun _ hk => hk.2) (.int .u64 (Int.tmod a4_0 t738))) (fun _ h_ => h_.1))))) (Kd.S_lt (by (with_reducible repeat (first | apply Kd.S_alloc | apply Kd.S_drewN | apply Kd.S_drew)); exact (Kd.S_mono (Kd.S_far (p := ⟨gb739, 1, none⟩) (Kd.S_far (p := ⟨gb739, 0, none⟩) (Kd.S_mono HO734.out (fun k_ hk => (⟨hk, hk.2⟩ : _ ∧ k_ ≠ gb739))) (fun _ hk => hk.2) (.int .u64 (Int.tmod a4_1 t737))) (fun _ hk => hk.2) (.int .u64 (Int.tmod a4_0 t738))) (fun _ h_ => h_.1))))) (g := gb739) (o := .cells #[.int .u64 (Int.tmod a4_1 t737), .int .u64 (Int.tmod a4_0 t738)] 36 (0, 0)) (by (with_reducible repeat (first | refine blk_drewN ?_ _ | refine blk_drew ?_ | refine blk_alloc ?_ _)); refine blk_put (cs := #[.int .u64 (Int.tmod a4_1 t737), .int .u64 0]) ?_ 1 _ rfl; (with_reducible repeat (first | refine blk_drewN ?_ _ | refine blk_drew ?_ | refine blk_alloc ?_ _)); refine blk_put (cs := #[.int .u64 0, .int .u64 0]) ?_ 0 _ rfl; (with_reducible repeat (first | refine blk_drewN ?_ _ | refine blk_drew ?_ | refine blk_alloc ?_ _)); exact BK739.out)) (below_size (by repeat (first | (with_reducible first | exact HB.out | apply below_alloc | apply pw_below_drewN | apply below_drew1 | refine below_set ?_ GE725.out | refine below_set ?_ GE736.out | refine below_set ?_ GE739.out) | exact HB.out)))); have n3_ := Aside0.mk (blk_below (g := gb725) (o := .cells #[.int .u64 a4_0, .int .u64 a4_1] 35 (0, 0)) (by (with_reducible repeat (first | refine blk_drewN ?_ _ | refine blk_drew ?_ | refine blk_alloc ?_ _)); refine blk_far ?_ NB725_739.out _; (with_reducible repeat (first | refine blk_drewN ?_ _ | refine blk_drew ?_ | refine blk_alloc ?_ _)); refine blk_far ?_ NB725_739.out _; (with_reducible repeat (first | refine blk_drewN ?_ _ | refine blk_drew ?_ | refine blk_alloc ?_ _)); exact BK725.out) hb); have n4_ := Aside0.mk (blk_below (g := gb736) (o := .cells #[.int .i64 t729, .int .i64 t730, .int .i64 t731, .slice Ao33 t732.length co33] 26 (0, 0)) (by (with_reducible repeat (first | refine blk_drewN ?_ _ | refine blk_drew ?_ | refine blk_alloc ?_ _)); refine blk_far ?_ NB736_739.out _; (with_reducible repeat (first | refine blk_drewN ?_ _ | refine blk_drew ?_ | refine blk_alloc ?_ _)); refine blk_far ?_ NB736_739.out _; (with_reducible repeat (first | refine blk_drewN ?_ _ | refine blk_drew ?_ | refine blk_alloc ?_ _)); exact BK736.out) hb); have n5_ := Aside0.mk (blk_below (g := gb739) (o := .cells #[.int .u64 (Int.tmod a4_1 t737), .int .u64 (Int.tmod a4_0 t738)] 36 (0, 0)) (by (with_reducible repeat (first | refine blk_drewN ?_ _ | refine blk_drew ?_ | refine blk_alloc ?_ _)); refine blk_put (cs := #[.int .u64 (Int.tmod a4_1 t737), .int .u64 0]) ?_ 1 _ rfl; (with_reducible repeat (first | refine blk_drewN ?_ _ | refine blk_drew ?_ | refine blk_alloc ?_ _)); refine blk_put (cs := #[.int .u64 0, .int .u64 0]) ?_ 0 _ rfl; (with_reducible repeat (first | refine blk_drewN ?_ _ | refine blk_drew ?_ | refine blk_alloc ?_ _)); exact BK739.out) hb); have n6_ := Aside0.mk (below_step (by repeat (first | (with_reducible first | exact HB.out | apply below_alloc | apply pw_below_drewN | apply below_drew1 | refine below_set ?_ GE725.out | refine below_set ?_ GE736.out | refine below_set ?_ GE739.out) | exact HB.out)) hb); clear HO728; clear HO734; clear BK725; clear BK736; clear BK739; clear HB; have HO728 := n0_; have HO734 := n1_; have HO745 := n2_; have BK725 := n3_; have BK736 := n4_; have BK739 := n5_; have HB := n6_; clear n0_ n1_ n2_ n3_ n4_ n5_ n6_; (try clear hb); (try clear hb2); (try clear hk); (try clear hi); (try clear ho0)) | ((with_reducible refine gate_dst (N := 19) rfl ?_); refine box_event ?hg (N := 19) ?hd (cs := #[.int .i64 0, .int .i64 0, .int .i64 0, .slice none 0 0]) (t := 26) ?hr ?_; (case hd => rfl); (case hg => rfl); (case hr => first | (go_simp; done) | (go_simp; rfl)); intro gb747 hg w46 hbox hb; have n0_ := Aside0.mk (Kd.R_below (by (with_reducible repeat (first | apply Kd.R_alloc | apply Kd.R_drewN | apply Kd.R_drew)); exact HO728.out) hb); have n1_ := Aside0.mk (Kd.S_below (by (with_reducible repeat (first | apply Kd.S_alloc | apply Kd.S_drewN | apply Kd.S_drew)); exact HO734.out) hb); have n2_ := Aside0.mk (Kd.S_below (by (with_reducible repeat (first | apply Kd.S_alloc | apply Kd.S_drewN | apply Kd.S_drew)); exact HO745.out) hb); have n3_ := Aside0.mk (blk_below (g := gb725) (o := .cells #[.int .u64 a4_0, .int .u64 a4_1] 35 (0, 0)) (by (with_reducible repeat (first | refine blk_drewN ?_ _ | refine blk_drew ?_ | refine blk_alloc ?_ _)); exact BK725.out) hb); have n4_ := Aside0.mk (blk_below (g := gb736) (o := .cells #[.int .i64 t729, .int .i64 t730, .int .i64 t731, .slice Ao33 t732.length co33] 26 (0, 0)) (by (with_reducible repeat (first | refine blk_drewN ?_ _ | refine blk_drew ?_ | refine blk_alloc ?_ _)); exact BK736.out) hb); have n5_ := Aside0.mk (blk_below (g := gb739) (o := .cells #[.int .u64 (Int.tmod a4_1 t737), .int .u64 (Int.tmod a4_0 t738)] 36 (0, 0)) (by (with_reducible repeat (first | refine blk_drewN ?_ _ | refine blk_drew ?_ | refine blk_alloc ?_ _)); exact BK739.out) hb); have n6_ := Aside0.mk (below_step (by repeat (first | (with_reducible first | exact HB.out | apply below_alloc | apply pw_below_drewN | apply below_drew1 | refine below_set ?_ GE725.out | refine below_set ?_ GE736.out | refine below_set ?_ GE739.out) | exact HB.out)) hb); have n7_ := Aside0.mk (hbox); have n8_ := Aside0.mk ((by rw [hg]; exact (below_size (by repeat (first | (with_reducible first | exact HB.out | apply below_alloc | apply pw_below_drewN | apply below_drew1 | refine below_set ?_ GE725.out | refine below_set ?_ GE736.out | refine below_set ?_ GE739.out) | exact HB.out))) : w.heap.size ≤ gb747)); have n9_ := Aside0.mk ((by rw [hg]; exact (below_size (by repeat (first | (with_reducible first | exact HB.out | apply below_alloc | apply pw_below_drewN | apply below_drew1 | refine below_set ?_ GE725.out | refine below_set ?_ GE736.out | refine below_set ?_ GE739.out) | exact HB.out))) : w.heap.size ≤ gb747)); have n10_ := Aside0.mk ((by rw [hg]; exact Nat.ne_of_lt (blk_lt (g := gb725) (o := .cells #[.int .u64 a4_0, .int .u64 a4_1] 35 (0, 0)) (by (with_reducible repeat (first | refine blk_drewN ?_ _ | refine blk_drew ?_ | refine blk_alloc ?_ _)); exact BK725.out)) : gb725 ≠ gb747)); have n11_ := Aside0.mk ((by rw [hg]; exact Nat.ne_of_gt (blk_lt (g := gb725) (o := .cells #[.int .u64 a4_0, .int .u64 a4_1] 35 (0, 0)) (by (with_reducible repeat (first | refine blk_drewN ?_ _ | refine blk_drew ?_ | refine blk_alloc ?_ _)); exact BK725.out)) : gb747 ≠ gb725)); have n12_ := Aside0.mk ((by rw [hg]; exact Nat.ne_of_lt (blk_lt (g := gb736) (o := .cells #[.int .i64 t729, .int .i64 t730, .int .i64 t731, .slice Ao33 t732.length co33] 26 (0, 0)) (by (with_reducible repeat (first | refine blk_drewN ?_ _ | refine blk_drew ?_ | refine blk_alloc ?_ _)); exact BK736.out)) : gb736 ≠ gb747)); have n13_ := Aside0.mk ((by rw [hg]; exact Nat.ne_of_gt (blk_lt (g := gb736) (o := .cells #[.int .i64 t729, .int .i64 t730, .int .i64 t731, .slice Ao33 t732.length co33] 26 (0, 0)) (by (with_reducible repeat (first | refine blk_drewN ?_ _ | refine blk_drew ?_ | refine blk_alloc ?_ _)); exact BK736.out)) : gb747 ≠ gb736)); have n14_ := Aside0.mk ((by rw [hg]; exact Nat.ne_of_lt (blk_lt (g := gb739) (o := .cells #[.int .u64 (Int.tmod a4_1 t737), .int .u64 (Int.tmod a4_0 t738)] 36 (0, 0)) (by (with_reducible repeat (first | refine blk_drewN ?_ _ | refine blk_drew ?_ | refine blk_alloc ?_ _)); exact BK739.out)) : gb739 ≠ gb747)); have n15_ := Aside0.mk ((by rw [hg]; exact Nat.ne_of_gt (blk_lt (g := gb739) (o := .cells #[.int .u64 (Int.tmod a4_1 t737), .int .u64 (Int.tmod a4_0 t738)] 36 (0, 0)) (by (with_reducible repeat (first | refine blk_drewN ?_ _ | refine blk_drew ?_ | refine blk_alloc ?_ _)); exact BK739.out)) : gb747 ≠ gb739)); clear HO728; clear HO734; clear HO745; clear BK725; clear BK736; clear BK739; clear HB; have HO728 := n0_; have HO734 := n1_; have HO745 := n2_; have BK725 := n3_; have BK736 := n4_; have BK739 := n5_; have HB := n6_; have BK747 := n7_; have GW747 := n8_; have GE747 := n9_; have NB725_747 := n10_; have NB747_725 := n11_; have NB736_747 := n12_; have NB747_736 := n13_; have NB739_747 := n14_; have NB747_739 := n15_; clear n0_ n1_ n2_ n3_ n4_ n5_ n6_ n7_ n8_ n9_ n10_ n11_ n12_ n13_ n14_ n15_; clear hb hbox hg; have hnb47 := NB747_725.out; have hnc47 := NB725_747.out; have hnb48 := NB747_736.out; have hnc48 := NB736_747.out; have hnb49 := NB747_739.out; have hnc49 := NB739_747.out; have hcz50_0 : w46.cell? ⟨gb747, 0, none⟩ = some (.int .i64 0) := (blk_cell BK747.out 0).trans rfl; have hcz50_1 : w46.cell? ⟨gb747, 1, none⟩ = some (.int .i64 0) := (blk_cell BK747.out 1).trans rfl; have hcz50_2 : w46.cell? ⟨gb747, 2, none⟩ = some (.int .i64 0) := (blk_cell BK747.out 2).trans rfl; have hcz50_3 : w46.cell? ⟨gb747, 3, none⟩ = some (.slice none 0 0) := (blk_cell BK747.out 3).trans rfl; have hfz50_0 := blk_frozen BK747.out 0; have hfz50_1 := blk_frozen BK747.out 1; have hfz50_2 := blk_frozen BK747.out 2; have hfz50_3 := blk_frozen BK747.out 3; obtain ⟨Ao51, co51, eo51⟩ := Kd.S_slice HO745.out; subst eo51) | ((with_reducible refine gate_store (t := 26) (p := 19) rfl ?_); refine store_event (t := 26) (p := 19) (v := ?vo_w52) (w1 := ((((w46.setCell ⟨gb747, 0, none⟩ (.int .i64 t740)).setCell ⟨gb747, 1, none⟩ (.int .i64 t741)).setCell ⟨gb747, 2, none⟩ (.int .i64 t742)).setCell ⟨gb747, 3, none⟩ (.slice Ao51 t743.length co51))) ?hg ?ho ?hn ?hr ?_; (case ho => rfl); (case hg => rfl); (case hn => rfl); (case hr => first | (go_simp; done) | (go_simp; rfl)); intro w52 hw; have n0_ : Aside0 (Kd.R k36 36 w52 w.heap.size (fun k_ => k_ ≠ gb739) (.slice Ao28 t726.length co28) t726) := ⟨(by rw [hw]; exact (by (with_reducible repeat (first | apply Kd.R_alloc | apply Kd.R_drewN | apply Kd.R_drew)); exact Kd.R_mono (Kd.R_far (p := ⟨gb747, 3, none⟩) (Kd.R_far (p := ⟨gb747, 2, none⟩) (Kd.R_far (p := ⟨gb747, 1, none⟩) (Kd.R_far (p := ⟨gb747, 0, none⟩) (Kd.R_types HO728.out BK747.out (by decide)) (fun _ hk => hk.2) (.int .i64 t740)) (fun _ hk => hk.2) (.int .i64 t741)) (fun _ hk => hk.2) (.int .i64 t742)) (fun _ hk => hk.2) (.slice Ao51 t743.length co51)) (fun _ hk => hk.1)))⟩; have n1_ : Aside0 (Kd.S (Kd.slice 36 k36) 22 w52 w.heap.size (fun k_ => some k_ ≠ (.slice Ao28 t726.length co28 : Value).ownBlock ∧ some k_ ≠ (.slice Ao51 t743.length co51 : Value).ownBlock ∧ k_ ≠ gb739) (.slice Ao33 t732.length co33) t732) := ⟨(by rw [hw]; exact (by (with_reducible repeat (first | apply Kd.S_alloc | apply Kd.S_drewN | apply Kd.S_drew)); exact Kd.S_mono (Kd.S_far (p := ⟨gb747, 3, none⟩) (Kd.S_far (p := ⟨gb747, 2, none⟩) (Kd.S_far (p := ⟨gb747, 1, none⟩) (Kd.S_far (p := ⟨gb747, 0, none⟩) (Kd.S_types HO734.out BK747.out (by decide)) (fun _ hk => hk.2) (.int .i64 t740)) (fun _ hk => hk.2) (.int .i64 t741)) (fun _ hk => hk.2) (.int .i64 t742)) (fun _ hk => hk.2) (.slice Ao51 t743.length co51)) (fun _ hk => ⟨hk.1.1.1, ⟨hk.1.2, hk.1.1.2⟩⟩)))⟩; have n2_ : Aside0 (Kd.S (Kd.slice 36 k36) 22 w52 w.heap.size (fun k_ => some k_ ≠ (.slice Ao28 t726.length co28 : Value).ownBlock ∧ some k_ ≠ (.slice Ao33 t732.length co33 : Value).ownBlock ∧ k_ ≠ gb739) (.slice Ao51 t743.length co51) t743) := ⟨(by rw [hw]; exact (by (with_reducible repeat (first | apply Kd.S_alloc | apply Kd.S_drewN | apply Kd.S_drew)); exact Kd.S_mono (Kd.S_far (p := ⟨gb747, 3, none⟩) (Kd.S_far (p := ⟨gb747, 2, none⟩) (Kd.S_far (p := ⟨gb747, 1, none⟩) (Kd.S_far (p := ⟨gb747, 0, none⟩) (Kd.S_types HO745.out BK747.out (by decide)) (fun _ hk => hk.2) (.int .i64 t740)) (fun _ hk => hk.2) (.int .i64 t741)) (fun _ hk => hk.2) (.int .i64 t742)) (fun _ hk => hk.2) (.slice Ao51 t743.length co51)) (fun _ hk => ⟨hk.1.1.1.2, ⟨hk.1.1.2, hk.1.2⟩⟩)))⟩; have n3_ : Aside0 (w52.heap[gb725]? = some (.cells #[.int .u64 a4_0, .int .u64 a4_1] 35 (0, 0))) := ⟨(by rw [hw]; exact (by (with_reducible repeat (first | refine blk_drewN ?_ _ | refine blk_drew ?_ | refine blk_alloc ?_ _)); refine blk_far ?_ NB725_747.out _; (with_reducible repeat (first | refine blk_drewN ?_ _ | refine blk_drew ?_ | refine blk_alloc ?_ _)); refine blk_far ?_ NB725_747.out _; (with_reducible repeat (first | refine blk_drewN ?_ _ | refine blk_drew ?_ | refine blk_alloc ?_ _)); refine blk_far ?_ NB725_747.out _; (with_reducible repeat (first | refine blk_drewN ?_ _ | refine blk_drew ?_ | refine blk_alloc ?_ _)); refine blk_far ?_ NB725_747.out _; (with_reducible repeat (first | refine blk_drewN ?_ _ | refine blk_drew ?_ | refine blk_alloc ?_ _)); exact BK725.out))⟩; have n4_ : Aside0 (w52.heap[gb736]? = some (.cells #[.int .i64 t729, .int .i64 t730, .int .i64 t731, .slice Ao33 t732.length co33] 26 (0, 0))) := ⟨(by rw [hw]; exact (by (with_reducible repeat (first | refine blk_drewN ?_ _ | refine blk_drew ?_ | refine blk_alloc ?_ _)); refine blk_far ?_ NB736_747.out _; (with_reducible repeat (first | refine blk_drewN ?_ _ | refine blk_drew ?_ | refine blk_alloc ?_ _)); refine blk_far ?_ NB736_747.out _; (with_reducible repeat (first | refine blk_drewN ?_ _ | refine blk_drew ?_ | refine blk_alloc ?_ _)); refine blk_far ?_ NB736_747.out _; (with_reducible repeat (first | refine blk_drewN ?_ _ | refine blk_drew ?_ | refine blk_alloc ?_ _)); refine blk_far ?_ NB736_747.out _; (with_reducible repeat (first | refine blk_drewN ?_ _ | refine blk_drew ?_ | refine blk_alloc ?_ _)); exact BK736.out))⟩; have n5_ : Aside0 (w52.heap[gb739]? = some (.cells #[.int .u64 (Int.tmod a4_1 t737), .int .u64 (Int.tmod a4_0 t738)] 36 (0, 0))) := ⟨(by rw [hw]; exact (by (with_reducible repeat (first | refine blk_drewN ?_ _ | refine blk_drew ?_ | refine blk_alloc ?_ _)); refine blk_far ?_ NB739_747.out _; (with_reducible repeat (first | refine blk_drewN ?_ _ | refine blk_drew ?_ | refine blk_alloc ?_ _)); refine blk_far ?_ NB739_747.out _; (with_reducible repeat (first | refine blk_drewN ?_ _ | refine blk_drew ?_ | refine blk_alloc ?_ _)); refine blk_far ?_ NB739_747.out _; (with_reducible repeat (first | refine blk_drewN ?_ _ | refine blk_drew ?_ | refine blk_alloc ?_ _)); refine blk_far ?_ NB739_747.out _; (with_reducible repeat (first | refine blk_drewN ?_ _ | refine blk_drew ?_ | refine blk_alloc ?_ _)); exact BK739.out))⟩; have n6_ : Aside0 (w52.heap[gb747]? = some (.cells #[.int .i64 t740, .int .i64 t741, .int .i64 t742, .slice Ao51 t743.length co51] 26 (0, 0))) := ⟨(by rw [hw]; exact (by (with_reducible repeat (first | refine blk_drewN ?_ _ | refine blk_drew ?_ | refine blk_alloc ?_ _)); refine blk_put (cs := #[.int .i64 t740, .int .i64 t741, .int .i64 t742, .slice none 0 0]) ?_ 3 _ rfl; (with_reducible repeat (first | refine blk_drewN ?_ _ | refine blk_drew ?_ | refine blk_alloc ?_ _)); refine blk_put (cs := #[.int .i64 t740, .int .i64 t741, .int .i64 0, .slice none 0 0]) ?_ 2 _ rfl; (with_reducible repeat (first | refine blk_drewN ?_ _ | refine blk_drew ?_ | refine blk_alloc ?_ _)); refine blk_put (cs := #[.int .i64 t740, .int .i64 0, .int .i64 0, .slice none 0 0]) ?_ 1 _ rfl; (with_reducible repeat (first | refine blk_drewN ?_ _ | refine blk_drew ?_ | refine blk_alloc ?_ _)); refine blk_put (cs := #[.int .i64 0, .int .i64 0, .int .i64 0, .slice none 0 0]) ?_ 0 _ rfl; (with_reducible repeat (first | refine blk_drewN ?_ _ | refine blk_drew ?_ | refine blk_alloc ?_ _)); exact BK747.out))⟩; have n7_ : Aside0 (Below w.heap.size w w52) := ⟨(by rw [hw]; exact (by repeat (first | (with_reducible first | exact HB.out | apply below_alloc | apply pw_below_drewN | apply below_drew1 | refine below_set ?_ GE725.out | refine below_set ?_ GE736.out | refine below_set ?_ GE739.out | refine below_set ?_ GE747.out) | exact HB.out)))⟩; clear hw; clear HO728; clear HO734; clear HO745; clear BK725; clear BK736; clear BK739; clear BK747; clear HB; have HO728 := n0_; have HO734 := n1_; have HO745 := n2_; have BK725 := n3_; have BK736 := n4_; have BK739 := n5_; have BK747 := n6_; have HB := n7_; clear n0_ n1_ n2_ n3_ n4_ n5_ n6_ n7_; have hcz53_0 : w52.cell? ⟨gb739, 0, none⟩ = some (.int .u64 (Int.tmod a4_1 t737)) := (blk_cell BK739.out 0).trans rfl; have hcz53_1 : w52.cell? ⟨gb739, 1, none⟩ = some (.int .u64 (Int.tmod a4_0 t738)) := (blk_cell BK739.out 1).trans rfl; have hfz53_0 := blk_frozen BK739.out 0; have hfz53_1 := blk_frozen BK739.out 1; have p18 : 0 ≤ ((ji15) : Int) := of_decide_eq_true (by first | (with_reducible assumption) | assumption); have q18 : ((ji15) : Int) < ((t726.length : Int) : Int) := of_decide_eq_true (by first | (with_reducible assumption) | assumption); obtain ⟨go18, co18, eo18, gb18, gl18, cl18, HG18⟩ := Kd.R_form HO728.out (by omega); (first | cases eo18 | (injection eo18 with ea_ en_ ec_; (first | subst ea_ | (injection ea_ with ea_; subst ea_)); subst ec_; clear en_)); have GB18 := Aside0.mk gb18; have GG18 := Aside0.mk HG18; clear gb18 gl18 HG18; obtain ⟨ce18, hcl18, hM18, hcc18, hfr18⟩ := Kd.R_elem HO728.out z36 ((ji15) : Int) p18 q18; obtain rfl := k36_openM hM18; have hx18_0 : w52.cell? ⟨go18, ((ji15) : Int).toNat * 2, none⟩ = some (.int .u64 ((rd_T36 t726 (ji15)).f0)) := hcc18 0 _ rfl; have hx18_1 : w52.cell? ⟨go18, ((ji15) : Int).toNat * 2 + 1, none⟩ = some (.int .u64 ((rd_T36 t726 (ji15)).f1)) := hcc18 1 _ rfl; have hf18_0 : w52.frozen? ⟨go18, ((ji15) : Int).toNat * 2, none⟩ = false := hfr18 0; have hf18_1 : w52.frozen? ⟨go18, ((ji15) : Int).toNat * 2 + 1, none⟩ = false := hfr18 1; clear hcl18 hcc18 hfr18 hM18; replace p18 := eq_true p18; replace q18 := eq_true q18; have HX54 := Aside0.mk (show Kd.R k36 36 w52 w.heap.size (fun k_ => k_ ≠ gb739) (.slice (some ⟨go18, 0, none⟩) t726.length co28) t726 from (by (with_reducible repeat (first | apply Kd.R_alloc | apply Kd.R_drewN | apply Kd.R_drew)); exact HO728.out)); obtain ⟨ce54, hcl54, hM54, hcc54, hfr54⟩ := Kd.R_elem HX54.out z36 ((ji15) : Int) (of_decide_eq_true (by first | (with_reducible assumption) | assumption)) (by have h_ : ((ji15) : Int) < ((t726.length : Int) : Int) := of_decide_eq_true (by first | (with_reducible assumption) | assumption); first | exact h_ | (have e_ := (Kd.R_reads' HO728.out).1; omega) | simpa using h_); obtain rfl := k36_openM hM54; have HP54 := Kd.R_seg HX54.out ((ji15) : Int) (of_decide_eq_true (by first | (with_reducible assumption) | assumption)) (by have h_ : ((ji15) : Int) < ((t726.length : Int) : Int) := of_decide_eq_true (by first | (with_reducible assumption) | assumption); first | exact h_ | (have e_ := (Kd.R_reads' HO728.out).1; omega) | simpa using h_) (seg := [.int .u64 (Int.tmod a4_1 t737), .int .u64 (Int.tmod a4_0 t738)]) (j := 0) hcl54 hcc54 (show 2 ≤ 2 from by decide) (x' := (⟨Int.tmod a4_1 t737, Int.tmod a4_0 t738⟩ : S36)) (k36_mkM _ _ _ (⟨Int.tmod a4_1 t737, Int.tmod a4_0 t738⟩ : S36) ) (fun _ hk => hk); have hx54_0 := hcc54 0 _ rfl; (try simp only [show (k36).sz = 2 from rfl, Nat.mul_one, Nat.add_zero] at hx54_0); have hf54_0 := hfr54 0; (try simp only [show (k36).sz = 2 from rfl, Nat.mul_one, Nat.add_zero] at hf54_0); have hx54_1 := hcc54 1 _ rfl; (try simp only [show (k36).sz = 2 from rfl, Nat.mul_one, Nat.add_zero] at hx54_1); have hf54_1 := hfr54 1; (try simp only [show (k36).sz = 2 from rfl, Nat.mul_one, Nat.add_zero] at hf54_1); clear hcl54 hcc54 hfr54 hM54) | ((with_reducible refine gate_store (t := 36) (p := 73) rfl ?_); refine store_event (t := 36) (p := 73) (v := ?vo_w55) (w1 := ((w52.setCell ⟨go18, ((ji15) : Int).toNat * 2, none⟩ (.int .u64 (Int.tmod a4_1 t737))).setCell ⟨go18, ((ji15) : Int).toNat * 2 + 1, none⟩ (.int .u64 (Int.tmod a4_0 t738)))) ?hg ?ho ?hn ?hr ?_; (case ho => rfl); (case hg => rfl); (case hn => rfl); (case hr => first | (go_simp; done) | (go_simp; rfl)); intro w55 hw; have hg : w52.grownBy w55 (some go18) := (by rw [hw]; exact HP54.2); have hp_ : Kd.R k36 36 w55 w.heap.size (fun k_ => k_ ≠ gb739) (.slice (some ⟨go18, 0, none⟩) t726.length co28) y748 := (by rw [hw, Ny748.out]; exact HP54.1); clear HP54; have n0_ := Aside0.mk (blk_grown (g := gb725) (o := .cells #[.int .u64 a4_0, .int .u64 a4_1] 35 (0, 0)) (by (with_reducible repeat (first | refine blk_drewN ?_ _ | refine blk_drew ?_ | refine blk_alloc ?_ _)); exact BK725.out) hg (Kd.R_ne HO728.out BK725.out (by decide))); have n1_ := Aside0.mk (hp_); have n2_ := Aside0.mk (Kd.S_after (v := (.slice (some ⟨go18, 0, none⟩) t726.length co28)) (v1 := (.slice (some ⟨go18, 0, none⟩) t726.length co28)) (ok := (fun k_ => some k_ ≠ (.slice Ao51 t743.length co51 : Value).ownBlock ∧ k_ ≠ gb739)) (by (with_reducible repeat (first | apply Kd.S_alloc | apply Kd.S_drewN | apply Kd.S_drew)); exact Kd.S_mono HO734.out (fun _ hk => ⟨⟨hk.2.1, hk.2.2⟩, hk.1⟩)) hg (.inl rfl)); have n3_ := Aside0.mk (blk_grown (g := gb736) (o := .cells #[.int .i64 t729, .int .i64 t730, .int .i64 t731, .slice Ao33 t732.length co33] 26 (0, 0)) (by (with_reducible repeat (first | refine blk_drewN ?_ _ | refine blk_drew ?_ | refine blk_alloc ?_ _)); exact BK736.out) hg (Kd.R_ne HO728.out BK736.out (by decide))); have n4_ := Aside0.mk (blk_grown (g := gb739) (o := .cells #[.int .u64 (Int.tmod a4_1 t737), .int .u64 (Int.tmod a4_0 t738)] 36 (0, 0)) (by (with_reducible repeat (first | refine blk_drewN ?_ _ | refine blk_drew ?_ | refine blk_alloc ?_ _)); exact BK739.out) hg (Kd.R_away HO728.out (fun _ hk => hk))); have n5_ := Aside0.mk (Kd.S_after (v := (.slice (some ⟨go18, 0, none⟩) t726.length co28)) (v1 := (.slice (some ⟨go18, 0, none⟩) t726.length co28)) (ok := (fun k_ => some k_ ≠ (.slice Ao33 t732.length co33 : Value).ownBlock ∧ k_ ≠ gb739)) (by (with_reducible repeat (first | apply Kd.S_alloc | apply Kd.S_drewN | apply Kd.S_drew)); exact Kd.S_mono HO745.out (fun _ hk => ⟨⟨hk.2.1, hk.2.2⟩, hk.1⟩)) hg (.inl rfl)); have n6_ := Aside0.mk (blk_grown (g := gb747) (o := .cells #[.int .i64 t740, .int .i64 t741, .int .i64 t742, .slice Ao51 t743.length co51] 26 (0, 0)) (by (with_reducible repeat (first | refine blk_drewN ?_ _ | refine blk_drew ?_ | refine blk_alloc ?_ _)); exact BK747.out) hg (Kd.R_ne HO728.out BK747.out (by decide))); have n7_ := Aside0.mk ((by rw [hw]; exact below_set (below_set (HB.out) GB18.out) GB18.out : Below w.heap.size w w55)); clear BK725; clear HO728; clear HO734; clear BK736; clear BK739; clear HO745; clear BK747; clear HB; have BK725 := n0_; have HO728 := n1_; have HO734 := n2_; have BK736 := n3_; have BK739 := n4_; have HO745 := n5_; have BK747 := n6_; have HB := n7_; clear n0_ n1_ n2_ n3_ n4_ n5_ n6_ n7_; clear hg hw hp_) | ((with_reducible refine gate_callee (f := 13) rfl ?_); refine goesL_ (some 78) rfl rfl Tryd.func13 (by kernel_rfl) rfl #[.int .i64 (wrap64 (Int.tmod a0 4)), .slice (some ⟨go18, 0, none⟩) y748.length co28, .int .i64 (Int.tmod (wrap64 (a2)) (wrap64 ((wrap64 (Int.tmod a1 6)) + 1)))] rfl (by (try simp only [List.map_toArray, List.map_cons, List.map_nil]); first | done | (rw [show y748.length = t726.length from (Kd.R_reads' HO728.out).1.symm] <;> rfl) | rfl | (simp only [List.length_drop, List.length_take]; rfl) | (go_simp; done) | (go_simp; rw [Int.tmod_eq_emod_of_nonneg (by omega)]; omega)) ?_; (with_reducible refine (tree_Build.calls k (wrap64 (Int.tmod a0 4)) _ _ y748 (Int.tmod (wrap64 (a2)) (wrap64 ((wrap64 (Int.tmod a1 6)) + 1))) t749 t750 t751 t752 t755 _ ?side1 ?side2 ?side3 A19.out).mono ?_); (case side1 => repeat (first | exact (Kd.R_reads' HO728.out).2.2 | (with_reducible refine Kd.C_alloc ?_ _) | (with_reducible refine Kd.C_drewN ?_ _) | (with_reducible refine Kd.C_drew ?_))); (case side2 => rw [show y748.length = t726.length from (Kd.R_reads' HO728.out).1.symm]; exact (Kd.R_reads' HO728.out).2.1); (case side3 => repeat (first | exact (GL.below HRG.out HB.out) | (with_reducible refine GL.alloc ?_ _) | (with_reducible refine GL.drewN ?_ _) | (with_reducible refine GL.drew ?_))); rintro e w56 ⟨v753, rfl, ho0, hb⟩; refine ⟨_, rfl, ?_⟩; have n0_ := Aside0.mk (Kd.R_below (by (with_reducible repeat (first | apply Kd.R_alloc | apply Kd.R_drewN | apply Kd.R_drew)); exact HO728.out) hb); have n1_ := Aside0.mk (Kd.S_elder' (by (with_reducible repeat (first | apply Kd.S_alloc | apply Kd.S_drewN | apply Kd.S_drew)); exact HO734.out) (Kd.S_base ho0) hb); have n2_ := Aside0.mk (Kd.S_elder' (by (with_reducible repeat (first | apply Kd.S_alloc | apply Kd.S_drewN | apply Kd.S_drew)); exact HO745.out) (Kd.S_base ho0) hb); have n3_ := Aside0.mk (Kd.S_lower (Kd.S_newB (Kd.S_new' (Kd.S_new' (Kd.S_new' ho0 (Kd.R_lt (by (with_reducible repeat (first | apply Kd.R_alloc | apply Kd.R_drewN | apply Kd.R_drew)); exact HO728.out))) (Kd.S_lt (by (with_reducible repeat (first | apply Kd.S_alloc | apply Kd.S_drewN | apply Kd.S_drew)); exact HO734.out))) (Kd.S_lt (by (with_reducible repeat (first | apply Kd.S_alloc | apply Kd.S_drewN | apply Kd.S_drew)); exact HO745.out))) (g := gb739) (o := .cells #[.int .u64 (Int.tmod a4_1 t737), .int .u64 (Int.tmod a4_0 t738)] 36 (0, 0)) (by (with_reducible repeat (first | refine blk_drewN ?_ _ | refine blk_drew ?_ | refine blk_alloc ?_ _)); exact BK739.out)) (below_size (by repeat (first | (with_reducible first | exact HB.out | apply below_alloc | apply pw_below_drewN | apply below_drew1 | refine below_set ?_ GE725.out | refine below_set ?_ GE736.out | refine below_set ?_ GE739.out | refine below_set ?_ GE747.out) | exact HB.out)))); have n4_ := Aside0.mk (blk_below (g := gb725) (o := .cells #[.int .u64 a4_0, .int .u64 a4_1] 35 (0, 0)) (by (with_reducible repeat (first | refine blk_drewN ?_ _ | refine blk_drew ?_ | refine blk_alloc ?_ _)); exact BK725.out) hb); have n5_ := Aside0.mk (blk_below (g := gb736) (o := .cells #[.int .i64 t729, .int .i64 t730, .int .i64 t731, .slice Ao33 t732.length co33] 26 (0, 0)) (by (with_reducible repeat (first | refine blk_drewN ?_ _ | refine blk_drew ?_ | refine blk_alloc ?_ _)); exact BK736.out) hb); have n6_ := Aside0.mk (blk_below (g := gb739) (o := .cells #[.int .u64 (Int.tmod a4_1 t737), .int .u64 (Int.tmod a4_0 t738)] 36 (0, 0)) (by (with_reducible repeat (first | refine blk_drewN ?_ _ | refine blk_drew ?_ | refine blk_alloc ?_ _)); exact BK739.out) hb); have n7_ := Aside0.mk (blk_below (g := gb747) (o := .cells #[.int .i64 t740, .int .i64 t741, .int .i64 t742, .slice Ao51 t743.length co51] 26 (0, 0)) (by (with_reducible repeat (first | refine blk_drewN ?_ _ | refine blk_drew ?_ | refine blk_alloc ?_ _)); exact BK747.out) hb); have n8_ := Aside0.mk (below_step (by repeat (first | (with_reducible first | exact HB.out | apply below_alloc | apply pw_below_drewN | apply below_drew1 | refine below_set ?_ GE725.out | refine below_set ?_ GE736.out | refine below_set ?_ GE739.out | refine below_set ?_ GE747.out) | exact HB.out)) hb); clear HO728; clear HO734; clear HO745; clear BK725; clear BK736; clear BK739; clear BK747; clear HB; have HO728 := n0_; have HO734 := n1_; have HO745 := n2_; have HO754 := n3_; have BK725 := n4_; have BK736 := n5_; have BK739 := n6_; have BK747 := n7_; have HB := n8_; clear n0_ n1_ n2_ n3_ n4_ n5_ n6_ n7_ n8_; (try clear hb); (try clear hb2); (try clear hk); (try clear hi); (try clear ho0)) | ((with_reducible refine gate_dst (N := 21) rfl ?_); refine box_event ?hg (N := 21) ?hd (cs := #[.int .i64 0, .int .i64 0, .int .i64 0, .slice none 0 0]) (t := 26) ?hr ?_; (case hd => rfl); (case hg => rfl); (case hr => first | (go_simp; done) | (go_simp; rfl)); intro gb756 hg w57 hbox hb; have n0_ := Aside0.mk (Kd.R_below (by (with_reducible repeat (first | apply Kd.R_alloc | apply Kd.R_drewN | apply Kd.R_drew)); exact HO728.out) hb); have n1_ := Aside0.mk (Kd.S_below (by (with_reducible repeat (first | apply Kd.S_alloc | apply Kd.S_drewN | apply Kd.S_drew)); exact HO734.out) hb); have n2_ := Aside0.mk (Kd.S_below (by (with_reducible repeat (first | apply Kd.S_alloc | apply Kd.S_drewN | apply Kd.S_drew)); exact HO745.out) hb); have n3_ := Aside0.mk (Kd.S_below (by (with_reducible repeat (first | apply Kd.S_alloc | apply Kd.S_drewN | apply Kd.S_drew)); exact HO754.out) hb); have n4_ := Aside0.mk (blk_below (g := gb725) (o := .cells #[.int .u64 a4_0, .int .u64 a4_1] 35 (0, 0)) (by (with_reducible repeat (first | refine blk_drewN ?_ _ | refine blk_drew ?_ | refine blk_alloc ?_ _)); exact BK725.out) hb); have n5_ := Aside0.mk (blk_below (g := gb736) (o := .cells #[.int .i64 t729, .int .i64 t730, .int .i64 t731, .slice Ao33 t732.length co33] 26 (0, 0)) (by (with_reducible repeat (first | refine blk_drewN ?_ _ | refine blk_drew ?_ | refine blk_alloc ?_ _)); exact BK736.out) hb); have n6_ := Aside0.mk (blk_below (g := gb739) (o := .cells #[.int .u64 (Int.tmod a4_1 t737), .int .u64 (Int.tmod a4_0 t738)] 36 (0, 0)) (by (with_reducible repeat (first | refine blk_drewN ?_ _ | refine blk_drew ?_ | refine blk_alloc ?_ _)); exact BK739.out) hb); have n7_ := Aside0.mk (blk_below (g := gb747) (o := .cells #[.int .i64 t740, .int .i64 t741, .int .i64 t742, .slice Ao51 t743.length co51] 26 (0, 0)) (by (with_reducible repeat (first | refine blk_drewN ?_ _ | refine blk_drew ?_ | refine blk_alloc ?_ _)); exact BK747.out) hb); have n8_ := Aside0.mk (below_step (by repeat (first | (with_reducible first | exact HB.out | apply below_alloc | apply pw_below_drewN | apply below_drew1 | refine below_set ?_ GE725.out | refine below_set ?_ GE736.out | refine below_set ?_ GE739.out | refine below_set ?_ GE747.out) | exact HB.out)) hb); have n9_ := Aside0.mk (hbox); have n10_ := Aside0.mk ((by rw [hg]; exact (below_size (by repeat (first | (with_reducible first | exact HB.out | apply below_alloc | apply pw_below_drewN | apply below_drew1 | refine below_set ?_ GE725.out | refine below_set ?_ GE736.out | refine below_set ?_ GE739.out | refine below_set ?_ GE747.out) | exact HB.out))) : w.heap.size ≤ gb756)); have n11_ := Aside0.mk ((by rw [hg]; exact (below_size (by repeat (first | (with_reducible first | exact HB.out | apply below_alloc | apply pw_below_drewN | apply below_drew1 | refine below_set ?_ GE725.out | refine below_set ?_ GE736.out | refine below_set ?_ GE739.out | refine below_set ?_ GE747.out) | exact HB.out))) : w.heap.size ≤ gb756)); have n12_ := Aside0.mk ((by rw [hg]; exact Nat.ne_of_lt (blk_lt (g := gb725) (o := .cells #[.int .u64 a4_0, .int .u64 a4_1] 35 (0, 0)) (by (with_reducible repeat (first | refine blk_drewN ?_ _ | refine blk_drew ?_ | refine blk_alloc ?_ _)); exact BK725.out)) : gb725 ≠ gb756)); have n13_ := Aside0.mk ((by rw [hg]; exact Nat.ne_of_gt (blk_lt (g := gb725) (o := .cells #[.int .u64 a4_0, .int .u64 a4_1] 35 (0, 0)) (by (with_reducible repeat (first | refine blk_drewN ?_ _ | refine blk_drew ?_ | refine blk_alloc ?_ _)); exact BK725.out)) : gb756 ≠ gb725)); have n14_ := Aside0.mk ((by rw [hg]; exact Nat.ne_of_lt (blk_lt (g := gb736) (o := .cells #[.int .i64 t729, .int .i64 t730, .int .i64 t731, .slice Ao33 t732.length co33] 26 (0, 0)) (by (with_reducible repeat (first | refine blk_drewN ?_ _ | refine blk_drew ?_ | refine blk_alloc ?_ _)); exact BK736.out)) : gb736 ≠ gb756)); have n15_ := Aside0.mk ((by rw [hg]; exact Nat.ne_of_gt (blk_lt (g := gb736) (o := .cells #[.int .i64 t729, .int .i64 t730, .int .i64 t731, .slice Ao33 t732.length co33] 26 (0, 0)) (by (with_reducible repeat (first | refine blk_drewN ?_ _ | refine blk_drew ?_ | refine blk_alloc ?_ _)); exact BK736.out)) : gb756 ≠ gb736)); have n16_ := Aside0.mk ((by rw [hg]; exact Nat.ne_of_lt (blk_lt (g := gb739) (o := .cells #[.int .u64 (Int.tmod a4_1 t737), .int .u64 (Int.tmod a4_0 t738)] 36 (0, 0)) (by (with_reducible repeat (first | refine blk_drewN ?_ _ | refine blk_drew ?_ | refine blk_alloc ?_ _)); exact BK739.out)) : gb739 ≠ gb756)); have n17_ := Aside0.mk ((by rw [hg]; exact Nat.ne_of_gt (blk_lt (g := gb739) (o := .cells #[.int .u64 (Int.tmod a4_1 t737), .int .u64 (Int.tmod a4_0 t738)] 36 (0, 0)) (by (with_reducible repeat (first | refine blk_drewN ?_ _ | refine blk_drew ?_ | refine blk_alloc ?_ _)); exact BK739.out)) : gb756 ≠ gb739)); have n18_ := Aside0.mk ((by rw [hg]; exact Nat.ne_of_lt (blk_lt (g := gb747) (o := .cells #[.int .i64 t740, .int .i64 t741, .int .i64 t742, .slice Ao51 t743.length co51] 26 (0, 0)) (by (with_reducible repeat (first | refine blk_drewN ?_ _ | refine blk_drew ?_ | refine blk_alloc ?_ _)); exact BK747.out)) : gb747 ≠ gb756)); have n19_ := Aside0.mk ((by rw [hg]; exact Nat.ne_of_gt (blk_lt (g := gb747) (o := .cells #[.int .i64 t740, .int .i64 t741, .int .i64 t742, .slice Ao51 t743.length co51] 26 (0, 0)) (by (with_reducible repeat (first | refine blk_drewN ?_ _ | refine blk_drew ?_ | refine blk_alloc ?_ _)); exact BK747.out)) : gb756 ≠ gb747)); clear HO728; clear HO734; clear HO745; clear HO754; clear BK725; clear BK736; clear BK739; clear BK747; clear HB; have HO728 := n0_; have HO734 := n1_; have HO745 := n2_; have HO754 := n3_; have BK725 := n4_; have BK736 := n5_; have BK739 := n6_; have BK747 := n7_; have HB := n8_; have BK756 := n9_; have GW756 := n10_; have GE756 := n11_; have NB725_756 := n12_; have NB756_725 := n13_; have NB736_756 := n14_; have NB756_736 := n15_; have NB739_756 := n16_; have NB756_739 := n17_; have NB747_756 := n18_; have NB756_747 := n19_; clear n0_ n1_ n2_ n3_ n4_ n5_ n6_ n7_ n8_ n9_ n10_ n11_ n12_ n13_ n14_ n15_ n16_ n17_ n18_ n19_; clear hb hbox hg; have hnb58 := NB756_725.out; have hnc58 := NB725_756.out; have hnb59 := NB756_736.out; have hnc59 := NB736_756.out; have hnb60 := NB756_739.out; have hnc60 := NB739_756.out; have hnb61 := NB756_747.out; have hnc61 := NB747_756.out; have hcz62_0 : w57.cell? ⟨gb756, 0, none⟩ = some (.int .i64 0) := (blk_cell BK756.out 0).trans rfl; have hcz62_1 : w57.cell? ⟨gb756, 1, none⟩ = some (.int .i64 0) := (blk_cell BK756.out 1).trans rfl; have hcz62_2 : w57.cell? ⟨gb756, 2, none⟩ = some (.int .i64 0) := (blk_cell BK756.out 2).trans rfl; have hcz62_3 : w57.cell? ⟨gb756, 3, none⟩ = some (.slice none 0 0) := (blk_cell BK756.out 3).trans rfl; have hfz62_0 := blk_frozen BK756.out 0; have hfz62_1 := blk_frozen BK756.out 1; have hfz62_2 := blk_frozen BK756.out 2; have hfz62_3 := blk_frozen BK756.out 3; obtain ⟨Ao63, co63, eo63⟩ := Kd.S_slice HO754.out; subst eo63; have hcz64_0 : w57.cell? ⟨gb747, 0, none⟩ = some (.int .i64 t740) := (blk_cell BK747.out 0).trans rfl; have hcz64_1 : w57.cell? ⟨gb747, 1, none⟩ = some (.int .i64 t741) := (blk_cell BK747.out 1).trans rfl; have hcz64_2 : w57.cell? ⟨gb747, 2, none⟩ = some (.int .i64 t742) := (blk_cell BK747.out 2).trans rfl; have hcz64_3 : w57.cell? ⟨gb747, 3, none⟩ = some (.slice Ao51 t743.length co51) := (blk_cell BK747.out 3).trans rfl; have hfz64_0 := blk_frozen BK747.out 0; have hfz64_1 := blk_frozen BK747.out 1; have hfz64_2 := blk_frozen BK747.out 2; have hfz64_3 := blk_frozen BK747.out 3) | (go_at_call 15; (with_reducible refine (attestorref07_Same.calls k t740 t741 t742 _ _ t743 t749 t750 t751 _ _ t752 true _ ?side1 ?side2 ?side3 ?side4 A23.out).mono ?_); (case side1 => refine (Kd.S_reads' (e := 22) (base := w.heap.size) (ok := fun k_ => (((some k_ ≠ (.slice Ao33 t732.length co33 : Value).ownBlock ∧ k_ ≠ gb739) ∧ some k_ ≠ (.slice (some ⟨go18, 0, none⟩) t726.length co28 : Value).ownBlock) ∧ some k_ ≠ (.slice Ao63 t752.length co63 : Value).ownBlock)) (n := t743.length) (c := co51) ?_).2.2; exact (by (with_reducible repeat (first | apply Kd.S_alloc | apply Kd.S_drewN | apply Kd.S_drew)); exact (Kd.S_mono (Kd.S_far (p := ⟨gb756, 3, none⟩) (Kd.S_far (p := ⟨gb756, 2, none⟩) (Kd.S_far (p := ⟨gb756, 1, none⟩) (Kd.S_far (p := ⟨gb756, 0, none⟩) (Kd.S_types HO745.out BK756.out (by decide)) (fun _ hk => hk.2) (.int .i64 t749)) (fun _ hk => hk.2) (.int .i64 t750)) (fun _ hk => hk.2) (.int .i64 t751)) (fun _ hk => hk.2) (.slice Ao63 t752.length co63)) (fun _ h_ => h_.1)))); (case side2 => exact (Kd.S_reads' HO745.out).2.1); (case side3 => refine (Kd.S_reads' (e := 22) (base := w.heap.size) (ok := fun k_ => ((((True ∧ some k_ ≠ (.slice (some ⟨go18, 0, none⟩) t726.length co28 : Value).ownBlock) ∧ some k_ ≠ (.slice Ao33 t732.length co33 : Value).ownBlock) ∧ some k_ ≠ (.slice Ao51 t743.length co51 : Value).ownBlock) ∧ k_ ≠ gb739)) (n := t752.length) (c := co63) ?_).2.2; exact (by (with_reducible repeat (first | apply Kd.S_alloc | apply Kd.S_drewN | apply Kd.S_drew)); exact (Kd.S_mono (Kd.S_far (p := ⟨gb756, 3, none⟩) (Kd.S_far (p := ⟨gb756, 2, none⟩) (Kd.S_far (p := ⟨gb756, 1, none⟩) (Kd.S_far (p := ⟨gb756, 0, none⟩) (Kd.S_types HO754.out BK756.out (by decide)) (fun _ hk => hk.2) (.int .i64 t749)) (fun _ hk => hk.2) (.int .i64 t750)) (fun _ hk => hk.2) (.int .i64 t751)) (fun _ hk => hk.2) (.slice Ao63 t752.length co63)) (fun _ h_ => h_.1)))); (case side4 => exact (Kd.S_reads' HO754.out).2.1); rintro e w65 ⟨rfl, hb⟩; have n0_ := Aside0.mk (Kd.R_below (by (with_reducible repeat (first | apply Kd.R_alloc | apply Kd.R_drewN | apply Kd.R_drew)); exact (Kd.R_mono (Kd.R_far (p := ⟨gb756, 3, none⟩) (Kd.R_far (p := ⟨gb756, 2, none⟩) (Kd.R_far (p := ⟨gb756, 1, none⟩) (Kd.R_far (p := ⟨gb756, 0, none⟩) (Kd.R_types HO728.out BK756.out (by decide)) (fun _ hk => hk.2) (.int .i64 t749)) (fun _ hk => hk.2) (.int .i64 t750)) (fun _ hk => hk.2) (.int .i64 t751)) (fun _ hk => hk.2) (.slice Ao63 t752.length co63)) (fun _ h_ => h_.1))) hb); have n1_ := Aside0.mk (Kd.S_below (by (with_reducible repeat (first | apply Kd.S_alloc | apply Kd.S_drewN | apply Kd.S_drew)); exact (Kd.S_mono (Kd.S_far (p := ⟨gb756, 3, none⟩) (Kd.S_far (p := ⟨gb756, 2, none⟩) (Kd.S_far (p := ⟨gb756, 1, none⟩) (Kd.S_far (p := ⟨gb756, 0, none⟩) (Kd.S_types HO734.out BK756.out (by decide)) (fun _ hk => hk.2) (.int .i64 t749)) (fun _ hk => hk.2) (.int .i64 t750)) (fun _ hk => hk.2) (.int .i64 t751)) (fun _ hk => hk.2) (.slice Ao63 t752.length co63)) (fun _ h_ => h_.1))) hb); have n2_ := Aside0.mk (Kd.S_below (by (with_reducible repeat (first | apply Kd.S_alloc | apply Kd.S_drewN | apply Kd.S_drew)); exact (Kd.S_mono (Kd.S_far (p := ⟨gb756, 3, none⟩) (Kd.S_far (p := ⟨gb756, 2, none⟩) (Kd.S_far (p := ⟨gb756, 1, none⟩) (Kd.S_far (p := ⟨gb756, 0, none⟩) (Kd.S_types HO745.out BK756.out (by decide)) (fun _ hk => hk.2) (.int .i64 t749)) (fun _ hk => hk.2) (.int .i64 t750)) (fun _ hk => hk.2) (.int .i64 t751)) (fun _ hk => hk.2) (.slice Ao63 t752.length co63)) (fun _ h_ => h_.1))) hb); have n3_ := Aside0.mk (Kd.S_below (by (with_reducible repeat (first | apply Kd.S_alloc | apply Kd.S_drewN | apply Kd.S_drew)); exact (Kd.S_mono (Kd.S_far (p := ⟨gb756, 3, none⟩) (Kd.S_far (p := ⟨gb756, 2, none⟩) (Kd.S_far (p := ⟨gb756, 1, none⟩) (Kd.S_far (p := ⟨gb756, 0, none⟩) (Kd.S_types HO754.out BK756.out (by decide)) (fun _ hk => hk.2) (.int .i64 t749)) (fun _ hk => hk.2) (.int .i64 t750)) (fun _ hk => hk.2) (.int .i64 t751)) (fun _ hk => hk.2) (.slice Ao63 t752.length co63)) (fun _ h_ => h_.1))) hb); have n4_ := Aside0.mk (blk_below (g := gb725) (o := .cells #[.int .u64 a4_0, .int .u64 a4_1] 35 (0, 0)) (by (with_reducible repeat (first | refine blk_drewN ?_ _ | refine blk_drew ?_ | refine blk_alloc ?_ _)); refine blk_far ?_ NB725_756.out _; (with_reducible repeat (first | refine blk_drewN ?_ _ | refine blk_drew ?_ | refine blk_alloc ?_ _)); refine blk_far ?_ NB725_756.out _; (with_reducible repeat (first | refine blk_drewN ?_ _ | refine blk_drew ?_ | refine blk_alloc ?_ _)); refine blk_far ?_ NB725_756.out _; (with_reducible repeat (first | refine blk_drewN ?_ _ | refine blk_drew ?_ | refine blk_alloc ?_ _)); refine blk_far ?_ NB725_756.out _; (with_reducible repeat (first | refine blk_drewN ?_ _ | refine blk_drew ?_ | refine blk_alloc ?_ _)); exact BK725.out) hb); have n5_ := Aside0.mk (blk_below (g := gb736) (o := .cells #[.int .i64 t729, .int .i64 t730, .int .i64 t731, .slice Ao33 t732.length co33] 26 (0, 0)) (by (with_reducible repeat (first | refine blk_drewN ?_ _ | refine blk_drew ?_ | refine blk_alloc ?_ _)); refine blk_far ?_ NB736_756.out _; (with_reducible repeat (first | refine blk_drewN ?_ _ | refine blk_drew ?_ | refine blk_alloc ?_ _)); refine blk_far ?_ NB736_756.out _; (with_reducible repeat (first | refine blk_drewN ?_ _ | refine blk_drew ?_ | refine blk_alloc ?_ _)); refine blk_far ?_ NB736_756.out _; (with_reducible repeat (first | refine blk_drewN ?_ _ | refine blk_drew ?_ | refine blk_alloc ?_ _)); refine blk_far ?_ NB736_756.out _; (with_reducible repeat (first | refine blk_drewN ?_ _ | refine blk_drew ?_ | refine blk_alloc ?_ _)); exact BK736.out) hb); have n6_ := Aside0.mk (blk_below (g := gb739) (o := .cells #[.int .u64 (Int.tmod a4_1 t737), .int .u64 (Int.tmod a4_0 t738)] 36 (0, 0)) (by (with_reducible repeat (first | refine blk_drewN ?_ _ | refine blk_drew ?_ | refine blk_alloc ?_ _)); refine blk_far ?_ NB739_756.out _; (with_reducible repeat (first | refine blk_drewN ?_ _ | refine blk_drew ?_ | refine blk_alloc ?_ _)); refine blk_far ?_ NB739_756.out _; (with_reducible repeat (first | refine blk_drewN ?_ _ | refine blk_drew ?_ | refine blk_alloc ?_ _)); refine blk_far ?_ NB739_756.out _; (with_reducible repeat (first | refine blk_drewN ?_ _ | refine blk_drew ?_ | refine blk_alloc ?_ _)); refine blk_far ?_ NB739_756.out _; (with_reducible repeat (first | refine blk_drewN ?_ _ | refine blk_drew ?_ | refine blk_alloc ?_ _)); exact BK739.out) hb); have n7_ := Aside0.mk (blk_below (g := gb747) (o := .cells #[.int .i64 t740, .int .i64 t741, .int .i64 t742, .slice Ao51 t743.length co51] 26 (0, 0)) (by (with_reducible repeat (first | refine blk_drewN ?_ _ | refine blk_drew ?_ | refine blk_alloc ?_ _)); refine blk_far ?_ NB747_756.out _; (with_reducible repeat (first | refine blk_drewN ?_ _ | refine blk_drew ?_ | refine blk_alloc ?_ _)); refine blk_far ?_ NB747_756.out _; (with_reducible repeat (first | refine blk_drewN ?_ _ | refine blk_drew ?_ | refine blk_alloc ?_ _)); refine blk_far ?_ NB747_756.out _; (with_reducible repeat (first | refine blk_drewN ?_ _ | refine blk_drew ?_ | refine blk_alloc ?_ _)); refine blk_far ?_ NB747_756.out _; (with_reducible repeat (first | refine blk_drewN ?_ _ | refine blk_drew ?_ | refine blk_alloc ?_ _)); exact BK747.out) hb); have n8_ := Aside0.mk (blk_below (g := gb756) (o := .cells #[.int .i64 t749, .int .i64 t750, .int .i64 t751, .slice Ao63 t752.length co63] 26 (0, 0)) (by (with_reducible repeat (first | refine blk_drewN ?_ _ | refine blk_drew ?_ | refine blk_alloc ?_ _)); refine blk_put (cs := #[.int .i64 t749, .int .i64 t750, .int .i64 t751, .slice none 0 0]) ?_ 3 _ rfl; (with_reducible repeat (first | refine blk_drewN ?_ _ | refine blk_drew ?_ | refine blk_alloc ?_ _)); refine blk_put (cs := #[.int .i64 t749, .int .i64 t750, .int .i64 0, .slice none 0 0]) ?_ 2 _ rfl; (with_reducible repeat (first | refine blk_drewN ?_ _ | refine blk_drew ?_ | refine blk_alloc ?_ _)); refine blk_put (cs := #[.int .i64 t749, .int .i64 0, .int .i64 0, .slice none 0 0]) ?_ 1 _ rfl; (with_reducible repeat (first | refine blk_drewN ?_ _ | refine blk_drew ?_ | refine blk_alloc ?_ _)); refine blk_put (cs := #[.int .i64 0, .int .i64 0, .int .i64 0, .slice none 0 0]) ?_ 0 _ rfl; (with_reducible repeat (first | refine blk_drewN ?_ _ | refine blk_drew ?_ | refine blk_alloc ?_ _)); exact BK756.out) hb); have n9_ := Aside0.mk (below_step (by repeat (first | (with_reducible first | exact HB.out | apply below_alloc | apply pw_below_drewN | apply below_drew1 | refine below_set ?_ GE725.out | refine below_set ?_ GE736.out | refine below_set ?_ GE739.out | refine below_set ?_ GE747.out | refine below_set ?_ GE756.out) | exact HB.out)) hb); clear HO728; clear HO734; clear HO745; clear HO754; clear BK725; clear BK736; clear BK739; clear BK747; clear BK756; clear HB; have HO728 := n0_; have HO734 := n1_; have HO745 := n2_; have HO754 := n3_; have BK725 := n4_; have BK736 := n5_; have BK739 := n6_; have BK747 := n7_; have BK756 := n8_; have HB := n9_; clear n0_ n1_ n2_ n3_ n4_ n5_ n6_ n7_ n8_ n9_; (try clear hb); (try clear hb2); (try clear hk); (try clear hi)) | (go_at_call 21; (with_reducible refine (attestorlaw07_lives.calls k  t758 _ ?side1 A25.out).mono ?_); (case side1 => repeat (first | exact (GL.below HRG.out HB.out) | (with_reducible refine GL.alloc ?_ _) | (with_reducible refine GL.drewN ?_ _) | (with_reducible refine GL.drew ?_))); rintro e w66 ⟨rfl, hb⟩; have n0_ := Aside0.mk (Kd.R_below (by (with_reducible repeat (first | apply Kd.R_alloc | apply Kd.R_drewN | apply Kd.R_drew)); exact HO728.out) hb); have n1_ := Aside0.mk (Kd.S_below (by (with_reducible repeat (first | apply Kd.S_alloc | apply Kd.S_drewN | apply Kd.S_drew)); exact HO734.out) hb); have n2_ := Aside0.mk (Kd.S_below (by (with_reducible repeat (first | apply Kd.S_alloc | apply Kd.S_drewN | apply Kd.S_drew)); exact HO745.out) hb); have n3_ := Aside0.mk (Kd.S_below (by (with_reducible repeat (first | apply Kd.S_alloc | apply Kd.S_drewN | apply Kd.S_drew)); exact HO754.out) hb); have n4_ := Aside0.mk (blk_below (g := gb725) (o := .cells #[.int .u64 a4_0, .int .u64 a4_1] 35 (0, 0)) (by (with_reducible repeat (first | refine blk_drewN ?_ _ | refine blk_drew ?_ | refine blk_alloc ?_ _)); exact BK725.out) hb); have n5_ := Aside0.mk (blk_below (g := gb736) (o := .cells #[.int .i64 t729, .int .i64 t730, .int .i64 t731, .slice Ao33 t732.length co33] 26 (0, 0)) (by (with_reducible repeat (first | refine blk_drewN ?_ _ | refine blk_drew ?_ | refine blk_alloc ?_ _)); exact BK736.out) hb); have n6_ := Aside0.mk (blk_below (g := gb739) (o := .cells #[.int .u64 (Int.tmod a4_1 t737), .int .u64 (Int.tmod a4_0 t738)] 36 (0, 0)) (by (with_reducible repeat (first | refine blk_drewN ?_ _ | refine blk_drew ?_ | refine blk_alloc ?_ _)); exact BK739.out) hb); have n7_ := Aside0.mk (blk_below (g := gb747) (o := .cells #[.int .i64 t740, .int .i64 t741, .int .i64 t742, .slice Ao51 t743.length co51] 26 (0, 0)) (by (with_reducible repeat (first | refine blk_drewN ?_ _ | refine blk_drew ?_ | refine blk_alloc ?_ _)); exact BK747.out) hb); have n8_ := Aside0.mk (blk_below (g := gb756) (o := .cells #[.int .i64 t749, .int .i64 t750, .int .i64 t751, .slice Ao63 t752.length co63] 26 (0, 0)) (by (with_reducible repeat (first | refine blk_drewN ?_ _ | refine blk_drew ?_ | refine blk_alloc ?_ _)); exact BK756.out) hb); have n9_ := Aside0.mk (below_step (by repeat (first | (with_reducible first | exact HB.out | apply below_alloc | apply pw_below_drewN | apply below_drew1 | refine below_set ?_ GE725.out | refine below_set ?_ GE736.out | refine below_set ?_ GE739.out | refine below_set ?_ GE747.out | refine below_set ?_ GE756.out) | exact HB.out)) hb); clear HO728; clear HO734; clear HO745; clear HO754; clear BK725; clear BK736; clear BK739; clear BK747; clear BK756; clear HB; have HO728 := n0_; have HO734 := n1_; have HO745 := n2_; have HO754 := n3_; have BK725 := n4_; have BK736 := n5_; have BK739 := n6_; have BK747 := n7_; have BK756 := n8_; have HB := n9_; clear n0_ n1_ n2_ n3_ n4_ n5_ n6_ n7_ n8_ n9_; (try clear hb); (try clear hb2); (try clear hk); (try clear hi)))
                      go_ret
                      exact ⟨by first | rfl | (simp [errW_none, errW_some] <;> rfl) | (simp only [← hji15]; first | rfl | (simp [errW_none, errW_some] <;> rfl)) | (simp [*, errW_none, errW_some] <;> rfl), by repeat (first | (with_reducible first | exact HB.out | apply below_alloc | apply pw_below_drewN | apply below_drew1 | refine below_set ?_ GE725.out | refine below_set ?_ GE736.out | refine below_set ?_ GE739.out | refine below_set ?_ GE747.out | refine below_set ?_ GE756.out) | exact HB.out)⟩
                    · replace c24 := Bool.eq_false_iff.mpr c24
                      subst c24
                      have H1 : (none) = some r := by rw [if_neg (show ¬ (false = true) by decide)] at H; exact H
                      clear H
                      have H := H1
                      clear H1
                      exact absurd H (by simp)
                  · rw [if_neg c22] at H
                    exact absurd H (by simp)
                · rw [if_neg c21] at H
                  exact absurd H (by simp)
              · rw [if_neg c20] at H
                exact absurd H (by simp)
            · rw [if_neg c17] at H
              exact absurd H (by simp)
          · rw [if_neg c16] at H
            exact absurd H (by simp)

end Go.Proofs.YtpnpmeogffodgaaDoor.Q
end
section
namespace Go.Proofs.YtpnpmeogffodgaaDoor.Q
open Go.RowKit Go.Proofs.YtpnpmeogffodgaaDoorW.PrintWords Go.Proofs.YtpnpmeogffodgaaDoorW.PrintLast Go.Proofs.YtpnpmeogffodgaaDoorW.PrintMore
open Go.Proofs.YtpnpmeogffodgaaDoor.Num
set_option linter.unusedVariables false
set_option linter.unusedSimpArgs false
theorem replaces_true (a0 a1 a2 : Int) (h0 : 0 ≤ a0 ∧ a0 < 256) (h1 : 0 ≤ a1 ∧ a1 < 256) (h2 : 0 ≤ a2 ∧ a2 < 256) (s : List Int) (hs : ∀ y ∈ s, 0 ≤ y) (b0 b1 : Int) (g0 : 0 ≤ b0) (g1 : 0 ≤ b1) : attestorlaw07_TreeReplaces.f 2000 a0 a1 a2 s b0 b1 = some true := by
  have hv : 0 ≤ wrap64 (Int.tmod a0 4) ∧ wrap64 (Int.tmod a0 4) < 4 := by
    rw [Int.tmod_eq_emod_of_nonneg h0.1]
    unfold wrap64
    omega
  obtain ⟨x, hx, hx5⟩ : ∃ x : Nat, wrap64 (Int.tmod a1 6) = (x : Int) ∧ x ≤ 5 := by
    rw [Int.tmod_eq_emod_of_nonneg h1.1]
    refine ⟨(a1 % 6).toNat, ?_, by omega⟩
    unfold wrap64
    omega
  have w1 : wrap64 ((x : Int) + 1) = ((x + 1 : Nat) : Int) := by unfold wrap64; omega
  obtain ⟨c, hc, hcx⟩ : ∃ c : Nat, Int.tmod (wrap64 a2) ((x + 1 : Nat) : Int) = (c : Int) ∧ c ≤ x := by
    rw [show wrap64 a2 = a2 by unfold wrap64; omega, Int.tmod_eq_emod_of_nonneg h2.1]
    have l := Int.emod_lt_of_pos a2 (show (0 : Int) < ((x + 1 : Nat) : Int) by omega)
    have g := Int.emod_nonneg a2 (show ((x + 1 : Nat) : Int) ≠ 0 by omega)
    exact ⟨(a2 % ((x + 1 : Nat) : Int)).toNat, by omega, by omega⟩
  unfold attestorlaw07_TreeReplaces.f
  rw [hx, w1, hc]
  generalize wrap64 (Int.tmod a0 4) = f at hv ⊢
  obtain ⟨n, rfl⟩ : ∃ n, x = n + c := ⟨x - c, by omega⟩
  have hb : 2 ^ (n + c) ≤ 2 ^ 5 := Nat.pow_le_pow_right (by omega) hx5
  have hpos : 0 < 2 ^ (n + c) := Nat.pow_pos (by omega)
  have hf : 0 < fp f := by
    obtain ⟨p, g, e, D⟩ := fd_of hv.1 hv.2
    rw [D.F.eq]; have := D.p96; omega
  obtain ⟨l, hl, hlen, hp⟩ := leaves_f hv (n + c) 2000 (by omega) (by omega) s hs
  have hw : IntKind.u64.wrap (l.length : Int) = (l.length : Int) := wrapU (by omega)
  obtain ⟨i, hi, hil⟩ : ∃ i : Nat, wrap64 (Int.tmod b0 (l.length : Int)) = (i : Int) ∧ i < l.length := by
    have u1 := Int.tmod_nonneg (l.length : Int) g0
    have u2 := Int.tmod_lt_of_pos b0 (show (0 : Int) < (l.length : Int) by omega)
    exact ⟨(Int.tmod b0 (l.length : Int)).toNat, by unfold wrap64; omega, by omega⟩
  obtain ⟨d, hd0, hd1, hd⟩ : ∃ d : S36, d.f0 = Int.tmod b1 (fp f) ∧ d.f1 = Int.tmod b0 (fp f) ∧ pD f d := ⟨⟨Int.tmod b1 (fp f), Int.tmod b0 (fp f)⟩, rfl, rfl, ⟨Int.tmod_nonneg _ g1, Int.tmod_lt_of_pos _ hf⟩, Int.tmod_nonneg _ g0, Int.tmod_lt_of_pos _ hf⟩
  have hlen' : (l.set i d).length = 2 ^ (n + c) := by rw [List.length_set]; exact hlen
  rw [if_neg (by omega)]
  refine bnd hl (bnd (build_f hv n c 2000 l (by omega) (by omega) hlen hp) ?_)
  rw [hw, if_neg (by omega), hi]
  refine bnd (P_f f) ?_
  rw [if_neg (by omega)]
  refine bnd (P_f f) ?_
  rw [if_neg (by omega), ← hd0, ← hd1]
  refine bnd (trepl_f hv n c 2000 i l d (by omega) (by omega) hlen hp hd hil) ?_
  rw [if_pos (by omega), if_pos (by omega), Int.toNat_natCast]
  refine bnd (build_f hv n c 2000 (l.set i d) (by omega) (by omega) hlen' (mem_set_p hp hd)) ?_
  rw [if_pos rfl, if_pos rfl, if_pos rfl]
  refine bnd (same_self _ _ _ _ (by rw [lvl_len]; omega) (lvl_rows f 1000 n (l.set i d) (by omega)) 2000 (by omega)) ?_
  rw [if_pos rfl]
  exact bnd (lives_true 2000 (by omega)) rfl
end Go.Proofs.YtpnpmeogffodgaaDoor.Q
end
section
namespace Go.Proofs.YtpnpmeogffodgaaDoor.Q
open Go.ChangeShapes Go.WideShapes Go.ChangeAt Go.WideMaps Go.WideElems Go.RowKit
open Go.Proofs.YtpnpmeogffodgaaDoorW.PrintWords Go.Proofs.YtpnpmeogffodgaaDoorW.PrintLast Go.Proofs.YtpnpmeogffodgaaDoorW.PrintMore
open Go.Proofs.YtpnpmeogffodgaaDoor.Opn
set_option linter.unusedVariables false

theorem okWide_array_ {P : Program} {w : World} {r : Reach} {base : Nat} {t : TypeId} {v : Value} {n : Nat} {e : TypeId} (ht : P.underlying t = some (.array n e)) (h : Value.okWide P w r base t v) : ∃ cs, v = .agg cs ∧ cs.size = P.cellsOf t := by
  simp only [Value.okWide, ht] at h
  obtain ⟨cs, h1, h2, _⟩ := h
  exact ⟨cs, h1, h2⟩
set_option maxRecDepth 100000 in
theorem treeReplaces_lifted (os : Os) (started : os.Started) (H : Type) (enc : TypeId × Value → H) :
    ReturnsInHanded {} Tryd.checked os 9 .any (fun w args => (Rows.treeReplacesSpec.pre enc Tryd.prog Tryd.f9 [] false w args ∧ laidMetH Tryd.prog laid1 w) ∧ sizedMet enc Tryd.prog Tryd.f9 (OpenSpec.ofChange Rows.treeReplacesSpec) false w args)
      (Rows.treeReplacesSpec.post enc Tryd.prog Tryd.f9 false true false false) := by
  refine returnsInHanded_of_change_and (C := Tryd.checked) (X := (fun w _ => laidMetH Tryd.prog laid1 w)) (fun _ _ _ hh h => h.of_heap hh) own started (by kernel_rfl) Tryd.func9
    (ChangeSpec.witness_shaped (enc := enc) (C := Tryd.checked) (os := os) (X := (fun w _ => laidMetH Tryd.prog laid1 w)) false (World.doorLaid Tryd.prog 400 os) #[.int .u8 0, .int .u8 0, .int .u8 0, .slice none 0 0, .agg #[.int .u64 0, .int .u64 0]] 8 rfl (World.shaped_of_RefB (by kernel_rfl) (by kernel_rfl)) (by kernel_rfl) (by kernel_rfl) (by kernel_rfl) (door_met os _)) ?_
  intro W base args ds gs before hval0 hW _ _ hL _
  have hval : ∀ (j : Nat) t v, Tryd.f9.params[j]? = some t → args[j]? = some v → Value.okWide Tryd.prog W .any base t v := hval0
  have hW' := hW
  obtain ⟨p, q, hA0, hV, rfl, hfz, hnd⟩ := hW
  have hA : DataW.TrodAll enc Tryd.prog W 0 (fun _ => true) true Tryd.f9.params.toList args.toList ds p := hA0
  rw [Tryd.params9] at hA hval
  obtain ⟨v0, vs0, d0, ds0, p0, q0, hargs, rfl, rfl, h0, r0⟩ := trodAll_cons hA
  obtain ⟨v1, vs1, d1, ds1, p1, q1, rfl, rfl, rfl, h1, r1⟩ := trodAll_cons r0
  obtain ⟨v2, vs2, d2, ds2, p2, q2, rfl, rfl, rfl, h2, r2⟩ := trodAll_cons r1
  obtain ⟨v3, vs3, d3, ds3, p3, q3, rfl, rfl, rfl, h3, r3⟩ := trodAll_cons r2
  obtain ⟨v4, vs4, d4, ds4, p4, q4, rfl, rfl, rfl, h4, r4⟩ := trodAll_cons r3
  obtain ⟨rfl, rfl, rfl⟩ := trodAll_nil r4
  obtain rfl : args = #[v0, v1, v2, v3, v4] := by cases args; simp_all
  obtain ⟨rfl, rfl⟩ := trodVars_none hV
  obtain ⟨a0, rfl, rfl, rfl, w0⟩ := open_int Tryd.underlying5 (hval 0 5 v0 rfl rfl) h0
  obtain ⟨a1, rfl, rfl, rfl, w1⟩ := open_int Tryd.underlying5 (hval 1 5 v1 rfl rfl) h1
  obtain ⟨a2, rfl, rfl, rfl, w2⟩ := open_int Tryd.underlying5 (hval 2 5 v2 rfl rfl) h2
  obtain ⟨a3, len3, cap3, rfl⟩ := okWide_slice Tryd.underlying39 (hval 3 39 v3 rfl rfl)
  have k3 := h3
  have lt3 : ∀ x ∈ p3, x.block < W.heap.size := by obtain ⟨m, hm⟩ := k3; exact DataW.trod_lt m _ _ _ hm
  obtain ⟨m3, hm3⟩ := h3
  obtain ⟨l3, ⟨A3, c3, hc3, hle3, hC3⟩, hw3⟩ := opn39 (enc := enc) (W := W) m3 _ _ hm3
  simp only [Value.cells, List.cons.injEq, and_true, Value.slice.injEq] at hc3
  obtain ⟨rfl, rfl, rfl⟩ := hc3
  have k4 := h4
  have lt4 : ∀ x ∈ p4, x.block < W.heap.size := by obtain ⟨m, hm⟩ := k4; exact DataW.trod_lt m _ _ _ hm
  obtain ⟨cs4, rfl, _⟩ := okWide_array_ Tryd.underlying35 (hval 4 35 v4 rfl rfl)
  obtain ⟨m4, hm4⟩ := h4
  obtain ⟨a4_0, a4_1, hcs4, w4_0, w4_1⟩ := flat35 m4 _ _ hm4
  obtain rfl : cs4 = #[.int .u64 a4_0, .int .u64 a4_1] := by cases cs4; simp only [Value.cells] at hcs4; subst hcs4; rfl
  clear hA0 hval0
  refine (attestorlaw07_TreeReplaces.calls 2000 a0 a1 a2 a3 cap3 l3 a4_0 a4_1 true W hC3 hle3 (gl_of_laid hL) (replaces_true a0 a1 a2 (wf_u8 w0) (wf_u8 w1) (wf_u8 w2) l3 (fun y hy => (wf_u64 (hw3 y hy)).1) a4_0 a4_1 (wf_u64 w4_0).1 (wf_u64 w4_1).1)).mono fun e W' ⟨he, bel⟩ => ?_
  subst he
  exact ⟨_, rfl, _, _, _, [], _, [], hW', trodAll_mk1 (shut_bool Tryd.underlying4 _), (trodAll_cons_mk (shut_int Tryd.underlying5 w0) (trodAll_cons_mk (shut_int Tryd.underlying5 w1) (trodAll_cons_mk (shut_int Tryd.underlying5 w2) (trodAll_cons_mk (Below.trod laidOut (by kernel_rfl) (of_decide_eq_true (by kernel_rfl)) k3 bel lt3) (trodAll_cons_mk (Below.trod laidOut (by kernel_rfl) (of_decide_eq_true (by kernel_rfl)) k4 bel lt4) trodAll_mk0))))), rfl, bel.frame _, fun h => by cases h⟩
theorem treeReplaces_row : Rows.TreeReplacesSaid :=
  OpenClaim.holds_of_wide 9 Tryd.f9 rfl rfl rfl rfl rfl rfl rfl ⟨rfl, rfl, rfl, rfl, rfl⟩ rfl rfl rfl rfl rfl (by kernel_rfl) Tryd.func9 (by kernel_rfl)
    (of_decide_eq_true (by kernel_rfl)) (by unfold Func.isWrapper; first | (rw [if_pos (by decide +kernel)]; kernel_rfl) | (rw [if_neg (by decide +kernel)]; exact ⟨rfl, rfl⟩))
    (fun os started H enc _ => treeReplaces_lifted os started H enc)
theorem treeReplaces_card : Rows.TreeReplacesCardSaid :=
  Claim7.holds_tied_plain_at .later [] [.widerDeep, .data, .data] true Rows.treeReplacesCard.stood.harness false
    treeReplaces_row (fun _ h => by cases h) (by kernel_rfl) (fun _ h => by cases h) treeReplaces_row_tie rfl ⟨rfl, rfl⟩ (by kernel_rfl) rfl
    (fun f fn hf hfn => by
      obtain rfl : f = 9 := Option.some.inj ((show Tryd.prog.funcNamed "attestor/attestorlaw07.TreeReplaces" = some 9 by kernel_rfl).symm.trans hf) |>.symm
      obtain rfl : fn = Tryd.f9 := (Option.some.inj (Tryd.func9.symm.trans hfn)).symm
      exact ⟨by kernel_rfl, fun j t ht => by
        rw [Tryd.params9] at ht
        have hm : t ∈ [5, 5, 5, 39, 35] := by simpa using Array.mem_of_getElem? ht
        have hall : ([5, 5, 5, 39, 35].all fun u => !Tryd.prog.wantsStandIn u) = true := by kernel_rfl
        exact (show Tryd.prog.wantsStandIn t = false by simpa using List.all_eq_true.1 hall t hm)⟩)
    (by kernel_rfl)
end Go.Proofs.YtpnpmeogffodgaaDoor.Q
namespace Go.Proofs.YtpnpmeogffodgaaDoor
/-- Under a short name, for the claim. -/
theorem treeReplaces_holds : Rows.TreeReplacesCardSaid := Q.treeReplaces_card
end Go.Proofs.YtpnpmeogffodgaaDoor
#print axioms Go.Proofs.YtpnpmeogffodgaaDoor.treeReplaces_holds
end
