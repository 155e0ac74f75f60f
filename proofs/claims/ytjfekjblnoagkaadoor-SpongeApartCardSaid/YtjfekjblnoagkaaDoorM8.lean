/- Several texts in one, in build order. What they prove, each by its own first remark:
Written by our own copy of a printing program (a twelfth state) out of the translation. Not trusted: Lean checks it.
SpongeApart's plain law.
For all fields and states attestorlaw06.SpongeApart returns true, where the variables 'fields' and 'undo' hold what the program's text lays (the card ties that): no other condition. -/
import Derived.Test.YtjfekjblnoagkaaDoorM2
import Derived.Test.YtjfekjblnoagkaaDoorM3
import Derived.Test.YtjfekjblnoagkaaDoorM4
import Derived.Test.YtjfekjblnoagkaaDoorM6
import Derived.Test.YtjfekjblnoagkaaDoorM7
import Derived.Test.YtjfekjblnoagkaaDoorCards
import Derived.Test.YtjfekjblnoagkaaDoorTie
import Derived.SevenTiedAt
import Derived.SizedLaws
import Derived.ShutString
import Derived.ChangeOld
import Derived.ProofKit
import Derived.Below
import Derived.OpenShut
section
namespace Go.Proofs.YtjfekjblnoagkaaDoor.Q
open Go.RowKit Go.Proofs.YtjfekjblnoagkaaDoorW.PrintWords Go.Proofs.YtjfekjblnoagkaaDoorW.PrintLast Go.Proofs.YtjfekjblnoagkaaDoorW.PrintMore
attribute [local go_sem] max2_int min2_int max_two min_two max_three min_three max_four min_four   -- for this text's walks alone
set_option linter.unusedVariables false
set_option linter.unusedSimpArgs false

attribute [local go_sem high] eqA23
abbrev z10_0_ : Array Bool := #[false, false, false, false, false, false, false, false]
abbrev z10_1_ : Array Bool := #[true, false, false, false, false, false, false, false]
abbrev z10_2_ : Array Bool := #[true, false, false, true, false, false, false, false]
abbrev z10_3_ : Array Bool := #[true, true, false, true, false, false, false, false]
abbrev z10_4_ : Array Bool := #[true, true, false, true, true, false, false, false]
abbrev z10_5_ : Array Bool := #[true, true, true, true, true, false, false, false]
abbrev z10_6_ : Array Bool := #[true, true, true, true, true, true, false, false]
abbrev z10_7_ : Array Bool := #[true, true, true, true, true, true, true, false]
abbrev z10_8_ : Array Bool := #[true, true, true, true, true, true, true, true]
abbrev z10_9_ : Array Bool := #[false, false, false, false, false, false, false, false, false, false, false, false, false, false, false, false, false, false, false, false, false, false, false, false, false, false, false, false]
abbrev z10_10_ : Array Bool := #[true, false, false, false, false, false, false, false, false, false, false, false, false, false, false, false, false, false, false, false, false, false, false, false, false, false, false, false]
abbrev z10_11_ : Array Bool := #[true, false, false, true, false, false, false, false, false, false, false, false, false, false, false, false, false, false, false, false, false, false, false, false, false, false, false, false]
abbrev z10_12_ : Array Bool := #[true, true, false, true, false, false, false, false, false, false, false, false, false, false, false, false, false, false, false, false, false, false, false, false, false, false, false, false]
abbrev z10_13_ : Array Bool := #[true, true, false, true, true, false, false, false, false, false, false, false, false, false, false, false, false, false, false, false, false, false, false, false, false, false, false, false]
abbrev z10_14_ : Array Bool := #[true, true, false, true, true, false, false, true, false, false, false, false, false, false, false, false, false, false, false, false, false, false, false, false, false, false, false, false]
abbrev z10_15_ : Array Bool := #[true, true, false, true, true, false, false, true, true, false, false, false, false, false, false, false, false, false, false, false, false, false, false, false, false, false, false, false]
abbrev z10_16_ : Array Bool := #[true, true, false, true, true, false, false, true, true, true, false, false, false, false, false, false, false, false, false, false, false, false, false, false, false, false, false, false]
abbrev z10_17_ : Array Bool := #[true, true, true, true, true, false, false, true, true, true, false, false, false, false, false, false, false, false, false, false, false, false, false, false, false, false, false, false]
abbrev z10_18_ : Array Bool := #[true, true, true, true, true, true, false, true, true, true, false, false, false, false, false, false, false, false, false, false, false, false, false, false, false, false, false, false]
abbrev z10_19_ : Array Bool := #[true, true, true, true, true, true, true, true, true, true, false, false, false, false, false, false, false, false, false, false, false, false, false, false, false, false, false, false]
abbrev z10_20_ : Array Bool := #[true, true, true, true, true, true, true, true, true, true, true, false, false, false, false, false, false, false, false, false, false, false, false, false, false, false, false, false]
abbrev z10_21_ : Array Bool := #[true, true, true, true, true, true, true, true, true, true, true, true, false, false, false, false, false, false, false, false, false, false, false, false, false, false, false, false]
abbrev z10_22_ : Array Bool := #[true, true, true, true, true, true, true, true, true, true, true, true, true, false, false, false, false, false, false, false, false, false, false, false, false, false, false, false]
abbrev z10_23_ : Array Bool := #[true, true, true, true, true, true, true, true, true, true, true, true, true, false, false, true, false, false, false, false, false, false, false, false, false, false, false, false]
abbrev z10_24_ : Array Bool := #[true, true, true, true, true, true, true, true, true, true, true, true, true, true, false, true, false, false, false, false, false, false, false, false, false, false, false, false]
abbrev z10_25_ : Array Bool := #[true, true, true, true, true, true, true, true, true, true, true, true, true, true, false, true, true, false, false, false, false, false, false, false, false, false, false, false]
abbrev z10_26_ : Array Bool := #[true, true, true, true, true, true, true, true, true, true, true, true, true, true, false, true, true, false, false, true, false, false, false, false, false, false, false, false]
abbrev z10_27_ : Array Bool := #[true, true, true, true, true, true, true, true, true, true, true, true, true, true, false, true, true, false, false, true, true, false, false, false, false, false, false, false]
abbrev z10_28_ : Array Bool := #[true, true, true, true, true, true, true, true, true, true, true, true, true, true, false, true, true, false, false, true, true, true, false, false, false, false, false, false]
abbrev z10_29_ : Array Bool := #[true, true, true, true, true, true, true, true, true, true, true, true, true, true, true, true, true, false, false, true, true, true, false, false, false, false, false, false]
abbrev z10_30_ : Array Bool := #[true, true, true, true, true, true, true, true, true, true, true, true, true, true, true, true, true, true, false, true, true, true, false, false, false, false, false, false]
abbrev z10_31_ : Array Bool := #[true, true, true, true, true, true, true, true, true, true, true, true, true, true, true, true, true, true, true, true, true, true, false, false, false, false, false, false]
abbrev z10_32_ : Array Bool := #[true, true, true, true, true, true, true, true, true, true, true, true, true, true, true, true, true, true, true, true, true, true, true, false, false, false, false, false]
abbrev z10_33_ : Array Bool := #[true, true, true, true, true, true, true, true, true, true, true, true, true, true, true, true, true, true, true, true, true, true, true, true, false, false, false, false]
abbrev z10_34_ : Array Bool := #[true, true, true, true, true, true, true, true, true, true, true, true, true, true, true, true, true, true, true, true, true, true, true, true, true, false, false, false]
abbrev z10_35_ : Array Bool := #[true, true, true, true, true, true, true, true, true, true, true, true, true, true, true, true, true, true, true, true, true, true, true, true, true, true, false, false]
abbrev z10_36_ : Array Bool := #[true, true, true, true, true, true, true, true, true, true, true, true, true, true, true, true, true, true, true, true, true, true, true, true, true, true, true, false]
abbrev z10_37_ : Array Bool := #[true, true, true, true, true, true, true, true, true, true, true, true, true, true, true, true, true, true, true, true, true, true, true, true, true, true, true, true]
/-! ### attestorlaw06_SpongeApart: function 10 -/
def attestorlaw06_SpongeApart.f (k : Nat) (a0 : Int) (a1_0 : Int) (a1_1 : Int) (a1_2 : Int) (a1_3 : Int) (a2_0 : Int) (a2_1 : Int) (a2_2 : Int) (a2_3 : Int) : Option (Bool) := (attestorlaw06_reduced.f (wrap64 (Int.tmod a0 4)) a1_0 a1_1 a1_2 a1_3).bind fun bt383 => ((attestorlaw06_reduced.f (wrap64 (Int.tmod a0 4)) a2_0 a2_1 a2_2 a2_3).bind fun bt387 => ((sponge_Perm.f (wrap64 (Int.tmod a0 4)) bt383.1 bt383.2.1 bt383.2.2.1 bt383.2.2.2).bind fun bt391 => ((sponge_Perm.f (wrap64 (Int.tmod a0 4)) bt387.1 bt387.2.1 bt387.2.2.1 bt387.2.2.2).bind fun bt395 => (if ((bt391.1 == bt395.1 && (bt391.2.1 == bt395.2.1 && (bt391.2.2.1 == bt395.2.2.1 && (bt391.2.2.2 == bt395.2.2.2)))) == (bt383.1 == bt387.1 && (bt383.2.1 == bt387.2.1 && (bt383.2.2.1 == bt387.2.2.1 && (bt383.2.2.2 == bt387.2.2.2))))) = true then ((sponge_Inverse.f k (wrap64 (Int.tmod a0 4)) bt383.1 bt383.2.1 bt383.2.2.1 bt383.2.2.2).bind fun bt399 => ((sponge_Inverse.f k (wrap64 (Int.tmod a0 4)) bt387.1 bt387.2.1 bt387.2.2.1 bt387.2.2.2).bind fun bt403 => (if ((bt399.1 == bt403.1 && (bt399.2.1 == bt403.2.1 && (bt399.2.2.1 == bt403.2.2.1 && (bt399.2.2.2 == bt403.2.2.2)))) == (bt383.1 == bt387.1 && (bt383.2.1 == bt387.2.1 && (bt383.2.2.1 == bt387.2.2.1 && (bt383.2.2.2 == bt387.2.2.2))))) = true then ((attestorlaw06_lives.f k).bind fun t407 => (some t407)) else (none)))) else (none)))))
theorem attestorlaw06_SpongeApart.mono : ∀ a0 a1 a2 a3 a4 a5 a6 a7 a8 k, LeO (attestorlaw06_SpongeApart.f k a0 a1 a2 a3 a4 a5 a6 a7 a8) (attestorlaw06_SpongeApart.f (k + 1) a0 a1 a2 a3 a4 a5 a6 a7 a8) := by
  intro a0 a1 a2 a3 a4 a5 a6 a7 a8 k
  unfold attestorlaw06_SpongeApart.f
  repeat' first
      | (with_reducible exact attestorlaw06_lives.mono _)
      | (with_reducible exact sponge_Inverse.mono _ _ _ _ _ _)
      | (with_reducible exact LeO.refl _)
      | (with_reducible exact LeO.none _)
      | (with_reducible refine LeO.ite ?_ ?_)
      | (with_reducible refine LeO.bind ?_ (fun _ => ?_))
      | exact attestorlaw06_lives.mono _
      | exact sponge_Inverse.mono _ _ _ _ _ _
      | exact LeO.none _
      | refine LeO.ite ?_ ?_
      | refine LeO.bind ?_ (fun _ => ?_)
def attestorlaw06_SpongeApart.T2 : Bool × List (List Nat × List Nat) := (true, [([], []), ([], []), ([0, 1], [0, 1]), ([], []), ([], []), ([3, 4, 2], [3, 4]), ([2, 5, 0, 1, 2], [2]), ([5, 6, 0, 1, 2, 3, 4, 5, 6], [5])])
def attestorlaw06_SpongeApart.B2 : List Nat := [0, 0, 3, 0, 0, 31, 63, 127]
theorem attestorlaw06_SpongeApart.tab2 : rtab .any (opsOf Tryd.f10 2) = attestorlaw06_SpongeApart.T2 := by kernel_rfl
theorem attestorlaw06_SpongeApart.bits2 : waitsOk attestorlaw06_SpongeApart.T2.2 attestorlaw06_SpongeApart.B2 = true := by kernel_rfl
def attestorlaw06_SpongeApart.T3 : Bool × List (List Nat × List Nat) := (true, [([], []), ([], []), ([0, 1], [0, 1]), ([], []), ([], []), ([3, 4, 2], [3, 4]), ([2, 5], [2, 5]), ([], []), ([], []), ([7, 8], [7, 8]), ([6, 9], [6, 9]), ([10, 5], [10]), ([11], [11]), ([11], [11]), ([12, 13, 11, 11], [11, 12, 13]), ([11], [11]), ([11], [11]), ([15, 16, 14, 11], [11, 15, 16]), ([14, 17, 11], [11, 14, 17]), ([11], [11]), ([11], [11]), ([19, 20, 11], [11, 19, 20]), ([18, 21, 11], [11, 18, 21]), ([11, 22], [11, 22]), ([23, 17], [23]), ([24, 24], [24]), ([24, 25], [24, 25]), ([26, 25, 0, 1, 2, 3, 4, 5, 6, 7, 8, 9, 10, 11, 12, 13, 14, 15, 16, 17, 18, 19, 20, 21, 22, 23, 24, 25, 26], [26])])
def attestorlaw06_SpongeApart.B3 : List Nat := [0, 0, 3, 0, 0, 31, 63, 0, 0, 384, 1023, 2047, 4095, 4095, 16383, 4095, 4095, 131071, 262143, 4095, 4095, 1576959, 4194303, 8388607, 16777215, 33554431, 67108863, 134217727]
theorem attestorlaw06_SpongeApart.tab3 : rtab .any (opsOf Tryd.f10 3) = attestorlaw06_SpongeApart.T3 := by kernel_rfl
theorem attestorlaw06_SpongeApart.bits3 : waitsOk attestorlaw06_SpongeApart.T3.2 attestorlaw06_SpongeApart.B3 = true := by kernel_rfl
set_option maxHeartbeats 8000000 in
set_option maxRecDepth 100000 in
theorem attestorlaw06_SpongeApart.calls (k : Nat) (a0 : Int) (a1_0 : Int) (a1_1 : Int) (a1_2 : Int) (a1_3 : Int) (a2_0 : Int) (a2_1 : Int) (a2_2 : Int) (a2_3 : Int) (r : Bool) (w : World) (hrG : GL w) (h : attestorlaw06_SpongeApart.f k a0 a1_0 a1_1 a1_2 a1_3 a2_0 a2_1 a2_2 a2_3 = some r) :
  Calls Tryd.prog 10 #[.int .u8 a0, .agg #[.int .u64 a1_0, .int .u64 a1_1, .int .u64 a1_2, .int .u64 a1_3], .agg #[.int .u64 a2_0, .int .u64 a2_1, .int .u64 a2_2, .int .u64 a2_3]] w fun e w' => e = .returned (.bool r) ∧ Below w.heap.size w w' := by
 have hu23 := Tryd.underlying23
 have HRG := Aside0.mk hrG
 clear hrG
 have HB := Aside0.mk (Below.refl w.heap.size w)
 have H : ((attestorlaw06_reduced.f (wrap64 (Int.tmod a0 4)) a1_0 a1_1 a1_2 a1_3).bind fun bt383 => ((attestorlaw06_reduced.f (wrap64 (Int.tmod a0 4)) a2_0 a2_1 a2_2 a2_3).bind fun bt387 => ((sponge_Perm.f (wrap64 (Int.tmod a0 4)) bt383.1 bt383.2.1 bt383.2.2.1 bt383.2.2.2).bind fun bt391 => ((sponge_Perm.f (wrap64 (Int.tmod a0 4)) bt387.1 bt387.2.1 bt387.2.2.1 bt387.2.2.2).bind fun bt395 => (if ((bt391.1 == bt395.1 && (bt391.2.1 == bt395.2.1 && (bt391.2.2.1 == bt395.2.2.1 && (bt391.2.2.2 == bt395.2.2.2)))) == (bt383.1 == bt387.1 && (bt383.2.1 == bt387.2.1 && (bt383.2.2.1 == bt387.2.2.1 && (bt383.2.2.2 == bt387.2.2.2))))) = true then ((sponge_Inverse.f k (wrap64 (Int.tmod a0 4)) bt383.1 bt383.2.1 bt383.2.2.1 bt383.2.2.2).bind fun bt399 => ((sponge_Inverse.f k (wrap64 (Int.tmod a0 4)) bt387.1 bt387.2.1 bt387.2.2.1 bt387.2.2.2).bind fun bt403 => (if ((bt399.1 == bt403.1 && (bt399.2.1 == bt403.2.1 && (bt399.2.2.1 == bt403.2.2.1 && (bt399.2.2.2 == bt403.2.2.2)))) == (bt383.1 == bt387.1 && (bt383.2.1 == bt387.2.1 && (bt383.2.2.1 == bt387.2.2.1 && (bt383.2.2.2 == bt387.2.2.2))))) = true then ((attestorlaw06_lives.f k).bind fun t407 => (some t407)) else (none)))) else (none)))))) = some r := h
 clear h
 replace H := Option.bind_eq_some_iff.mp H
 obtain ⟨⟨t383, t384, t385, t386⟩, A40, H⟩ := H
 replace H : ((attestorlaw06_reduced.f (wrap64 (Int.tmod a0 4)) a2_0 a2_1 a2_2 a2_3).bind fun bt387 => ((sponge_Perm.f (wrap64 (Int.tmod a0 4)) t383 t384 t385 t386).bind fun bt391 => ((sponge_Perm.f (wrap64 (Int.tmod a0 4)) bt387.1 bt387.2.1 bt387.2.2.1 bt387.2.2.2).bind fun bt395 => (if ((bt391.1 == bt395.1 && (bt391.2.1 == bt395.2.1 && (bt391.2.2.1 == bt395.2.2.1 && (bt391.2.2.2 == bt395.2.2.2)))) == (t383 == bt387.1 && (t384 == bt387.2.1 && (t385 == bt387.2.2.1 && (t386 == bt387.2.2.2))))) = true then ((sponge_Inverse.f k (wrap64 (Int.tmod a0 4)) t383 t384 t385 t386).bind fun bt399 => ((sponge_Inverse.f k (wrap64 (Int.tmod a0 4)) bt387.1 bt387.2.1 bt387.2.2.1 bt387.2.2.2).bind fun bt403 => (if ((bt399.1 == bt403.1 && (bt399.2.1 == bt403.2.1 && (bt399.2.2.1 == bt403.2.2.1 && (bt399.2.2.2 == bt403.2.2.2)))) == (t383 == bt387.1 && (t384 == bt387.2.1 && (t385 == bt387.2.2.1 && (t386 == bt387.2.2.2))))) = true then ((attestorlaw06_lives.f k).bind fun t407 => (some t407)) else (none)))) else (none))))) = some r := H
 have A4 := Aside0.mk A40
 clear A40
 replace H := Option.bind_eq_some_iff.mp H
 obtain ⟨⟨t387, t388, t389, t390⟩, A50, H⟩ := H
 replace H : ((sponge_Perm.f (wrap64 (Int.tmod a0 4)) t383 t384 t385 t386).bind fun bt391 => ((sponge_Perm.f (wrap64 (Int.tmod a0 4)) t387 t388 t389 t390).bind fun bt395 => (if ((bt391.1 == bt395.1 && (bt391.2.1 == bt395.2.1 && (bt391.2.2.1 == bt395.2.2.1 && (bt391.2.2.2 == bt395.2.2.2)))) == (t383 == t387 && (t384 == t388 && (t385 == t389 && (t386 == t390))))) = true then ((sponge_Inverse.f k (wrap64 (Int.tmod a0 4)) t383 t384 t385 t386).bind fun bt399 => ((sponge_Inverse.f k (wrap64 (Int.tmod a0 4)) t387 t388 t389 t390).bind fun bt403 => (if ((bt399.1 == bt403.1 && (bt399.2.1 == bt403.2.1 && (bt399.2.2.1 == bt403.2.2.1 && (bt399.2.2.2 == bt403.2.2.2)))) == (t383 == t387 && (t384 == t388 && (t385 == t389 && (t386 == t390))))) = true then ((attestorlaw06_lives.f k).bind fun t407 => (some t407)) else (none)))) else (none)))) = some r := H
 have A5 := Aside0.mk A50
 clear A50
 replace H := Option.bind_eq_some_iff.mp H
 obtain ⟨⟨t391, t392, t393, t394⟩, A60, H⟩ := H
 replace H : ((sponge_Perm.f (wrap64 (Int.tmod a0 4)) t387 t388 t389 t390).bind fun bt395 => (if ((t391 == bt395.1 && (t392 == bt395.2.1 && (t393 == bt395.2.2.1 && (t394 == bt395.2.2.2)))) == (t383 == t387 && (t384 == t388 && (t385 == t389 && (t386 == t390))))) = true then ((sponge_Inverse.f k (wrap64 (Int.tmod a0 4)) t383 t384 t385 t386).bind fun bt399 => ((sponge_Inverse.f k (wrap64 (Int.tmod a0 4)) t387 t388 t389 t390).bind fun bt403 => (if ((bt399.1 == bt403.1 && (bt399.2.1 == bt403.2.1 && (bt399.2.2.1 == bt403.2.2.1 && (bt399.2.2.2 == bt403.2.2.2)))) == (t383 == t387 && (t384 == t388 && (t385 == t389 && (t386 == t390))))) = true then ((attestorlaw06_lives.f k).bind fun t407 => (some t407)) else (none)))) else (none))) = some r := H
 have A6 := Aside0.mk A60
 clear A60
 replace H := Option.bind_eq_some_iff.mp H
 obtain ⟨⟨t395, t396, t397, t398⟩, A70, H⟩ := H
 replace H : (if ((t391 == t395 && (t392 == t396 && (t393 == t397 && (t394 == t398)))) == (t383 == t387 && (t384 == t388 && (t385 == t389 && (t386 == t390))))) = true then ((sponge_Inverse.f k (wrap64 (Int.tmod a0 4)) t383 t384 t385 t386).bind fun bt399 => ((sponge_Inverse.f k (wrap64 (Int.tmod a0 4)) t387 t388 t389 t390).bind fun bt403 => (if ((bt399.1 == bt403.1 && (bt399.2.1 == bt403.2.1 && (bt399.2.2.1 == bt403.2.2.1 && (bt399.2.2.2 == bt403.2.2.2)))) == (t383 == t387 && (t384 == t388 && (t385 == t389 && (t386 == t390))))) = true then ((attestorlaw06_lives.f k).bind fun t407 => (some t407)) else (none)))) else (none)) = some r := H
 have A7 := Aside0.mk A70
 clear A70
 by_cases c8 : ((t391 == t395 && (t392 == t396 && (t393 == t397 && (t394 == t398)))) == (t383 == t387 && (t384 == t388 && (t385 == t389 && (t386 == t390))))) = true
 ·rw [if_pos c8] at H
  have c8b0 : ((t391 == t395 && (t392 == t396 && (t393 == t397 && (t394 == t398)))) == (t383 == t387 && (t384 == t388 && (t385 == t389 && (t386 == t390))))) = true := c8
  (try (have c8b1 : decide ((t391 == t395 && (t392 == t396 && (t393 == t397 && (t394 == t398)))) = (t383 == t387 && (t384 == t388 && (t385 == t389 && (t386 == t390))))) = true := by simpa using c8))
  (try (have c8b2 : ((t391 == t395 && (t392 == t396 && (t393 == t397 && (t394 == t398)))) == (t383 == t387 && (t384 == t388 && (t385 == t389 && (t386 == t390))))) = true := by simpa using c8))
  clear c8
  replace H := Option.bind_eq_some_iff.mp H
  obtain ⟨⟨t399, t400, t401, t402⟩, A90, H⟩ := H
  replace H : ((sponge_Inverse.f k (wrap64 (Int.tmod a0 4)) t387 t388 t389 t390).bind fun bt403 => (if ((t399 == bt403.1 && (t400 == bt403.2.1 && (t401 == bt403.2.2.1 && (t402 == bt403.2.2.2)))) == (t383 == t387 && (t384 == t388 && (t385 == t389 && (t386 == t390))))) = true then ((attestorlaw06_lives.f k).bind fun t407 => (some t407)) else (none))) = some r := H
  have A9 := Aside0.mk A90
  clear A90
  replace H := Option.bind_eq_some_iff.mp H
  obtain ⟨⟨t403, t404, t405, t406⟩, A100, H⟩ := H
  replace H : (if ((t399 == t403 && (t400 == t404 && (t401 == t405 && (t402 == t406)))) == (t383 == t387 && (t384 == t388 && (t385 == t389 && (t386 == t390))))) = true then ((attestorlaw06_lives.f k).bind fun t407 => (some t407)) else (none)) = some r := H
  have A10 := Aside0.mk A100
  clear A100
  by_cases c11 : ((t399 == t403 && (t400 == t404 && (t401 == t405 && (t402 == t406)))) == (t383 == t387 && (t384 == t388 && (t385 == t389 && (t386 == t390))))) = true
  ·rw [if_pos c11] at H
   have c11b0 : ((t399 == t403 && (t400 == t404 && (t401 == t405 && (t402 == t406)))) == (t383 == t387 && (t384 == t388 && (t385 == t389 && (t386 == t390))))) = true := c11
   (try (have c11b1 : decide ((t399 == t403 && (t400 == t404 && (t401 == t405 && (t402 == t406)))) = (t383 == t387 && (t384 == t388 && (t385 == t389 && (t386 == t390))))) = true := by simpa using c11))
   (try (have c11b2 : ((t399 == t403 && (t400 == t404 && (t401 == t405 && (t402 == t406)))) == (t383 == t387 && (t384 == t388 && (t385 == t389 && (t386 == t390))))) = true := by simpa using c11))
   clear c11
   replace H := Option.bind_eq_some_iff.mp H
   obtain ⟨t407, A120, H⟩ := H
   replace H : (some t407) = some r := H
   have A12 := Aside0.mk A120
   clear A120
   obtain rfl := Option.some.inj H
   go_enter Tryd.func10, Tryd.ntmps10
   try go_wp2_with (first | ((with_reducible refine gate_dst (N := 4) rfl ?_); refine box_event ?hg (N := 4) ?hd (cs := #[.int .u64 a1_0, .int .u64 a1_1, .int .u64 a1_2, .int .u64 a1_3]) (t := 23) ?hr ?_; (case hd => rfl); (case hg => rfl); (case hr => first | (go_simp; done) | (go_simp; rfl)); intro g381 hg w13 hbox hb; have n0_ := Aside0.mk (below_step (by repeat (first | (with_reducible first | exact HB.out | apply below_alloc | apply pw_below_drewN | apply below_drew1) | exact HB.out)) hb); have n1_ := Aside0.mk (hbox); have n2_ := Aside0.mk ((by rw [hg]; exact (below_size (by repeat (first | (with_reducible first | exact HB.out | apply below_alloc | apply pw_below_drewN | apply below_drew1) | exact HB.out))) : w.heap.size ≤ g381)); have n3_ := Aside0.mk ((by rw [hg]; exact (below_size (by repeat (first | (with_reducible first | exact HB.out | apply below_alloc | apply pw_below_drewN | apply below_drew1) | exact HB.out))) : w.heap.size ≤ g381)); clear HB; have HB := n0_; have B381 := n1_; have GW381 := n2_; have GE381 := n3_; clear n0_ n1_ n2_ n3_; clear hb hbox hg) | ((with_reducible refine gate_dst (N := 5) rfl ?_); refine box_event ?hg (N := 5) ?hd (cs := #[.int .u64 a2_0, .int .u64 a2_1, .int .u64 a2_2, .int .u64 a2_3]) (t := 23) ?hr ?_; (case hd => rfl); (case hg => rfl); (case hr => first | (go_simp; done) | (go_simp; rfl)); intro g382 hg w14 hbox hb; have n0_ := Aside0.mk (blk_below (g := g381) (o := .cells #[.int .u64 a1_0, .int .u64 a1_1, .int .u64 a1_2, .int .u64 a1_3] 23 (0, 0)) (by (with_reducible repeat first | refine blk_drewN ?_ _ | refine blk_drew ?_ | refine blk_alloc ?_ _); exact B381.out) hb); have n1_ := Aside0.mk (below_step (by repeat (first | (with_reducible first | exact HB.out | apply below_alloc | apply pw_below_drewN | apply below_drew1 | refine below_set ?_ GE381.out) | exact HB.out)) hb); have n2_ := Aside0.mk (hbox); have n3_ := Aside0.mk ((by rw [hg]; exact (below_size (by repeat (first | (with_reducible first | exact HB.out | apply below_alloc | apply pw_below_drewN | apply below_drew1 | refine below_set ?_ GE381.out) | exact HB.out))) : w.heap.size ≤ g382)); have n4_ := Aside0.mk ((by rw [hg]; exact (below_size (by repeat (first | (with_reducible first | exact HB.out | apply below_alloc | apply pw_below_drewN | apply below_drew1 | refine below_set ?_ GE381.out) | exact HB.out))) : w.heap.size ≤ g382)); have n5_ := Aside0.mk ((by rw [hg]; exact Nat.ne_of_lt (blk_lt (g := g381) (o := .cells #[.int .u64 a1_0, .int .u64 a1_1, .int .u64 a1_2, .int .u64 a1_3] 23 (0, 0)) (by (with_reducible repeat first | refine blk_drewN ?_ _ | refine blk_drew ?_ | refine blk_alloc ?_ _); exact B381.out)) : g381 ≠ g382)); have n6_ := Aside0.mk ((by rw [hg]; exact Nat.ne_of_gt (blk_lt (g := g381) (o := .cells #[.int .u64 a1_0, .int .u64 a1_1, .int .u64 a1_2, .int .u64 a1_3] 23 (0, 0)) (by (with_reducible repeat first | refine blk_drewN ?_ _ | refine blk_drew ?_ | refine blk_alloc ?_ _); exact B381.out)) : g382 ≠ g381)); clear B381; clear HB; have B381 := n0_; have HB := n1_; have B382 := n2_; have GW382 := n3_; have GE382 := n4_; have NB381_382 := n5_; have NB382_381 := n6_; clear n0_ n1_ n2_ n3_ n4_ n5_ n6_; clear hb hbox hg))
   have n0_ := Aside0.mk (blk_drew B381.out)
   have n1_ := Aside0.mk (blk_drew B382.out)
   have n2_ := Aside0.mk (below_drew1 HB.out)
   clear B381
   clear B382
   clear HB
   have B381 := n0_
   have B382 := n1_
   have HB := n2_
   clear n0_ n1_ n2_
   refine start_ (n := 8) (S := fun w' => w'.cell? ⟨g381, 0, none⟩ = some (.int .u64 a1_0) ∧ w'.cell? ⟨g381, 1, none⟩ = some (.int .u64 a1_1) ∧ w'.cell? ⟨g381, 2, none⟩ = some (.int .u64 a1_2) ∧ w'.cell? ⟨g381, 3, none⟩ = some (.int .u64 a1_3) ∧ w'.cell? ⟨g382, 0, none⟩ = some (.int .u64 a2_0) ∧ w'.cell? ⟨g382, 1, none⟩ = some (.int .u64 a2_1) ∧ w'.cell? ⟨g382, 2, none⟩ = some (.int .u64 a2_2) ∧ w'.cell? ⟨g382, 3, none⟩ = some (.int .u64 a2_3)) (ds := [6, 7]) z10_0_ (by kernel_rfl) rfl rfl ⟨bq_ B381 0, bq_ B381 1, bq_ B381 2, bq_ B381 3, bq_ B382 0, bq_ B382 1, bq_ B382 2, bq_ B382 3⟩ (fun hL => ?_); refine with_tabW attestorlaw06_SpongeApart.tab2 attestorlaw06_SpongeApart.bits2 (fun T_ W_ => ?_)
   generalize w14.drew = w15 at B381 B382 HB hL ⊢
   refine pure_ (i := 0) (N := some 11) (v := ?_) (a' := ?_) z10_1_ rfl rfl (an_ T_) (fun _ _ _ h => h) (Or.inl ⟨by rfl, ?_⟩) ?_ ?_
   rotate_left; · intro w'; go_simp; with_reducible rfl
   rotate_left; · simp only [Act.put, sa_, sb_, sc_, i64_w, i32_w]; rfl
   refine pure_ (i := 3) (N := some 14) (v := ?_) (a' := ?_) z10_2_ rfl rfl (an_ T_) (fun _ _ _ h => h) (Or.inl ⟨by rfl, ?_⟩) ?_ ?_
   rotate_left; · intro w'; go_simp; with_reducible rfl
   rotate_left; · simp only [Act.put, sa_, sb_, sc_, i64_w, i32_w]; rfl
   refine take_ (i := 1) (N := some 12) (v := ?_) (a' := ?_) z10_3_ rfl rfl (tk_ T_ W_) (fun _ _ _ h => h) (Or.inl ⟨by rfl, ?_⟩) hL ?_ ?_
   rotate_left
   ·rintro w' ⟨s0, s1, s2, s3, s4, s5, s6, s7⟩
    go_simp
    with_reducible rfl
   rotate_left
   ·simp only [Act.put, sa_, sb_, sc_, i64_w, i32_w]
    rfl
   refine take_ (i := 4) (N := some 15) (v := ?_) (a' := ?_) z10_4_ rfl rfl (tk_ T_ W_) (fun _ _ _ h => h) (Or.inl ⟨by rfl, ?_⟩) hL ?_ ?_
   rotate_left
   ·rintro w' ⟨s0, s1, s2, s3, s4, s5, s6, s7⟩
    go_simp
    with_reducible rfl
   rotate_left
   ·simp only [Act.put, sa_, sb_, sc_, i64_w, i32_w]
    rfl
   refine one_ (i := 2) (N := some 13) z10_5_ rfl rfl (on_ T_) (by decide) (fun K hK => ?_)
   refine goes_ Tryd.func27 (by kernel_rfl) rfl #[.int .i64 (wrap64 (Int.tmod a0 4)), .agg #[.int .u64 a1_0, .int .u64 a1_1, .int .u64 a1_2, .int .u64 a1_3]] (by rfl) rfl rfl (by (try simp only [List.map_toArray, List.map_cons, List.map_nil]); first | done | rfl) ?_
   with_reducible refine (attestorlaw06_reduced.calls (wrap64 (Int.tmod a0 4)) a1_0 a1_1 a1_2 a1_3 t383 t384 t385 t386 _ A4.out).mono ?_
   rintro e w16 ⟨rfl, hb⟩
   refine ⟨_, rfl, ?_⟩
   have n0_ := Aside0.mk (blk_below (g := g381) (o := .cells #[.int .u64 a1_0, .int .u64 a1_1, .int .u64 a1_2, .int .u64 a1_3] 23 (0, 0)) (by (with_reducible repeat first | refine blk_drewN ?_ _ | refine blk_drew ?_ | refine blk_alloc ?_ _); exact B381.out) hb)
   have n1_ := Aside0.mk (blk_below (g := g382) (o := .cells #[.int .u64 a2_0, .int .u64 a2_1, .int .u64 a2_2, .int .u64 a2_3] 23 (0, 0)) (by (with_reducible repeat first | refine blk_drewN ?_ _ | refine blk_drew ?_ | refine blk_alloc ?_ _); exact B382.out) hb)
   have n2_ := Aside0.mk (below_step (by repeat (first | (with_reducible first | exact HB.out | apply below_alloc | apply pw_below_drewN | apply below_drew1 | refine below_set ?_ GE381.out | refine below_set ?_ GE382.out) | exact HB.out)) hb)
   clear B381
   clear B382
   clear HB
   have B381 := n0_
   have B382 := n1_
   have HB := n2_
   clear n0_ n1_ n2_
   (try clear hb)
   (try clear hb2)
   (try clear hk)
   (try clear hi)
   refine hK.out _ _ ⟨bq_ B381 0, bq_ B381 1, bq_ B381 2, bq_ B381 3, bq_ B382 0, bq_ B382 1, bq_ B382 2, bq_ B382 3⟩ (fun hL => ?_)
   clear hK K
   refine norm_ (a' := ?_) ?_ ?_
   rotate_left
   ·show Act.put _ (some 13) _ = _
    simp only [Act.put, sa_, sb_, sc_, i64_w, i32_w]
    rfl
   refine one_ (i := 5) (N := some 16) z10_6_ rfl rfl (on_ T_) (by decide) (fun K hK => ?_)
   refine goes_ Tryd.func27 (by kernel_rfl) rfl #[.int .i64 (wrap64 (Int.tmod a0 4)), .agg #[.int .u64 a2_0, .int .u64 a2_1, .int .u64 a2_2, .int .u64 a2_3]] (by rfl) rfl rfl (by (try simp only [List.map_toArray, List.map_cons, List.map_nil]); first | done | rfl) ?_
   with_reducible refine (attestorlaw06_reduced.calls (wrap64 (Int.tmod a0 4)) a2_0 a2_1 a2_2 a2_3 t387 t388 t389 t390 _ A5.out).mono ?_
   rintro e w17 ⟨rfl, hb⟩
   refine ⟨_, rfl, ?_⟩
   have n0_ := Aside0.mk (blk_below (g := g381) (o := .cells #[.int .u64 a1_0, .int .u64 a1_1, .int .u64 a1_2, .int .u64 a1_3] 23 (0, 0)) (by (with_reducible repeat first | refine blk_drewN ?_ _ | refine blk_drew ?_ | refine blk_alloc ?_ _); exact B381.out) hb)
   have n1_ := Aside0.mk (blk_below (g := g382) (o := .cells #[.int .u64 a2_0, .int .u64 a2_1, .int .u64 a2_2, .int .u64 a2_3] 23 (0, 0)) (by (with_reducible repeat first | refine blk_drewN ?_ _ | refine blk_drew ?_ | refine blk_alloc ?_ _); exact B382.out) hb)
   have n2_ := Aside0.mk (below_step (by repeat (first | (with_reducible first | exact HB.out | apply below_alloc | apply pw_below_drewN | apply below_drew1 | refine below_set ?_ GE381.out | refine below_set ?_ GE382.out) | exact HB.out)) hb)
   clear B381
   clear B382
   clear HB
   have B381 := n0_
   have B382 := n1_
   have HB := n2_
   clear n0_ n1_ n2_
   (try clear hb)
   (try clear hb2)
   (try clear hk)
   (try clear hi)
   refine hK.out _ _ ⟨bq_ B381 0, bq_ B381 1, bq_ B381 2, bq_ B381 3, bq_ B382 0, bq_ B382 1, bq_ B382 2, bq_ B382 3⟩ (fun hL => ?_)
   clear hK K
   refine norm_ (a' := ?_) ?_ ?_
   rotate_left
   ·show Act.put _ (some 16) _ = _
    simp only [Act.put, sa_, sb_, sc_, i64_w, i32_w]
    rfl
   refine last_ (i := 6) (N := none) z10_7_ rfl rfl (on_ T_) (by decide) (fun K hK => ?_)
   have hs18 : w17.cell? ⟨g381, 0, none⟩ = some (.int .u64 a1_0) := bq_ B381 0
   have hfs18 := blk_frozen B381.out 0
   have hns18_1 := NB382_381.out
   have hms18_1 := NB381_382.out
   have hs19 : w17.cell? ⟨g381, 1, none⟩ = some (.int .u64 a1_1) := bq_ B381 1
   have hfs19 := blk_frozen B381.out 1
   have hns19_1 := NB382_381.out
   have hms19_1 := NB381_382.out
   have hs20 : w17.cell? ⟨g381, 2, none⟩ = some (.int .u64 a1_2) := bq_ B381 2
   have hfs20 := blk_frozen B381.out 2
   have hns20_1 := NB382_381.out
   have hms20_1 := NB381_382.out
   have hs21 : w17.cell? ⟨g381, 3, none⟩ = some (.int .u64 a1_3) := bq_ B381 3
   have hfs21 := blk_frozen B381.out 3
   have hns21_1 := NB382_381.out
   have hms21_1 := NB381_382.out
   refine skip_ (w1 := ?_) (by rfl) rfl ?_ ?_
   rotate_left
   ·go_simp
    rfl
   refine hK.out _ _ ?_
   clear hK K
   refine last_ (i := 7) (N := none) z10_8_ rfl rfl (on_ T_) (by decide) (fun K hK => ?_)
   have hs22 : w17.cell? ⟨g382, 0, none⟩ = some (.int .u64 a2_0) := bq_ B382 0
   have hfs22 := blk_frozen B382.out 0
   have hns22_0 := NB381_382.out
   have hms22_0 := NB382_381.out
   have hs23 : w17.cell? ⟨g382, 1, none⟩ = some (.int .u64 a2_1) := bq_ B382 1
   have hfs23 := blk_frozen B382.out 1
   have hns23_0 := NB381_382.out
   have hms23_0 := NB382_381.out
   have hs24 : w17.cell? ⟨g382, 2, none⟩ = some (.int .u64 a2_2) := bq_ B382 2
   have hfs24 := blk_frozen B382.out 2
   have hns24_0 := NB381_382.out
   have hms24_0 := NB382_381.out
   have hs25 : w17.cell? ⟨g382, 3, none⟩ = some (.int .u64 a2_3) := bq_ B382 3
   have hfs25 := blk_frozen B382.out 3
   have hns25_0 := NB381_382.out
   have hms25_0 := NB382_381.out
   refine skip_ (w1 := ?_) (by rfl) rfl ?_ ?_
   rotate_left
   ·go_simp
    rfl
   refine hK.out _ _ ?_
   clear hK K
   refine done_ (done_of T_.out (by kernel_rfl)) ?_
   try go_wp2
   have n0_ : Aside0 (((((((((w17.setCell ⟨g381, 0, none⟩ (.int .u64 t383)).setCell ⟨g381, 1, none⟩ (.int .u64 t384)).setCell ⟨g381, 2, none⟩ (.int .u64 t385)).setCell ⟨g381, 3, none⟩ (.int .u64 t386)).setCell ⟨g382, 0, none⟩ (.int .u64 t387)).setCell ⟨g382, 1, none⟩ (.int .u64 t388)).setCell ⟨g382, 2, none⟩ (.int .u64 t389)).setCell ⟨g382, 3, none⟩ (.int .u64 t390)).heap[g381]? = some (.cells #[.int .u64 t383, .int .u64 t384, .int .u64 t385, .int .u64 t386] 23 (0, 0))) := ⟨by (with_reducible repeat first | refine blk_drewN ?_ _ | refine blk_drew ?_ | refine blk_alloc ?_ _); refine blk_far ?_ NB381_382.out _; (with_reducible repeat first | refine blk_drewN ?_ _ | refine blk_drew ?_ | refine blk_alloc ?_ _); refine blk_far ?_ NB381_382.out _; (with_reducible repeat first | refine blk_drewN ?_ _ | refine blk_drew ?_ | refine blk_alloc ?_ _); refine blk_far ?_ NB381_382.out _; (with_reducible repeat first | refine blk_drewN ?_ _ | refine blk_drew ?_ | refine blk_alloc ?_ _); refine blk_far ?_ NB381_382.out _; (with_reducible repeat first | refine blk_drewN ?_ _ | refine blk_drew ?_ | refine blk_alloc ?_ _); refine blk_put (cs := #[.int .u64 t383, .int .u64 t384, .int .u64 t385, .int .u64 a1_3]) ?_ 3 _ rfl; (with_reducible repeat first | refine blk_drewN ?_ _ | refine blk_drew ?_ | refine blk_alloc ?_ _); refine blk_put (cs := #[.int .u64 t383, .int .u64 t384, .int .u64 a1_2, .int .u64 a1_3]) ?_ 2 _ rfl; (with_reducible repeat first | refine blk_drewN ?_ _ | refine blk_drew ?_ | refine blk_alloc ?_ _); refine blk_put (cs := #[.int .u64 t383, .int .u64 a1_1, .int .u64 a1_2, .int .u64 a1_3]) ?_ 1 _ rfl; (with_reducible repeat first | refine blk_drewN ?_ _ | refine blk_drew ?_ | refine blk_alloc ?_ _); refine blk_put (cs := #[.int .u64 a1_0, .int .u64 a1_1, .int .u64 a1_2, .int .u64 a1_3]) ?_ 0 _ rfl; (with_reducible repeat first | refine blk_drewN ?_ _ | refine blk_drew ?_ | refine blk_alloc ?_ _); exact B381.out⟩
   have n1_ : Aside0 (((((((((w17.setCell ⟨g381, 0, none⟩ (.int .u64 t383)).setCell ⟨g381, 1, none⟩ (.int .u64 t384)).setCell ⟨g381, 2, none⟩ (.int .u64 t385)).setCell ⟨g381, 3, none⟩ (.int .u64 t386)).setCell ⟨g382, 0, none⟩ (.int .u64 t387)).setCell ⟨g382, 1, none⟩ (.int .u64 t388)).setCell ⟨g382, 2, none⟩ (.int .u64 t389)).setCell ⟨g382, 3, none⟩ (.int .u64 t390)).heap[g382]? = some (.cells #[.int .u64 t387, .int .u64 t388, .int .u64 t389, .int .u64 t390] 23 (0, 0))) := ⟨by (with_reducible repeat first | refine blk_drewN ?_ _ | refine blk_drew ?_ | refine blk_alloc ?_ _); refine blk_put (cs := #[.int .u64 t387, .int .u64 t388, .int .u64 t389, .int .u64 a2_3]) ?_ 3 _ rfl; (with_reducible repeat first | refine blk_drewN ?_ _ | refine blk_drew ?_ | refine blk_alloc ?_ _); refine blk_put (cs := #[.int .u64 t387, .int .u64 t388, .int .u64 a2_2, .int .u64 a2_3]) ?_ 2 _ rfl; (with_reducible repeat first | refine blk_drewN ?_ _ | refine blk_drew ?_ | refine blk_alloc ?_ _); refine blk_put (cs := #[.int .u64 t387, .int .u64 a2_1, .int .u64 a2_2, .int .u64 a2_3]) ?_ 1 _ rfl; (with_reducible repeat first | refine blk_drewN ?_ _ | refine blk_drew ?_ | refine blk_alloc ?_ _); refine blk_put (cs := #[.int .u64 a2_0, .int .u64 a2_1, .int .u64 a2_2, .int .u64 a2_3]) ?_ 0 _ rfl; (with_reducible repeat first | refine blk_drewN ?_ _ | refine blk_drew ?_ | refine blk_alloc ?_ _); refine blk_far ?_ NB382_381.out _; (with_reducible repeat first | refine blk_drewN ?_ _ | refine blk_drew ?_ | refine blk_alloc ?_ _); refine blk_far ?_ NB382_381.out _; (with_reducible repeat first | refine blk_drewN ?_ _ | refine blk_drew ?_ | refine blk_alloc ?_ _); refine blk_far ?_ NB382_381.out _; (with_reducible repeat first | refine blk_drewN ?_ _ | refine blk_drew ?_ | refine blk_alloc ?_ _); refine blk_far ?_ NB382_381.out _; (with_reducible repeat first | refine blk_drewN ?_ _ | refine blk_drew ?_ | refine blk_alloc ?_ _); exact B382.out⟩
   have n2_ : Aside0 (Below w.heap.size w ((((((((w17.setCell ⟨g381, 0, none⟩ (.int .u64 t383)).setCell ⟨g381, 1, none⟩ (.int .u64 t384)).setCell ⟨g381, 2, none⟩ (.int .u64 t385)).setCell ⟨g381, 3, none⟩ (.int .u64 t386)).setCell ⟨g382, 0, none⟩ (.int .u64 t387)).setCell ⟨g382, 1, none⟩ (.int .u64 t388)).setCell ⟨g382, 2, none⟩ (.int .u64 t389)).setCell ⟨g382, 3, none⟩ (.int .u64 t390))) := ⟨by repeat (first | (with_reducible first | exact HB.out | apply below_alloc | apply pw_below_drewN | apply below_drew1 | refine below_set ?_ GE381.out | refine below_set ?_ GE382.out) | exact HB.out)⟩
   (try clear B381)
   (try clear B382)
   (try clear HB)
   generalize ((((((((w17.setCell ⟨g381, 0, none⟩ (.int .u64 t383)).setCell ⟨g381, 1, none⟩ (.int .u64 t384)).setCell ⟨g381, 2, none⟩ (.int .u64 t385)).setCell ⟨g381, 3, none⟩ (.int .u64 t386)).setCell ⟨g382, 0, none⟩ (.int .u64 t387)).setCell ⟨g382, 1, none⟩ (.int .u64 t388)).setCell ⟨g382, 2, none⟩ (.int .u64 t389)).setCell ⟨g382, 3, none⟩ (.int .u64 t390)) = w26 at n0_ n1_ n2_ ⊢
   have B381 := n0_
   have B382 := n1_
   have HB := n2_
   clear n0_ n1_ n2_
   have n0_ := Aside0.mk (blk_drew B381.out)
   have n1_ := Aside0.mk (blk_drew B382.out)
   have n2_ := Aside0.mk (below_drew1 HB.out)
   clear B381
   clear B382
   clear HB
   have B381 := n0_
   have B382 := n1_
   have HB := n2_
   clear n0_ n1_ n2_
   refine start_ (n := 28) (S := fun w' => w'.cell? ⟨g381, 0, none⟩ = some (.int .u64 t383) ∧ w'.cell? ⟨g381, 1, none⟩ = some (.int .u64 t384) ∧ w'.cell? ⟨g381, 2, none⟩ = some (.int .u64 t385) ∧ w'.cell? ⟨g381, 3, none⟩ = some (.int .u64 t386) ∧ w'.cell? ⟨g382, 0, none⟩ = some (.int .u64 t387) ∧ w'.cell? ⟨g382, 1, none⟩ = some (.int .u64 t388) ∧ w'.cell? ⟨g382, 2, none⟩ = some (.int .u64 t389) ∧ w'.cell? ⟨g382, 3, none⟩ = some (.int .u64 t390)) (ds := []) z10_9_ (by kernel_rfl) rfl rfl ⟨bq_ B381 0, bq_ B381 1, bq_ B381 2, bq_ B381 3, bq_ B382 0, bq_ B382 1, bq_ B382 2, bq_ B382 3⟩ (fun hL => ?_); refine with_tabW attestorlaw06_SpongeApart.tab3 attestorlaw06_SpongeApart.bits3 (fun T_ W_ => ?_)
   generalize w26.drew = w27 at B381 B382 HB hL ⊢
   refine pure_ (i := 0) (N := some 17) (v := ?_) (a' := ?_) z10_10_ rfl rfl (an_ T_) (fun _ _ _ h => h) (Or.inl ⟨by rfl, ?_⟩) ?_ ?_
   rotate_left; · intro w'; go_simp; with_reducible rfl
   rotate_left; · simp only [Act.put, sa_, sb_, sc_, i64_w, i32_w]; rfl
   refine pure_ (i := 3) (N := some 20) (v := ?_) (a' := ?_) z10_11_ rfl rfl (an_ T_) (fun _ _ _ h => h) (Or.inl ⟨by rfl, ?_⟩) ?_ ?_
   rotate_left; · intro w'; go_simp; with_reducible rfl
   rotate_left; · simp only [Act.put, sa_, sb_, sc_, i64_w, i32_w]; rfl
   refine take_ (i := 1) (N := some 18) (v := ?_) (a' := ?_) z10_12_ rfl rfl (tk_ T_ W_) (fun _ _ _ h => h) (Or.inl ⟨by rfl, ?_⟩) hL ?_ ?_
   rotate_left
   ·rintro w' ⟨s0, s1, s2, s3, s4, s5, s6, s7⟩
    go_simp
    with_reducible rfl
   rotate_left
   ·simp only [Act.put, sa_, sb_, sc_, i64_w, i32_w]
    rfl
   refine take_ (i := 4) (N := some 21) (v := ?_) (a' := ?_) z10_13_ rfl rfl (tk_ T_ W_) (fun _ _ _ h => h) (Or.inl ⟨by rfl, ?_⟩) hL ?_ ?_
   rotate_left
   ·rintro w' ⟨s0, s1, s2, s3, s4, s5, s6, s7⟩
    go_simp
    with_reducible rfl
   rotate_left
   ·simp only [Act.put, sa_, sb_, sc_, i64_w, i32_w]
    rfl
   refine take_ (i := 7) (N := some 24) (v := ?_) (a' := ?_) z10_14_ rfl rfl (tk_ T_ W_) (fun _ _ _ h => h) (Or.inl ⟨by rfl, ?_⟩) hL ?_ ?_
   rotate_left
   ·rintro w' ⟨s0, s1, s2, s3, s4, s5, s6, s7⟩
    go_simp
    with_reducible rfl
   rotate_left
   ·simp only [Act.put, sa_, sb_, sc_, i64_w, i32_w]
    rfl
   refine take_ (i := 8) (N := some 25) (v := ?_) (a' := ?_) z10_15_ rfl rfl (tk_ T_ W_) (fun _ _ _ h => h) (Or.inl ⟨by rfl, ?_⟩) hL ?_ ?_
   rotate_left
   ·rintro w' ⟨s0, s1, s2, s3, s4, s5, s6, s7⟩
    go_simp
    with_reducible rfl
   rotate_left
   ·simp only [Act.put, sa_, sb_, sc_, i64_w, i32_w]
    rfl
   refine pure_ (i := 9) (N := some 26) (v := ?_) (a' := ?_) z10_16_ rfl rfl (an_ T_) (fun _ _ _ h => h) (Or.inl ⟨by rfl, ?_⟩) ?_ ?_
   rotate_left; · intro w'; go_simp; with_reducible rfl
   rotate_left; · simp only [Act.put, sa_, sb_, sc_, i64_w, i32_w]; rfl
   refine one_ (i := 2) (N := some 19) z10_17_ rfl rfl (on_ T_) (by decide) (fun K hK => ?_)
   refine goes_ Tryd.func19 (by kernel_rfl) rfl #[.int .i64 (wrap64 (Int.tmod a0 4)), .agg #[.int .u64 t383, .int .u64 t384, .int .u64 t385, .int .u64 t386]] (by rfl) rfl rfl (by (try simp only [List.map_toArray, List.map_cons, List.map_nil]); first | done | rfl) ?_
   with_reducible refine (sponge_Perm.calls (wrap64 (Int.tmod a0 4)) t383 t384 t385 t386 t391 t392 t393 t394 _ ?side1 A6.out).mono ?_
   (case side1 => repeat (first | exact (GL.below HRG.out HB.out) | (with_reducible refine GL.alloc ?_ _) | (with_reducible refine GL.drewN ?_ _) | (with_reducible refine GL.drew ?_)))
   rintro e w28 ⟨rfl, hb⟩
   refine ⟨_, rfl, ?_⟩
   have n0_ := Aside0.mk (blk_below (g := g381) (o := .cells #[.int .u64 t383, .int .u64 t384, .int .u64 t385, .int .u64 t386] 23 (0, 0)) (by (with_reducible repeat first | refine blk_drewN ?_ _ | refine blk_drew ?_ | refine blk_alloc ?_ _); exact B381.out) hb)
   have n1_ := Aside0.mk (blk_below (g := g382) (o := .cells #[.int .u64 t387, .int .u64 t388, .int .u64 t389, .int .u64 t390] 23 (0, 0)) (by (with_reducible repeat first | refine blk_drewN ?_ _ | refine blk_drew ?_ | refine blk_alloc ?_ _); exact B382.out) hb)
   have n2_ := Aside0.mk (below_step (by repeat (first | (with_reducible first | exact HB.out | apply below_alloc | apply pw_below_drewN | apply below_drew1 | refine below_set ?_ GE381.out | refine below_set ?_ GE382.out) | exact HB.out)) hb)
   clear B381
   clear B382
   clear HB
   have B381 := n0_
   have B382 := n1_
   have HB := n2_
   clear n0_ n1_ n2_
   (try clear hb)
   (try clear hb2)
   (try clear hk)
   (try clear hi)
   refine hK.out _ _ ⟨bq_ B381 0, bq_ B381 1, bq_ B381 2, bq_ B381 3, bq_ B382 0, bq_ B382 1, bq_ B382 2, bq_ B382 3⟩ (fun hL => ?_)
   clear hK K
   refine norm_ (a' := ?_) ?_ ?_
   rotate_left
   ·show Act.put _ (some 19) _ = _
    simp only [Act.put, sa_, sb_, sc_, i64_w, i32_w]
    rfl
   refine one_ (i := 5) (N := some 22) z10_18_ rfl rfl (on_ T_) (by decide) (fun K hK => ?_)
   refine goes_ Tryd.func19 (by kernel_rfl) rfl #[.int .i64 (wrap64 (Int.tmod a0 4)), .agg #[.int .u64 t387, .int .u64 t388, .int .u64 t389, .int .u64 t390]] (by rfl) rfl rfl (by (try simp only [List.map_toArray, List.map_cons, List.map_nil]); first | done | rfl) ?_
   with_reducible refine (sponge_Perm.calls (wrap64 (Int.tmod a0 4)) t387 t388 t389 t390 t395 t396 t397 t398 _ ?side1 A7.out).mono ?_
   (case side1 => repeat (first | exact (GL.below HRG.out HB.out) | (with_reducible refine GL.alloc ?_ _) | (with_reducible refine GL.drewN ?_ _) | (with_reducible refine GL.drew ?_)))
   rintro e w29 ⟨rfl, hb⟩
   refine ⟨_, rfl, ?_⟩
   have n0_ := Aside0.mk (blk_below (g := g381) (o := .cells #[.int .u64 t383, .int .u64 t384, .int .u64 t385, .int .u64 t386] 23 (0, 0)) (by (with_reducible repeat first | refine blk_drewN ?_ _ | refine blk_drew ?_ | refine blk_alloc ?_ _); exact B381.out) hb)
   have n1_ := Aside0.mk (blk_below (g := g382) (o := .cells #[.int .u64 t387, .int .u64 t388, .int .u64 t389, .int .u64 t390] 23 (0, 0)) (by (with_reducible repeat first | refine blk_drewN ?_ _ | refine blk_drew ?_ | refine blk_alloc ?_ _); exact B382.out) hb)
   have n2_ := Aside0.mk (below_step (by repeat (first | (with_reducible first | exact HB.out | apply below_alloc | apply pw_below_drewN | apply below_drew1 | refine below_set ?_ GE381.out | refine below_set ?_ GE382.out) | exact HB.out)) hb)
   clear B381
   clear B382
   clear HB
   have B381 := n0_
   have B382 := n1_
   have HB := n2_
   clear n0_ n1_ n2_
   (try clear hb)
   (try clear hb2)
   (try clear hk)
   (try clear hi)
   refine hK.out _ _ ⟨bq_ B381 0, bq_ B381 1, bq_ B381 2, bq_ B381 3, bq_ B382 0, bq_ B382 1, bq_ B382 2, bq_ B382 3⟩ (fun hL => ?_)
   clear hK K
   refine norm_ (a' := ?_) ?_ ?_
   rotate_left
   ·show Act.put _ (some 22) _ = _
    simp only [Act.put, sa_, sb_, sc_, i64_w, i32_w]
    rfl
   refine pure_ (i := 6) (N := some 23) (v := ?_) (a' := ?_) z10_19_ rfl rfl (an_ T_) (fun _ _ _ h => h) (Or.inl ⟨by rfl, ?_⟩) ?_ ?_
   rotate_left; · intro w'; go_simp; with_reducible rfl
   rotate_left; · simp only [Act.put, sa_, sb_, sc_, i64_w, i32_w]; rfl
   refine pure_ (i := 10) (N := some 27) (v := ?_) (a' := ?_) z10_20_ rfl rfl (an_ T_) (fun _ _ _ h => h) (Or.inl ⟨by rfl, ?_⟩) ?_ ?_
   rotate_left; · intro w'; go_simp; with_reducible rfl
   rotate_left; · simp only [Act.put, sa_, sb_, sc_, i64_w, i32_w]; rfl
   refine pure_ (i := 11) (N := some 28) (v := ?_) (a' := ?_) z10_21_ rfl rfl (an_ T_) (fun _ _ _ h => h) (Or.inl ⟨by rfl, ?_⟩) ?_ ?_
   rotate_left; · intro w'; go_simp; with_reducible rfl
   rotate_left; · simp only [Act.put, sa_, sb_, sc_, i64_w, i32_w]; rfl
   refine pure_ (i := 12) (N := some 29) (v := ?_) (a' := ?_) z10_22_ rfl rfl (an_ T_) (fun _ _ _ h => h) (Or.inl ⟨by rfl, ?_⟩) ?_ ?_
   rotate_left; · intro w'; go_simp; with_reducible rfl
   rotate_left; · simp only [Act.put, sa_, sb_, sc_, i64_w, i32_w]; rfl
   refine pure_ (i := 15) (N := some 32) (v := ?_) (a' := ?_) z10_23_ rfl rfl (an_ T_) (fun _ _ _ h => h) (Or.inl ⟨by rfl, ?_⟩) ?_ ?_
   rotate_left; · intro w'; go_simp; with_reducible rfl
   rotate_left; · simp only [Act.put, sa_, sb_, sc_, i64_w, i32_w]; rfl
   refine take_ (i := 13) (N := some 30) (v := ?_) (a' := ?_) z10_24_ rfl rfl (tk_ T_ W_) (fun _ _ _ h => h) (Or.inl ⟨by rfl, ?_⟩) hL ?_ ?_
   rotate_left
   ·rintro w' ⟨s0, s1, s2, s3, s4, s5, s6, s7⟩
    go_simp
    with_reducible rfl
   rotate_left
   ·simp only [Act.put, sa_, sb_, sc_, i64_w, i32_w]
    rfl
   refine take_ (i := 16) (N := some 33) (v := ?_) (a' := ?_) z10_25_ rfl rfl (tk_ T_ W_) (fun _ _ _ h => h) (Or.inl ⟨by rfl, ?_⟩) hL ?_ ?_
   rotate_left
   ·rintro w' ⟨s0, s1, s2, s3, s4, s5, s6, s7⟩
    go_simp
    with_reducible rfl
   rotate_left
   ·simp only [Act.put, sa_, sb_, sc_, i64_w, i32_w]
    rfl
   refine take_ (i := 19) (N := some 36) (v := ?_) (a' := ?_) z10_26_ rfl rfl (tk_ T_ W_) (fun _ _ _ h => h) (Or.inl ⟨by rfl, ?_⟩) hL ?_ ?_
   rotate_left
   ·rintro w' ⟨s0, s1, s2, s3, s4, s5, s6, s7⟩
    go_simp
    with_reducible rfl
   rotate_left
   ·simp only [Act.put, sa_, sb_, sc_, i64_w, i32_w]
    rfl
   refine take_ (i := 20) (N := some 37) (v := ?_) (a' := ?_) z10_27_ rfl rfl (tk_ T_ W_) (fun _ _ _ h => h) (Or.inl ⟨by rfl, ?_⟩) hL ?_ ?_
   rotate_left
   ·rintro w' ⟨s0, s1, s2, s3, s4, s5, s6, s7⟩
    go_simp
    with_reducible rfl
   rotate_left
   ·simp only [Act.put, sa_, sb_, sc_, i64_w, i32_w]
    rfl
   refine pure_ (i := 21) (N := some 38) (v := ?_) (a' := ?_) z10_28_ rfl rfl (an_ T_) (fun _ _ _ h => h) (Or.inl ⟨by rfl, ?_⟩) ?_ ?_
   rotate_left; · intro w'; go_simp; with_reducible rfl
   rotate_left; · simp only [Act.put, sa_, sb_, sc_, i64_w, i32_w]; rfl
   refine one_ (i := 14) (N := some 31) z10_29_ rfl rfl (on_ T_) (by decide) (fun K hK => ?_)
   refine goes_ Tryd.func25 (by kernel_rfl) rfl #[.int .i64 (wrap64 (Int.tmod a0 4)), .agg #[.int .u64 t383, .int .u64 t384, .int .u64 t385, .int .u64 t386]] (by rfl) rfl rfl (by (try simp only [List.map_toArray, List.map_cons, List.map_nil]); first | done | rfl) ?_
   with_reducible refine (sponge_Inverse.calls k (wrap64 (Int.tmod a0 4)) t383 t384 t385 t386 t399 t400 t401 t402 _ ?side1 A9.out).mono ?_
   (case side1 => repeat (first | exact (GL.below HRG.out HB.out) | (with_reducible refine GL.alloc ?_ _) | (with_reducible refine GL.drewN ?_ _) | (with_reducible refine GL.drew ?_)))
   rintro e w30 ⟨rfl, hb⟩
   refine ⟨_, rfl, ?_⟩
   have n0_ := Aside0.mk (blk_below (g := g381) (o := .cells #[.int .u64 t383, .int .u64 t384, .int .u64 t385, .int .u64 t386] 23 (0, 0)) (by (with_reducible repeat first | refine blk_drewN ?_ _ | refine blk_drew ?_ | refine blk_alloc ?_ _); exact B381.out) hb)
   have n1_ := Aside0.mk (blk_below (g := g382) (o := .cells #[.int .u64 t387, .int .u64 t388, .int .u64 t389, .int .u64 t390] 23 (0, 0)) (by (with_reducible repeat first | refine blk_drewN ?_ _ | refine blk_drew ?_ | refine blk_alloc ?_ _); exact B382.out) hb)
   have n2_ := Aside0.mk (below_step (by repeat (first | (with_reducible first | exact HB.out | apply below_alloc | apply pw_below_drewN | apply below_drew1 | refine below_set ?_ GE381.out | refine below_set ?_ GE382.out) | exact HB.out)) hb)
   clear B381
   clear B382
   clear HB
   have B381 := n0_
   have B382 := n1_
   have HB := n2_
   clear n0_ n1_ n2_
   (try clear hb)
   (try clear hb2)
   (try clear hk)
   (try clear hi)
   refine hK.out _ _ ⟨bq_ B381 0, bq_ B381 1, bq_ B381 2, bq_ B381 3, bq_ B382 0, bq_ B382 1, bq_ B382 2, bq_ B382 3⟩ (fun hL => ?_)
   clear hK K
   refine norm_ (a' := ?_) ?_ ?_
   rotate_left
   ·show Act.put _ (some 31) _ = _
    simp only [Act.put, sa_, sb_, sc_, i64_w, i32_w]
    rfl
   refine one_ (i := 17) (N := some 34) z10_30_ rfl rfl (on_ T_) (by decide) (fun K hK => ?_)
   refine goes_ Tryd.func25 (by kernel_rfl) rfl #[.int .i64 (wrap64 (Int.tmod a0 4)), .agg #[.int .u64 t387, .int .u64 t388, .int .u64 t389, .int .u64 t390]] (by rfl) rfl rfl (by (try simp only [List.map_toArray, List.map_cons, List.map_nil]); first | done | rfl) ?_
   with_reducible refine (sponge_Inverse.calls k (wrap64 (Int.tmod a0 4)) t387 t388 t389 t390 t403 t404 t405 t406 _ ?side1 A10.out).mono ?_
   (case side1 => repeat (first | exact (GL.below HRG.out HB.out) | (with_reducible refine GL.alloc ?_ _) | (with_reducible refine GL.drewN ?_ _) | (with_reducible refine GL.drew ?_)))
   rintro e w31 ⟨rfl, hb⟩
   refine ⟨_, rfl, ?_⟩
   have n0_ := Aside0.mk (blk_below (g := g381) (o := .cells #[.int .u64 t383, .int .u64 t384, .int .u64 t385, .int .u64 t386] 23 (0, 0)) (by (with_reducible repeat first | refine blk_drewN ?_ _ | refine blk_drew ?_ | refine blk_alloc ?_ _); exact B381.out) hb)
   have n1_ := Aside0.mk (blk_below (g := g382) (o := .cells #[.int .u64 t387, .int .u64 t388, .int .u64 t389, .int .u64 t390] 23 (0, 0)) (by (with_reducible repeat first | refine blk_drewN ?_ _ | refine blk_drew ?_ | refine blk_alloc ?_ _); exact B382.out) hb)
   have n2_ := Aside0.mk (below_step (by repeat (first | (with_reducible first | exact HB.out | apply below_alloc | apply pw_below_drewN | apply below_drew1 | refine below_set ?_ GE381.out | refine below_set ?_ GE382.out) | exact HB.out)) hb)
   clear B381
   clear B382
   clear HB
   have B381 := n0_
   have B382 := n1_
   have HB := n2_
   clear n0_ n1_ n2_
   (try clear hb)
   (try clear hb2)
   (try clear hk)
   (try clear hi)
   refine hK.out _ _ ⟨bq_ B381 0, bq_ B381 1, bq_ B381 2, bq_ B381 3, bq_ B382 0, bq_ B382 1, bq_ B382 2, bq_ B382 3⟩ (fun hL => ?_)
   clear hK K
   refine norm_ (a' := ?_) ?_ ?_
   rotate_left
   ·show Act.put _ (some 34) _ = _
    simp only [Act.put, sa_, sb_, sc_, i64_w, i32_w]
    rfl
   refine pure_ (i := 18) (N := some 35) (v := ?_) (a' := ?_) z10_31_ rfl rfl (an_ T_) (fun _ _ _ h => h) (Or.inl ⟨by rfl, ?_⟩) ?_ ?_
   rotate_left; · intro w'; go_simp; with_reducible rfl
   rotate_left; · simp only [Act.put, sa_, sb_, sc_, i64_w, i32_w]; rfl
   refine pure_ (i := 22) (N := some 39) (v := ?_) (a' := ?_) z10_32_ rfl rfl (an_ T_) (fun _ _ _ h => h) (Or.inl ⟨by rfl, ?_⟩) ?_ ?_
   rotate_left; · intro w'; go_simp; with_reducible rfl
   rotate_left; · simp only [Act.put, sa_, sb_, sc_, i64_w, i32_w]; rfl
   refine pure_ (i := 23) (N := some 40) (v := ?_) (a' := ?_) z10_33_ rfl rfl (an_ T_) (fun _ _ _ h => h) (Or.inl ⟨by rfl, ?_⟩) ?_ ?_
   rotate_left; · intro w'; go_simp; with_reducible rfl
   rotate_left; · simp only [Act.put, sa_, sb_, sc_, i64_w, i32_w]; rfl
   refine pure_ (i := 24) (N := some 41) (v := ?_) (a' := ?_) z10_34_ rfl rfl (an_ T_) (fun _ _ _ h => h) (Or.inl ⟨by rfl, ?_⟩) ?_ ?_
   rotate_left; · intro w'; go_simp; with_reducible rfl
   rotate_left; · simp only [Act.put, sa_, sb_, sc_, i64_w, i32_w]; rfl
   refine one_ (i := 25) (N := some 42) z10_35_ rfl rfl (on_ T_) (by decide) (fun K hK => ?_)
   refine goes_ Tryd.func16 (by kernel_rfl) rfl #[] (by rfl) rfl rfl (by (try simp only [List.map_toArray, List.map_cons, List.map_nil]); first | done | rfl) ?_
   with_reducible refine (attestorlaw06_lives.calls k  t407 _ ?side1 A12.out).mono ?_
   (case side1 => repeat (first | exact (GL.below HRG.out HB.out) | (with_reducible refine GL.alloc ?_ _) | (with_reducible refine GL.drewN ?_ _) | (with_reducible refine GL.drew ?_)))
   rintro e w32 ⟨rfl, hb⟩
   refine ⟨_, rfl, ?_⟩
   have n0_ := Aside0.mk (blk_below (g := g381) (o := .cells #[.int .u64 t383, .int .u64 t384, .int .u64 t385, .int .u64 t386] 23 (0, 0)) (by (with_reducible repeat first | refine blk_drewN ?_ _ | refine blk_drew ?_ | refine blk_alloc ?_ _); exact B381.out) hb)
   have n1_ := Aside0.mk (blk_below (g := g382) (o := .cells #[.int .u64 t387, .int .u64 t388, .int .u64 t389, .int .u64 t390] 23 (0, 0)) (by (with_reducible repeat first | refine blk_drewN ?_ _ | refine blk_drew ?_ | refine blk_alloc ?_ _); exact B382.out) hb)
   have n2_ := Aside0.mk (below_step (by repeat (first | (with_reducible first | exact HB.out | apply below_alloc | apply pw_below_drewN | apply below_drew1 | refine below_set ?_ GE381.out | refine below_set ?_ GE382.out) | exact HB.out)) hb)
   clear B381
   clear B382
   clear HB
   have B381 := n0_
   have B382 := n1_
   have HB := n2_
   clear n0_ n1_ n2_
   (try clear hb)
   (try clear hb2)
   (try clear hk)
   (try clear hi)
   refine hK.out _ _ ⟨bq_ B381 0, bq_ B381 1, bq_ B381 2, bq_ B381 3, bq_ B382 0, bq_ B382 1, bq_ B382 2, bq_ B382 3⟩ (fun hL => ?_)
   clear hK K
   refine norm_ (a' := ?_) ?_ ?_
   rotate_left
   ·show Act.put _ (some 42) _ = _
    simp only [Act.put, sa_, sb_, sc_, i64_w, i32_w]
    rfl
   refine pure_ (i := 26) (N := some 43) (v := ?_) (a' := ?_) z10_36_ rfl rfl (an_ T_) (fun _ _ _ h => h) (Or.inl ⟨by rfl, ?_⟩) ?_ ?_
   rotate_left; · intro w'; go_simp; with_reducible rfl
   rotate_left; · simp only [Act.put, sa_, sb_, sc_, i64_w, i32_w]; rfl
   refine pure_ (i := 27) (N := some 6) (v := ?_) (a' := ?_) z10_37_ rfl rfl (an_ T_) (fun _ _ _ h => h) (Or.inl ⟨by rfl, ?_⟩) ?_ ?_
   rotate_left; · intro w'; go_simp; with_reducible rfl
   rotate_left; · simp only [Act.put, sa_, sb_, sc_, i64_w, i32_w]; rfl
   refine done_ (done_of T_.out (by kernel_rfl)) ?_
   try go_wp2
   go_ret
   exact ⟨by first | rfl | (simp [errW_none, errW_some] <;> rfl) | (simp [*, errW_none, errW_some] <;> rfl), by repeat (first | (with_reducible first | exact HB.out | apply below_alloc | apply pw_below_drewN | apply below_drew1 | refine below_set ?_ GE381.out | refine below_set ?_ GE382.out) | exact HB.out)⟩
  ·rw [if_neg c11] at H
   exact absurd H (by simp)
 ·rw [if_neg c8] at H
  exact absurd H (by simp)

end Go.Proofs.YtjfekjblnoagkaaDoor.Q
end
section
namespace Go.Proofs.YtjfekjblnoagkaaDoor.Q
open Go.RowKit Go.Proofs.YtjfekjblnoagkaaDoorW.PrintWords Go.Proofs.YtjfekjblnoagkaaDoorW.PrintLast Go.Proofs.YtjfekjblnoagkaaDoorW.PrintMore
open Go.Proofs.YtjfekjblnoagkaaDoor.Num
set_option linter.unusedVariables false
set_option linter.unusedSimpArgs false

theorem apart_true (w a b c d a' b' c' d' : Int) (hw : 0 ≤ w ∧ w < 256) (ha : 0 ≤ a) (hb : 0 ≤ b) (hc : 0 ≤ c) (hd : 0 ≤ d) (ha' : 0 ≤ a') (hb' : 0 ≤ b') (hc' : 0 ≤ c') (hd' : 0 ≤ d') : ∃ k, attestorlaw06_SpongeApart.f k w a b c d a' b' c' d' = some true := by
  obtain ⟨s, rfl, rfl, rfl, rfl⟩ := nat4 ha hb hc hd
  obtain ⟨t, rfl, rfl, rfl, rfl⟩ := nat4 ha' hb' hc' hd'
  obtain ⟨h0, h1⟩ := which_f w hw
  refine ⟨1073742000, ?_⟩
  unfold attestorlaw06_SpongeApart.f
  generalize wrap64 (Int.tmod w 4) = f at *
  obtain ⟨p, g, e, D⟩ := fd_of h0 h1
  obtain ⟨d, hx, hf⟩ := ex_of D
  have ls := red_lt D.pos s
  have lt := red_lt D.pos t
  have I : ∀ s, sponge_Inverse.f 1073742000 f s.a s.b s.c s.d = some (inv p g d 8 s).o := fun s => Inverse_f D hf s _ (by omega)
  have ps := Perm_f D (red p s)
  rw [red_red] at ps
  have pt := Perm_f D (red p t)
  rw [red_red] at pt
  refine bnd (reduced_f D s) (bnd (reduced_f D t) (bnd ps (bnd pt ?_)))
  refine Eq.trans (if_pos (beq_both (prm p g e 8 (red p s)) (prm p g e 8 (red p t)) (red p s) (red p t) ⟨fun h => by rw [← inv_of_prm hx g _ ls, h, inv_of_prm hx g _ lt], fun h => by rw [h]⟩)) ?_
  refine bnd (I (red p s)) (bnd (I (red p t)) ?_)
  refine Eq.trans (if_pos (beq_both (inv p g d 8 (red p s)) (inv p g d 8 (red p t)) (red p s) (red p t) ⟨fun h => by rw [← prm_of_inv hx g _ ls, h, prm_of_inv hx g _ lt], fun h => by rw [h]⟩)) ?_
  exact bnd (lives_true _ (by omega)) rfl
end Go.Proofs.YtjfekjblnoagkaaDoor.Q
end
section
namespace Go.Proofs.YtjfekjblnoagkaaDoor.Q
open Go.ChangeShapes Go.WideShapes Go.ChangeAt Go.WideMaps Go.WideElems Go.RowKit
open Go.Proofs.YtjfekjblnoagkaaDoorW.PrintWords Go.Proofs.YtjfekjblnoagkaaDoorW.PrintLast Go.Proofs.YtjfekjblnoagkaaDoorW.PrintMore
open Go.Proofs.YtjfekjblnoagkaaDoor.Opn
set_option linter.unusedVariables false

theorem okWide_array_ {P : Program} {w : World} {r : Reach} {base : Nat} {t : TypeId} {v : Value} {n : Nat} {e : TypeId} (ht : P.underlying t = some (.array n e)) (h : Value.okWide P w r base t v) : ∃ cs, v = .agg cs ∧ cs.size = P.cellsOf t := by
  simp only [Value.okWide, ht] at h
  obtain ⟨cs, h1, h2, _⟩ := h
  exact ⟨cs, h1, h2⟩
set_option maxRecDepth 100000 in
theorem spongeApart_lifted (os : Os) (started : os.Started) (H : Type) (enc : TypeId × Value → H) :
    ReturnsInHanded {} Tryd.checked os 10 .any (fun w args => (Rows.spongeApartSpec.pre enc Tryd.prog Tryd.f10 [] false w args ∧ laidMetH Tryd.prog laid1 w) ∧ sizedMet enc Tryd.prog Tryd.f10 (OpenSpec.ofChange Rows.spongeApartSpec) false w args)
      (Rows.spongeApartSpec.post enc Tryd.prog Tryd.f10 false true false false) := by
  refine returnsInHanded_of_change_and (C := Tryd.checked) (X := (fun w _ => laidMetH Tryd.prog laid1 w)) (fun _ _ _ hh h => h.of_heap hh) own started (by kernel_rfl) Tryd.func10
    (ChangeSpec.witness_shaped (enc := enc) (C := Tryd.checked) (os := os) (X := (fun w _ => laidMetH Tryd.prog laid1 w)) false (World.doorLaid Tryd.prog 400 os) #[.int .u8 0, .agg #[.int .u64 0, .int .u64 0, .int .u64 0, .int .u64 0], .agg #[.int .u64 0, .int .u64 0, .int .u64 0, .int .u64 0]] 8 rfl (World.shaped_of_RefB (by kernel_rfl) (by kernel_rfl)) (by kernel_rfl) (by kernel_rfl) (by kernel_rfl) (door_met os _)) ?_
  intro W base args ds gs before hval0 hW _ _ hL _
  have hval : ∀ (j : Nat) t v, Tryd.f10.params[j]? = some t → args[j]? = some v → Value.okWide Tryd.prog W .any base t v := hval0
  have hW' := hW
  obtain ⟨p, q, hA0, hV, rfl, hfz, hnd⟩ := hW
  have hA : DataW.TrodAll enc Tryd.prog W 0 (fun _ => true) true Tryd.f10.params.toList args.toList ds p := hA0
  rw [Tryd.params10] at hA hval
  obtain ⟨v0, vs0, d0, ds0, p0, q0, hargs, rfl, rfl, h0, r0⟩ := trodAll_cons hA
  obtain ⟨v1, vs1, d1, ds1, p1, q1, rfl, rfl, rfl, h1, r1⟩ := trodAll_cons r0
  obtain ⟨v2, vs2, d2, ds2, p2, q2, rfl, rfl, rfl, h2, r2⟩ := trodAll_cons r1
  obtain ⟨rfl, rfl, rfl⟩ := trodAll_nil r2
  obtain rfl : args = #[v0, v1, v2] := by cases args; simp_all
  obtain ⟨rfl, rfl⟩ := trodVars_none hV
  obtain ⟨a0, rfl, rfl, rfl, w0⟩ := open_int Tryd.underlying5 (hval 0 5 v0 rfl rfl) h0
  have k1 := h1
  have lt1 : ∀ x ∈ p1, x.block < W.heap.size := by obtain ⟨m, hm⟩ := k1; exact DataW.trod_lt m _ _ _ hm
  obtain ⟨cs1, rfl, _⟩ := okWide_array_ Tryd.underlying23 (hval 1 23 v1 rfl rfl)
  obtain ⟨m1, hm1⟩ := h1
  obtain ⟨a1_0, a1_1, a1_2, a1_3, hcs1, w1_0, w1_1, w1_2, w1_3⟩ := flat23 m1 _ _ hm1
  obtain rfl : cs1 = #[.int .u64 a1_0, .int .u64 a1_1, .int .u64 a1_2, .int .u64 a1_3] := by cases cs1; simp only [Value.cells] at hcs1; subst hcs1; rfl
  have k2 := h2
  have lt2 : ∀ x ∈ p2, x.block < W.heap.size := by obtain ⟨m, hm⟩ := k2; exact DataW.trod_lt m _ _ _ hm
  obtain ⟨cs2, rfl, _⟩ := okWide_array_ Tryd.underlying23 (hval 2 23 v2 rfl rfl)
  obtain ⟨m2, hm2⟩ := h2
  obtain ⟨a2_0, a2_1, a2_2, a2_3, hcs2, w2_0, w2_1, w2_2, w2_3⟩ := flat23 m2 _ _ hm2
  obtain rfl : cs2 = #[.int .u64 a2_0, .int .u64 a2_1, .int .u64 a2_2, .int .u64 a2_3] := by cases cs2; simp only [Value.cells] at hcs2; subst hcs2; rfl
  clear hA0 hval0
  refine (attestorlaw06_SpongeApart.calls _ a0 a1_0 a1_1 a1_2 a1_3 a2_0 a2_1 a2_2 a2_3 true W (gl_of_laid hL) (apart_true a0 a1_0 a1_1 a1_2 a1_3 a2_0 a2_1 a2_2 a2_3 (wf_u8 w0) (wf_u64 w1_0).1 (wf_u64 w1_1).1 (wf_u64 w1_2).1 (wf_u64 w1_3).1 (wf_u64 w2_0).1 (wf_u64 w2_1).1 (wf_u64 w2_2).1 (wf_u64 w2_3).1).choose_spec).mono fun e W' ⟨he, bel⟩ => ?_
  subst he
  exact ⟨_, rfl, _, _, _, [], _, [], hW', trodAll_mk1 (shut_bool Tryd.underlying4 _), (trodAll_cons_mk (shut_int Tryd.underlying5 w0) (trodAll_cons_mk (Below.trod laidOut (by kernel_rfl) (of_decide_eq_true (by kernel_rfl)) k1 bel lt1) (trodAll_cons_mk (Below.trod laidOut (by kernel_rfl) (of_decide_eq_true (by kernel_rfl)) k2 bel lt2) trodAll_mk0))), rfl, bel.frame _, fun h => by cases h⟩
theorem spongeApart_row : Rows.SpongeApartSaid :=
  OpenClaim.holds_of_wide 10 Tryd.f10 rfl rfl rfl rfl rfl rfl rfl ⟨rfl, rfl, rfl, rfl, rfl⟩ rfl rfl rfl rfl rfl (by kernel_rfl) Tryd.func10 (by kernel_rfl)
    (of_decide_eq_true (by kernel_rfl)) (by unfold Func.isWrapper; first | (rw [if_pos (by decide +kernel)]; kernel_rfl) | (rw [if_neg (by decide +kernel)]; exact ⟨rfl, rfl⟩))
    (fun os started H enc _ => spongeApart_lifted os started H enc)
theorem spongeApart_card : Rows.SpongeApartCardSaid :=
  Claim7.holds_tied_plain_at .later [] [.widerDeep, .data] true Rows.spongeApartCard.stood.harness false
    spongeApart_row (fun _ h => by cases h) (by kernel_rfl) (fun _ h => by cases h) spongeApart_row_tie rfl ⟨rfl, rfl⟩ (by kernel_rfl) rfl
    (fun f fn hf hfn => by
      obtain rfl : f = 10 := Option.some.inj ((show Tryd.prog.funcNamed "attestor/attestorlaw06.SpongeApart" = some 10 by kernel_rfl).symm.trans hf) |>.symm
      obtain rfl : fn = Tryd.f10 := (Option.some.inj (Tryd.func10.symm.trans hfn)).symm
      exact ⟨by kernel_rfl, fun j t ht => by
        rw [Tryd.params10] at ht
        have hm : t ∈ [5, 23, 23] := by simpa using Array.mem_of_getElem? ht
        have hall : ([5, 23, 23].all fun u => !Tryd.prog.wantsStandIn u) = true := by kernel_rfl
        exact (show Tryd.prog.wantsStandIn t = false by simpa using List.all_eq_true.1 hall t hm)⟩)
    (by kernel_rfl)
end Go.Proofs.YtjfekjblnoagkaaDoor.Q
namespace Go.Proofs.YtjfekjblnoagkaaDoor
/-- Under a short name, for the claim. -/
theorem spongeApart_holds : Rows.SpongeApartCardSaid := Q.spongeApart_card
end Go.Proofs.YtjfekjblnoagkaaDoor
#print axioms Go.Proofs.YtjfekjblnoagkaaDoor.spongeApart_holds
end
