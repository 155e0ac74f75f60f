/- Several texts in one, in build order. What they prove, each by its own first remark:
Written by our own copy of a printing program (a twelfth state) out of the translation. Not trusted: Lean checks it.
SpongeBack's plain law.
For all fields and states attestorlaw06.SpongeBack returns true, where the variables 'fields' and 'undo' hold what the program's text lays (the card ties that): no other condition. -/
import Derived.Test.YtjfekjblnoagkaaDoorM2
import Derived.Test.YtjfekjblnoagkaaDoorM3
import Derived.Test.YtjfekjblnoagkaaDoorM4
import Derived.Test.YtjfekjblnoagkaaDoorM6
import Derived.Test.YtjfekjblnoagkaaDoorM7
import Derived.Test.YtjfekjblnoagkaaDoorCards
import Derived.Test.YtjfekjblnoagkaaDoorTie
import Derived.SevenTiedAt
import Derived.SizedLaws
import Derived.ShutString
import Derived.ChangeOld
import Derived.ProofKit
import Derived.Below
import Derived.OpenShut
section
namespace Go.Proofs.YtjfekjblnoagkaaDoor.Q
open Go.RowKit Go.Proofs.YtjfekjblnoagkaaDoorW.PrintWords Go.Proofs.YtjfekjblnoagkaaDoorW.PrintLast Go.Proofs.YtjfekjblnoagkaaDoorW.PrintMore
attribute [local go_sem] max2_int min2_int max_two min_two max_three min_three max_four min_four   -- for this text's walks alone
set_option linter.unusedVariables false
set_option linter.unusedSimpArgs false

attribute [local go_sem high] eqA23
abbrev z9_0_ : Array Bool := #[false, false, false, false, false, false, false, false, false, false]
abbrev z9_1_ : Array Bool := #[true, false, false, false, false, false, false, false, false, false]
abbrev z9_2_ : Array Bool := #[true, false, false, true, false, false, false, false, false, false]
abbrev z9_3_ : Array Bool := #[true, true, false, true, false, false, false, false, false, false]
abbrev z9_4_ : Array Bool := #[true, true, false, true, true, false, false, false, false, false]
abbrev z9_5_ : Array Bool := #[true, true, true, true, true, true, true, true, false, false]
abbrev z9_6_ : Array Bool := #[true, true, true, true, true, true, true, false, false, false]
abbrev z9_7_ : Array Bool := #[true, true, true, true, true, true, false, true, false, false]
abbrev z9_8_ : Array Bool := #[true, true, true, true, true, false, true, true, false, false]
abbrev z9_9_ : Array Bool := #[true, true, true, true, true, true, false, false, false, false]
abbrev z9_10_ : Array Bool := #[true, true, true, true, true, false, true, false, false, false]
abbrev z9_11_ : Array Bool := #[true, true, true, true, true, false, false, true, false, false]
abbrev z9_12_ : Array Bool := #[true, true, false, true, true, false, true, true, false, false]
abbrev z9_13_ : Array Bool := #[true, true, true, true, true, false, false, false, false, false]
abbrev z9_14_ : Array Bool := #[true, true, false, true, true, false, true, false, false, false]
abbrev z9_15_ : Array Bool := #[true, true, false, true, true, false, false, true, false, false]
abbrev z9_16_ : Array Bool := #[true, true, true, true, true, true, true, true, true, false]
abbrev z9_17_ : Array Bool := #[true, true, true, true, true, true, true, true, true, true]
abbrev z9_18_ : Array Bool := #[false, false, false, false, false, false, false, false, false, false, false, false, false, false, false, false, false, false, false, false, false, false, false, false, false, false, false, false, false, false, false, false, false, false, false, false, false, false, false, false]
abbrev z9_19_ : Array Bool := #[true, false, false, false, false, false, false, false, false, false, false, false, false, false, false, false, false, false, false, false, false, false, false, false, false, false, false, false, false, false, false, false, false, false, false, false, false, false, false, false]
abbrev z9_20_ : Array Bool := #[true, true, false, false, false, false, false, false, false, false, false, false, false, false, false, false, false, false, false, false, false, false, false, false, false, false, false, false, false, false, false, false, false, false, false, false, false, false, false, false]
abbrev z9_21_ : Array Bool := #[true, true, true, false, false, false, false, false, false, false, false, false, false, false, false, false, false, false, false, false, false, false, false, false, false, false, false, false, false, false, false, false, false, false, false, false, false, false, false, false]
abbrev z9_22_ : Array Bool := #[true, true, true, true, false, false, false, false, false, false, false, false, false, false, false, false, false, false, false, false, false, false, false, false, false, false, false, false, false, false, false, false, false, false, false, false, false, false, false, false]
abbrev z9_23_ : Array Bool := #[true, true, true, true, true, false, false, false, false, false, false, false, false, false, false, false, false, false, false, false, false, false, false, false, false, false, false, false, false, false, false, false, false, false, false, false, false, false, false, false]
abbrev z9_24_ : Array Bool := #[true, true, true, true, true, true, false, false, false, false, false, false, false, false, false, false, false, false, false, false, false, false, false, false, false, false, false, false, false, false, false, false, false, false, false, false, false, false, false, false]
abbrev z9_25_ : Array Bool := #[true, true, true, true, true, true, true, false, false, false, false, false, false, false, false, false, false, false, false, false, false, false, false, false, false, false, false, false, false, false, false, false, false, false, false, false, false, false, false, false]
abbrev z9_26_ : Array Bool := #[true, true, true, true, true, true, true, true, false, false, false, false, false, false, false, false, false, false, false, false, false, false, false, false, false, false, false, false, false, false, false, false, false, false, false, false, false, false, false, false]
abbrev z9_27_ : Array Bool := #[true, true, true, true, true, true, true, true, true, false, false, false, false, false, false, false, false, false, false, false, false, false, false, false, false, false, false, false, false, false, false, false, false, false, false, false, false, false, false, false]
abbrev z9_28_ : Array Bool := #[true, true, true, true, true, true, true, true, true, false, true, false, false, false, false, false, false, false, false, false, false, false, false, false, false, false, false, false, false, false, false, false, false, false, false, false, false, false, false, false]
abbrev z9_29_ : Array Bool := #[true, true, true, true, true, true, true, true, true, true, true, false, false, false, false, false, false, false, false, false, false, false, false, false, false, false, false, false, false, false, false, false, false, false, false, false, false, false, false, false]
abbrev z9_30_ : Array Bool := #[true, true, true, true, true, true, true, true, true, true, true, true, false, false, false, false, false, false, false, false, false, false, false, false, false, false, false, false, false, false, false, false, false, false, false, false, false, false, false, false]
abbrev z9_31_ : Array Bool := #[true, true, true, true, true, true, true, true, true, true, true, true, true, false, false, false, false, false, false, false, false, false, false, false, false, false, false, false, false, false, false, false, false, false, false, false, false, false, false, false]
abbrev z9_32_ : Array Bool := #[true, true, true, true, true, true, true, true, true, true, true, true, true, true, false, false, false, false, false, false, false, false, false, false, false, false, false, false, false, false, false, false, false, false, false, false, false, false, false, false]
abbrev z9_33_ : Array Bool := #[true, true, true, true, true, true, true, true, true, true, true, true, true, true, true, false, false, false, false, false, false, false, false, false, false, false, false, false, false, false, false, false, false, false, false, false, false, false, false, false]
abbrev z9_34_ : Array Bool := #[true, true, true, true, true, true, true, true, true, true, true, true, true, true, true, true, false, false, false, false, false, false, false, false, false, false, false, false, false, false, false, false, false, false, false, false, false, false, false, false]
abbrev z9_35_ : Array Bool := #[true, true, true, true, true, true, true, true, true, true, true, true, true, true, true, true, false, true, false, false, false, false, false, false, false, false, false, false, false, false, false, false, false, false, false, false, false, false, false, false]
abbrev z9_36_ : Array Bool := #[true, true, true, true, true, true, true, true, true, true, true, true, true, true, true, true, true, true, false, false, false, false, false, false, false, false, false, false, false, false, false, false, false, false, false, false, false, false, false, false]
abbrev z9_37_ : Array Bool := #[true, true, true, true, true, true, true, true, true, true, true, true, true, true, true, true, true, true, true, false, false, false, false, false, false, false, false, false, false, false, false, false, false, false, false, false, false, false, false, false]
abbrev z9_38_ : Array Bool := #[true, true, true, true, true, true, true, true, true, true, true, true, true, true, true, true, true, true, true, true, false, false, false, false, false, false, false, false, false, false, false, false, false, false, false, false, false, false, false, false]
abbrev z9_39_ : Array Bool := #[true, true, true, true, true, true, true, true, true, true, true, true, true, true, true, true, true, true, true, true, true, false, false, false, false, false, false, false, false, false, false, false, false, false, false, false, false, false, false, false]
abbrev z9_40_ : Array Bool := #[true, true, true, true, true, true, true, true, true, true, true, true, true, true, true, true, true, true, true, true, true, true, false, false, false, false, false, false, false, false, false, false, false, false, false, false, false, false, false, false]
abbrev z9_41_ : Array Bool := #[true, true, true, true, true, true, true, true, true, true, true, true, true, true, true, true, true, true, true, true, true, true, true, false, false, false, false, false, false, false, false, false, false, false, false, false, false, false, false, false]
abbrev z9_42_ : Array Bool := #[true, true, true, true, true, true, true, true, true, true, true, true, true, true, true, true, true, true, true, true, true, true, true, true, false, false, false, false, false, false, false, false, false, false, false, false, false, false, false, false]
abbrev z9_43_ : Array Bool := #[true, true, true, true, true, true, true, true, true, true, true, true, true, true, true, true, true, true, true, true, true, true, true, true, true, false, false, false, false, false, false, false, false, false, false, false, false, false, false, false]
abbrev z9_44_ : Array Bool := #[true, true, true, true, true, true, true, true, true, true, true, true, true, true, true, true, true, true, true, true, true, true, true, true, true, false, true, false, false, false, false, false, false, false, false, false, false, false, false, false]
abbrev z9_45_ : Array Bool := #[true, true, true, true, true, true, true, true, true, true, true, true, true, true, true, true, true, true, true, true, true, true, true, true, true, true, true, false, false, false, false, false, false, false, false, false, false, false, false, false]
abbrev z9_46_ : Array Bool := #[true, true, true, true, true, true, true, true, true, true, true, true, true, true, true, true, true, true, true, true, true, true, true, true, true, true, true, true, false, false, false, false, false, false, false, false, false, false, false, false]
abbrev z9_47_ : Array Bool := #[true, true, true, true, true, true, true, true, true, true, true, true, true, true, true, true, true, true, true, true, true, true, true, true, true, true, true, true, true, false, false, false, false, false, false, false, false, false, false, false]
abbrev z9_48_ : Array Bool := #[true, true, true, true, true, true, true, true, true, true, true, true, true, true, true, true, true, true, true, true, true, true, true, true, true, true, true, true, true, true, false, false, false, false, false, false, false, false, false, false]
abbrev z9_49_ : Array Bool := #[true, true, true, true, true, true, true, true, true, true, true, true, true, true, true, true, true, true, true, true, true, true, true, true, true, true, true, true, true, true, true, false, false, false, false, false, false, false, false, false]
abbrev z9_50_ : Array Bool := #[true, true, true, true, true, true, true, true, true, true, true, true, true, true, true, true, true, true, true, true, true, true, true, true, true, true, true, true, true, true, true, true, false, false, false, false, false, false, false, false]
abbrev z9_51_ : Array Bool := #[true, true, true, true, true, true, true, true, true, true, true, true, true, true, true, true, true, true, true, true, true, true, true, true, true, true, true, true, true, true, true, true, false, true, false, false, false, false, false, false]
abbrev z9_52_ : Array Bool := #[true, true, true, true, true, true, true, true, true, true, true, true, true, true, true, true, true, true, true, true, true, true, true, true, true, true, true, true, true, true, true, true, true, true, false, false, false, false, false, false]
abbrev z9_53_ : Array Bool := #[true, true, true, true, true, true, true, true, true, true, true, true, true, true, true, true, true, true, true, true, true, true, true, true, true, true, true, true, true, true, true, true, true, true, true, false, false, false, false, false]
abbrev z9_54_ : Array Bool := #[true, true, true, true, true, true, true, true, true, true, true, true, true, true, true, true, true, true, true, true, true, true, true, true, true, true, true, true, true, true, true, true, true, true, true, true, false, false, false, false]
abbrev z9_55_ : Array Bool := #[true, true, true, true, true, true, true, true, true, true, true, true, true, true, true, true, true, true, true, true, true, true, true, true, true, true, true, true, true, true, true, true, true, true, true, true, true, false, false, false]
abbrev z9_56_ : Array Bool := #[true, true, true, true, true, true, true, true, true, true, true, true, true, true, true, true, true, true, true, true, true, true, true, true, true, true, true, true, true, true, true, true, true, true, true, true, true, true, false, false]
abbrev z9_57_ : Array Bool := #[true, true, true, true, true, true, true, true, true, true, true, true, true, true, true, true, true, true, true, true, true, true, true, true, true, true, true, true, true, true, true, true, true, true, true, true, true, true, true, false]
abbrev z9_58_ : Array Bool := #[true, true, true, true, true, true, true, true, true, true, true, true, true, true, true, true, true, true, true, true, true, true, true, true, true, true, true, true, true, true, true, true, true, true, true, true, true, true, true, true]
/-! ### attestorlaw06_SpongeBack: function 9 -/
def attestorlaw06_SpongeBack.f (k : Nat) (a0 : Int) (a1_0 : Int) (a1_1 : Int) (a1_2 : Int) (a1_3 : Int) : Option (Bool) := (attestorlaw06_reduced.f (wrap64 (Int.tmod a0 4)) a1_0 a1_1 a1_2 a1_3).bind fun bt347 => ((sponge_Perm.f (wrap64 (Int.tmod a0 4)) a1_0 a1_1 a1_2 a1_3).bind fun bt352 => ((sponge_Inverse.f k (wrap64 (Int.tmod a0 4)) a1_0 a1_1 a1_2 a1_3).bind fun bt356 => ((attestorlaw06_within.f (wrap64 (Int.tmod a0 4)) bt352.1 bt352.2.1 bt352.2.2.1 bt352.2.2.2).bind fun t362 => (if t362 = true then ((attestorlaw06_within.f (wrap64 (Int.tmod a0 4)) bt356.1 bt356.2.1 bt356.2.2.1 bt356.2.2.2).bind fun t363 => (if t363 = true then ((sponge_Perm.f (wrap64 (Int.tmod a0 4)) bt347.1 bt347.2.1 bt347.2.2.1 bt347.2.2.2).bind fun bt364 => (if (bt352.1 == bt364.1 && (bt352.2.1 == bt364.2.1 && (bt352.2.2.1 == bt364.2.2.1 && (bt352.2.2.2 == bt364.2.2.2)))) = true then ((sponge_Inverse.f k (wrap64 (Int.tmod a0 4)) bt347.1 bt347.2.1 bt347.2.2.1 bt347.2.2.2).bind fun bt368 => (if (bt356.1 == bt368.1 && (bt356.2.1 == bt368.2.1 && (bt356.2.2.1 == bt368.2.2.1 && (bt356.2.2.2 == bt368.2.2.2)))) = true then ((sponge_Inverse.f k (wrap64 (Int.tmod a0 4)) bt352.1 bt352.2.1 bt352.2.2.1 bt352.2.2.2).bind fun bt372 => (if (bt372.1 == bt347.1 && (bt372.2.1 == bt347.2.1 && (bt372.2.2.1 == bt347.2.2.1 && (bt372.2.2.2 == bt347.2.2.2)))) = true then ((sponge_Perm.f (wrap64 (Int.tmod a0 4)) bt356.1 bt356.2.1 bt356.2.2.1 bt356.2.2.2).bind fun bt376 => (if (bt376.1 == bt347.1 && (bt376.2.1 == bt347.2.1 && (bt376.2.2.1 == bt347.2.2.1 && (bt376.2.2.2 == bt347.2.2.2)))) = true then ((attestorlaw06_lives.f k).bind fun t380 => (some t380)) else (none))) else (none))) else (none))) else (none))) else (none))) else (none)))))
theorem attestorlaw06_SpongeBack.mono : ∀ a0 a1 a2 a3 a4 k, LeO (attestorlaw06_SpongeBack.f k a0 a1 a2 a3 a4) (attestorlaw06_SpongeBack.f (k + 1) a0 a1 a2 a3 a4) := by
  intro a0 a1 a2 a3 a4 k
  unfold attestorlaw06_SpongeBack.f
  repeat' first
      | (with_reducible exact attestorlaw06_lives.mono _)
      | (with_reducible exact sponge_Inverse.mono _ _ _ _ _ _)
      | (with_reducible exact LeO.refl _)
      | (with_reducible exact LeO.none _)
      | (with_reducible refine LeO.ite ?_ ?_)
      | (with_reducible refine LeO.bind ?_ (fun _ => ?_))
      | exact attestorlaw06_lives.mono _
      | exact sponge_Inverse.mono _ _ _ _ _ _
      | exact LeO.none _
      | refine LeO.ite ?_ ?_
      | refine LeO.bind ?_ (fun _ => ?_)
def attestorlaw06_SpongeBack.T3 : Bool × List (List Nat × List Nat) := (true, [([], []), ([], []), ([0, 1], [0, 1]), ([], []), ([], []), ([3, 4, 2], [3, 4]), ([], []), ([], []), ([6, 2, 5, 0, 1, 2, 6, 7], [2, 6]), ([7, 5, 8, 0, 1, 2, 3, 4, 5, 6, 7, 8], [5, 7])])
def attestorlaw06_SpongeBack.B3 : List Nat := [0, 0, 3, 0, 0, 31, 0, 0, 255, 511]
theorem attestorlaw06_SpongeBack.tab3 : rtab .any (opsOf Tryd.f9 3) = attestorlaw06_SpongeBack.T3 := by kernel_rfl
theorem attestorlaw06_SpongeBack.bits3 : waitsOk attestorlaw06_SpongeBack.T3.2 attestorlaw06_SpongeBack.B3 = true := by kernel_rfl
def attestorlaw06_SpongeBack.T4 : Bool × List (List Nat × List Nat) := (true, [([], []), ([], []), ([0, 1], [0, 1]), ([2, 2], [2]), ([3], [3]), ([3], [3]), ([4, 5, 3, 3], [3, 4, 5]), ([3, 6], [3, 6]), ([7, 6], [7]), ([8], [8]), ([8], [8]), ([8], [8]), ([10, 11, 8, 8], [8, 10, 11]), ([9, 12, 8], [8, 9, 12]), ([8, 13], [8, 13]), ([14, 12], [14]), ([15], [15]), ([15], [15]), ([15], [15]), ([17, 18, 15, 15], [15, 17, 18]), ([16, 19, 15], [15, 16, 19]), ([15, 20], [15, 20]), ([21, 19], [21]), ([22], [22]), ([22], [22]), ([23, 24, 22, 22], [22, 23, 24]), ([22], [22]), ([25, 26, 22], [22, 25, 26]), ([22, 27], [22, 27]), ([28, 25], [28]), ([29], [29]), ([29], [29]), ([30, 31, 29, 29], [29, 30, 31]), ([29], [29]), ([32, 33, 29], [29, 32, 33]), ([29, 34], [29, 34]), ([35, 32], [35]), ([36, 36], [36]), ([36, 37], [36, 37]), ([38, 37, 0, 1, 2, 3, 4, 5, 6, 7, 8, 9, 10, 11, 12, 13, 14, 15, 16, 17, 18, 19, 20, 21, 22, 23, 24, 25, 26, 27, 28, 29, 30, 31, 32, 33, 34, 35, 36, 37, 38], [38])])
def attestorlaw06_SpongeBack.B4 : List Nat := [0, 0, 3, 7, 15, 15, 63, 127, 255, 511, 511, 511, 3583, 8191, 16383, 32767, 65535, 65535, 65535, 458751, 1048575, 2097151, 4194303, 8388607, 8388607, 33554431, 8388607, 134217727, 268435455, 536870911, 1073741823, 1073741823, 4294967295, 1073741823, 17179869183, 34359738367, 68719476735, 137438953471, 274877906943, 549755813887]
theorem attestorlaw06_SpongeBack.tab4 : rtab .any (opsOf Tryd.f9 4) = attestorlaw06_SpongeBack.T4 := by kernel_rfl
theorem attestorlaw06_SpongeBack.bits4 : waitsOk attestorlaw06_SpongeBack.T4.2 attestorlaw06_SpongeBack.B4 = true := by kernel_rfl
set_option maxHeartbeats 8000000 in
set_option maxRecDepth 100000 in
theorem attestorlaw06_SpongeBack.calls (k : Nat) (a0 : Int) (a1_0 : Int) (a1_1 : Int) (a1_2 : Int) (a1_3 : Int) (r : Bool) (w : World) (hrG : GL w) (h : attestorlaw06_SpongeBack.f k a0 a1_0 a1_1 a1_2 a1_3 = some r) :
  Calls Tryd.prog 9 #[.int .u8 a0, .agg #[.int .u64 a1_0, .int .u64 a1_1, .int .u64 a1_2, .int .u64 a1_3]] w fun e w' => e = .returned (.bool r) ∧ Below w.heap.size w w' := by
 have hu23 := Tryd.underlying23
 have HRG := Aside0.mk hrG
 clear hrG
 have HB := Aside0.mk (Below.refl w.heap.size w)
 have H : ((attestorlaw06_reduced.f (wrap64 (Int.tmod a0 4)) a1_0 a1_1 a1_2 a1_3).bind fun bt347 => ((sponge_Perm.f (wrap64 (Int.tmod a0 4)) a1_0 a1_1 a1_2 a1_3).bind fun bt352 => ((sponge_Inverse.f k (wrap64 (Int.tmod a0 4)) a1_0 a1_1 a1_2 a1_3).bind fun bt356 => ((attestorlaw06_within.f (wrap64 (Int.tmod a0 4)) bt352.1 bt352.2.1 bt352.2.2.1 bt352.2.2.2).bind fun t362 => (if t362 = true then ((attestorlaw06_within.f (wrap64 (Int.tmod a0 4)) bt356.1 bt356.2.1 bt356.2.2.1 bt356.2.2.2).bind fun t363 => (if t363 = true then ((sponge_Perm.f (wrap64 (Int.tmod a0 4)) bt347.1 bt347.2.1 bt347.2.2.1 bt347.2.2.2).bind fun bt364 => (if (bt352.1 == bt364.1 && (bt352.2.1 == bt364.2.1 && (bt352.2.2.1 == bt364.2.2.1 && (bt352.2.2.2 == bt364.2.2.2)))) = true then ((sponge_Inverse.f k (wrap64 (Int.tmod a0 4)) bt347.1 bt347.2.1 bt347.2.2.1 bt347.2.2.2).bind fun bt368 => (if (bt356.1 == bt368.1 && (bt356.2.1 == bt368.2.1 && (bt356.2.2.1 == bt368.2.2.1 && (bt356.2.2.2 == bt368.2.2.2)))) = true then ((sponge_Inverse.f k (wrap64 (Int.tmod a0 4)) bt352.1 bt352.2.1 bt352.2.2.1 bt352.2.2.2).bind fun bt372 => (if (bt372.1 == bt347.1 && (bt372.2.1 == bt347.2.1 && (bt372.2.2.1 == bt347.2.2.1 && (bt372.2.2.2 == bt347.2.2.2)))) = true then ((sponge_Perm.f (wrap64 (Int.tmod a0 4)) bt356.1 bt356.2.1 bt356.2.2.1 bt356.2.2.2).bind fun bt376 => (if (bt376.1 == bt347.1 && (bt376.2.1 == bt347.2.1 && (bt376.2.2.1 == bt347.2.2.1 && (bt376.2.2.2 == bt347.2.2.2)))) = true then ((attestorlaw06_lives.f k).bind fun t380 => (some t380)) else (none))) else (none))) else (none))) else (none))) else (none))) else (none)))))) = some r := h
 clear h
 replace H := Option.bind_eq_some_iff.mp H
 obtain ⟨⟨t347, t348, t349, t350⟩, A30, H⟩ := H
 replace H : ((sponge_Perm.f (wrap64 (Int.tmod a0 4)) a1_0 a1_1 a1_2 a1_3).bind fun bt352 => ((sponge_Inverse.f k (wrap64 (Int.tmod a0 4)) a1_0 a1_1 a1_2 a1_3).bind fun bt356 => ((attestorlaw06_within.f (wrap64 (Int.tmod a0 4)) bt352.1 bt352.2.1 bt352.2.2.1 bt352.2.2.2).bind fun t362 => (if t362 = true then ((attestorlaw06_within.f (wrap64 (Int.tmod a0 4)) bt356.1 bt356.2.1 bt356.2.2.1 bt356.2.2.2).bind fun t363 => (if t363 = true then ((sponge_Perm.f (wrap64 (Int.tmod a0 4)) t347 t348 t349 t350).bind fun bt364 => (if (bt352.1 == bt364.1 && (bt352.2.1 == bt364.2.1 && (bt352.2.2.1 == bt364.2.2.1 && (bt352.2.2.2 == bt364.2.2.2)))) = true then ((sponge_Inverse.f k (wrap64 (Int.tmod a0 4)) t347 t348 t349 t350).bind fun bt368 => (if (bt356.1 == bt368.1 && (bt356.2.1 == bt368.2.1 && (bt356.2.2.1 == bt368.2.2.1 && (bt356.2.2.2 == bt368.2.2.2)))) = true then ((sponge_Inverse.f k (wrap64 (Int.tmod a0 4)) bt352.1 bt352.2.1 bt352.2.2.1 bt352.2.2.2).bind fun bt372 => (if (bt372.1 == t347 && (bt372.2.1 == t348 && (bt372.2.2.1 == t349 && (bt372.2.2.2 == t350)))) = true then ((sponge_Perm.f (wrap64 (Int.tmod a0 4)) bt356.1 bt356.2.1 bt356.2.2.1 bt356.2.2.2).bind fun bt376 => (if (bt376.1 == t347 && (bt376.2.1 == t348 && (bt376.2.2.1 == t349 && (bt376.2.2.2 == t350)))) = true then ((attestorlaw06_lives.f k).bind fun t380 => (some t380)) else (none))) else (none))) else (none))) else (none))) else (none))) else (none))))) = some r := H
 have A3 := Aside0.mk A30
 clear A30
 replace H := Option.bind_eq_some_iff.mp H
 obtain ⟨⟨t352, t353, t354, t355⟩, A40, H⟩ := H
 replace H : ((sponge_Inverse.f k (wrap64 (Int.tmod a0 4)) a1_0 a1_1 a1_2 a1_3).bind fun bt356 => ((attestorlaw06_within.f (wrap64 (Int.tmod a0 4)) t352 t353 t354 t355).bind fun t362 => (if t362 = true then ((attestorlaw06_within.f (wrap64 (Int.tmod a0 4)) bt356.1 bt356.2.1 bt356.2.2.1 bt356.2.2.2).bind fun t363 => (if t363 = true then ((sponge_Perm.f (wrap64 (Int.tmod a0 4)) t347 t348 t349 t350).bind fun bt364 => (if (t352 == bt364.1 && (t353 == bt364.2.1 && (t354 == bt364.2.2.1 && (t355 == bt364.2.2.2)))) = true then ((sponge_Inverse.f k (wrap64 (Int.tmod a0 4)) t347 t348 t349 t350).bind fun bt368 => (if (bt356.1 == bt368.1 && (bt356.2.1 == bt368.2.1 && (bt356.2.2.1 == bt368.2.2.1 && (bt356.2.2.2 == bt368.2.2.2)))) = true then ((sponge_Inverse.f k (wrap64 (Int.tmod a0 4)) t352 t353 t354 t355).bind fun bt372 => (if (bt372.1 == t347 && (bt372.2.1 == t348 && (bt372.2.2.1 == t349 && (bt372.2.2.2 == t350)))) = true then ((sponge_Perm.f (wrap64 (Int.tmod a0 4)) bt356.1 bt356.2.1 bt356.2.2.1 bt356.2.2.2).bind fun bt376 => (if (bt376.1 == t347 && (bt376.2.1 == t348 && (bt376.2.2.1 == t349 && (bt376.2.2.2 == t350)))) = true then ((attestorlaw06_lives.f k).bind fun t380 => (some t380)) else (none))) else (none))) else (none))) else (none))) else (none))) else (none)))) = some r := H
 have A4 := Aside0.mk A40
 clear A40
 replace H := Option.bind_eq_some_iff.mp H
 obtain ⟨⟨t356, t357, t358, t359⟩, A50, H⟩ := H
 replace H : ((attestorlaw06_within.f (wrap64 (Int.tmod a0 4)) t352 t353 t354 t355).bind fun t362 => (if t362 = true then ((attestorlaw06_within.f (wrap64 (Int.tmod a0 4)) t356 t357 t358 t359).bind fun t363 => (if t363 = true then ((sponge_Perm.f (wrap64 (Int.tmod a0 4)) t347 t348 t349 t350).bind fun bt364 => (if (t352 == bt364.1 && (t353 == bt364.2.1 && (t354 == bt364.2.2.1 && (t355 == bt364.2.2.2)))) = true then ((sponge_Inverse.f k (wrap64 (Int.tmod a0 4)) t347 t348 t349 t350).bind fun bt368 => (if (t356 == bt368.1 && (t357 == bt368.2.1 && (t358 == bt368.2.2.1 && (t359 == bt368.2.2.2)))) = true then ((sponge_Inverse.f k (wrap64 (Int.tmod a0 4)) t352 t353 t354 t355).bind fun bt372 => (if (bt372.1 == t347 && (bt372.2.1 == t348 && (bt372.2.2.1 == t349 && (bt372.2.2.2 == t350)))) = true then ((sponge_Perm.f (wrap64 (Int.tmod a0 4)) t356 t357 t358 t359).bind fun bt376 => (if (bt376.1 == t347 && (bt376.2.1 == t348 && (bt376.2.2.1 == t349 && (bt376.2.2.2 == t350)))) = true then ((attestorlaw06_lives.f k).bind fun t380 => (some t380)) else (none))) else (none))) else (none))) else (none))) else (none))) else (none))) = some r := H
 have A5 := Aside0.mk A50
 clear A50
 replace H := Option.bind_eq_some_iff.mp H
 obtain ⟨t362, A60, H⟩ := H
 replace H : (if t362 = true then ((attestorlaw06_within.f (wrap64 (Int.tmod a0 4)) t356 t357 t358 t359).bind fun t363 => (if t363 = true then ((sponge_Perm.f (wrap64 (Int.tmod a0 4)) t347 t348 t349 t350).bind fun bt364 => (if (t352 == bt364.1 && (t353 == bt364.2.1 && (t354 == bt364.2.2.1 && (t355 == bt364.2.2.2)))) = true then ((sponge_Inverse.f k (wrap64 (Int.tmod a0 4)) t347 t348 t349 t350).bind fun bt368 => (if (t356 == bt368.1 && (t357 == bt368.2.1 && (t358 == bt368.2.2.1 && (t359 == bt368.2.2.2)))) = true then ((sponge_Inverse.f k (wrap64 (Int.tmod a0 4)) t352 t353 t354 t355).bind fun bt372 => (if (bt372.1 == t347 && (bt372.2.1 == t348 && (bt372.2.2.1 == t349 && (bt372.2.2.2 == t350)))) = true then ((sponge_Perm.f (wrap64 (Int.tmod a0 4)) t356 t357 t358 t359).bind fun bt376 => (if (bt376.1 == t347 && (bt376.2.1 == t348 && (bt376.2.2.1 == t349 && (bt376.2.2.2 == t350)))) = true then ((attestorlaw06_lives.f k).bind fun t380 => (some t380)) else (none))) else (none))) else (none))) else (none))) else (none))) else (none)) = some r := H
 have A6 := Aside0.mk A60
 clear A60
 by_cases c7 : t362 = true
 ·subst c7
  have H1 : ((attestorlaw06_within.f (wrap64 (Int.tmod a0 4)) t356 t357 t358 t359).bind fun t363 => (if t363 = true then ((sponge_Perm.f (wrap64 (Int.tmod a0 4)) t347 t348 t349 t350).bind fun bt364 => (if (t352 == bt364.1 && (t353 == bt364.2.1 && (t354 == bt364.2.2.1 && (t355 == bt364.2.2.2)))) = true then ((sponge_Inverse.f k (wrap64 (Int.tmod a0 4)) t347 t348 t349 t350).bind fun bt368 => (if (t356 == bt368.1 && (t357 == bt368.2.1 && (t358 == bt368.2.2.1 && (t359 == bt368.2.2.2)))) = true then ((sponge_Inverse.f k (wrap64 (Int.tmod a0 4)) t352 t353 t354 t355).bind fun bt372 => (if (bt372.1 == t347 && (bt372.2.1 == t348 && (bt372.2.2.1 == t349 && (bt372.2.2.2 == t350)))) = true then ((sponge_Perm.f (wrap64 (Int.tmod a0 4)) t356 t357 t358 t359).bind fun bt376 => (if (bt376.1 == t347 && (bt376.2.1 == t348 && (bt376.2.2.1 == t349 && (bt376.2.2.2 == t350)))) = true then ((attestorlaw06_lives.f k).bind fun t380 => (some t380)) else (none))) else (none))) else (none))) else (none))) else (none))) = some r := by rw [if_pos rfl] at H; exact H
  clear H
  have H := H1
  clear H1
  replace H := Option.bind_eq_some_iff.mp H
  obtain ⟨t363, A80, H⟩ := H
  replace H : (if t363 = true then ((sponge_Perm.f (wrap64 (Int.tmod a0 4)) t347 t348 t349 t350).bind fun bt364 => (if (t352 == bt364.1 && (t353 == bt364.2.1 && (t354 == bt364.2.2.1 && (t355 == bt364.2.2.2)))) = true then ((sponge_Inverse.f k (wrap64 (Int.tmod a0 4)) t347 t348 t349 t350).bind fun bt368 => (if (t356 == bt368.1 && (t357 == bt368.2.1 && (t358 == bt368.2.2.1 && (t359 == bt368.2.2.2)))) = true then ((sponge_Inverse.f k (wrap64 (Int.tmod a0 4)) t352 t353 t354 t355).bind fun bt372 => (if (bt372.1 == t347 && (bt372.2.1 == t348 && (bt372.2.2.1 == t349 && (bt372.2.2.2 == t350)))) = true then ((sponge_Perm.f (wrap64 (Int.tmod a0 4)) t356 t357 t358 t359).bind fun bt376 => (if (bt376.1 == t347 && (bt376.2.1 == t348 && (bt376.2.2.1 == t349 && (bt376.2.2.2 == t350)))) = true then ((attestorlaw06_lives.f k).bind fun t380 => (some t380)) else (none))) else (none))) else (none))) else (none))) else (none)) = some r := H
  have A8 := Aside0.mk A80
  clear A80
  by_cases c9 : t363 = true
  ·subst c9
   have H1 : ((sponge_Perm.f (wrap64 (Int.tmod a0 4)) t347 t348 t349 t350).bind fun bt364 => (if (t352 == bt364.1 && (t353 == bt364.2.1 && (t354 == bt364.2.2.1 && (t355 == bt364.2.2.2)))) = true then ((sponge_Inverse.f k (wrap64 (Int.tmod a0 4)) t347 t348 t349 t350).bind fun bt368 => (if (t356 == bt368.1 && (t357 == bt368.2.1 && (t358 == bt368.2.2.1 && (t359 == bt368.2.2.2)))) = true then ((sponge_Inverse.f k (wrap64 (Int.tmod a0 4)) t352 t353 t354 t355).bind fun bt372 => (if (bt372.1 == t347 && (bt372.2.1 == t348 && (bt372.2.2.1 == t349 && (bt372.2.2.2 == t350)))) = true then ((sponge_Perm.f (wrap64 (Int.tmod a0 4)) t356 t357 t358 t359).bind fun bt376 => (if (bt376.1 == t347 && (bt376.2.1 == t348 && (bt376.2.2.1 == t349 && (bt376.2.2.2 == t350)))) = true then ((attestorlaw06_lives.f k).bind fun t380 => (some t380)) else (none))) else (none))) else (none))) else (none))) = some r := by rw [if_pos rfl] at H; exact H
   clear H
   have H := H1
   clear H1
   replace H := Option.bind_eq_some_iff.mp H
   obtain ⟨⟨t364, t365, t366, t367⟩, A100, H⟩ := H
   replace H : (if (t352 == t364 && (t353 == t365 && (t354 == t366 && (t355 == t367)))) = true then ((sponge_Inverse.f k (wrap64 (Int.tmod a0 4)) t347 t348 t349 t350).bind fun bt368 => (if (t356 == bt368.1 && (t357 == bt368.2.1 && (t358 == bt368.2.2.1 && (t359 == bt368.2.2.2)))) = true then ((sponge_Inverse.f k (wrap64 (Int.tmod a0 4)) t352 t353 t354 t355).bind fun bt372 => (if (bt372.1 == t347 && (bt372.2.1 == t348 && (bt372.2.2.1 == t349 && (bt372.2.2.2 == t350)))) = true then ((sponge_Perm.f (wrap64 (Int.tmod a0 4)) t356 t357 t358 t359).bind fun bt376 => (if (bt376.1 == t347 && (bt376.2.1 == t348 && (bt376.2.2.1 == t349 && (bt376.2.2.2 == t350)))) = true then ((attestorlaw06_lives.f k).bind fun t380 => (some t380)) else (none))) else (none))) else (none))) else (none)) = some r := H
   have A10 := Aside0.mk A100
   clear A100
   by_cases c11 : (t352 == t364 && (t353 == t365 && (t354 == t366 && (t355 == t367)))) = true
   ·rw [if_pos c11] at H
    have c11b0 : (t352 == t364 && (t353 == t365 && (t354 == t366 && (t355 == t367)))) = true := c11
    (try (have c11b1 : decide (t352 = t364 && (t353 == t365 && (t354 == t366 && (t355 == t367)))) = true := by simpa using c11))
    (try (have c11b2 : (t352 == t364 && (t353 == t365 && (t354 == t366 && (t355 == t367)))) = true := by simpa using c11))
    clear c11
    replace H := Option.bind_eq_some_iff.mp H
    obtain ⟨⟨t368, t369, t370, t371⟩, A120, H⟩ := H
    replace H : (if (t356 == t368 && (t357 == t369 && (t358 == t370 && (t359 == t371)))) = true then ((sponge_Inverse.f k (wrap64 (Int.tmod a0 4)) t352 t353 t354 t355).bind fun bt372 => (if (bt372.1 == t347 && (bt372.2.1 == t348 && (bt372.2.2.1 == t349 && (bt372.2.2.2 == t350)))) = true then ((sponge_Perm.f (wrap64 (Int.tmod a0 4)) t356 t357 t358 t359).bind fun bt376 => (if (bt376.1 == t347 && (bt376.2.1 == t348 && (bt376.2.2.1 == t349 && (bt376.2.2.2 == t350)))) = true then ((attestorlaw06_lives.f k).bind fun t380 => (some t380)) else (none))) else (none))) else (none)) = some r := H
    have A12 := Aside0.mk A120
    clear A120
    by_cases c13 : (t356 == t368 && (t357 == t369 && (t358 == t370 && (t359 == t371)))) = true
    ·rw [if_pos c13] at H
     have c13b0 : (t356 == t368 && (t357 == t369 && (t358 == t370 && (t359 == t371)))) = true := c13
     (try (have c13b1 : decide (t356 = t368 && (t357 == t369 && (t358 == t370 && (t359 == t371)))) = true := by simpa using c13))
     (try (have c13b2 : (t356 == t368 && (t357 == t369 && (t358 == t370 && (t359 == t371)))) = true := by simpa using c13))
     clear c13
     replace H := Option.bind_eq_some_iff.mp H
     obtain ⟨⟨t372, t373, t374, t375⟩, A140, H⟩ := H
     replace H : (if (t372 == t347 && (t373 == t348 && (t374 == t349 && (t375 == t350)))) = true then ((sponge_Perm.f (wrap64 (Int.tmod a0 4)) t356 t357 t358 t359).bind fun bt376 => (if (bt376.1 == t347 && (bt376.2.1 == t348 && (bt376.2.2.1 == t349 && (bt376.2.2.2 == t350)))) = true then ((attestorlaw06_lives.f k).bind fun t380 => (some t380)) else (none))) else (none)) = some r := H
     have A14 := Aside0.mk A140
     clear A140
     by_cases c15 : (t372 == t347 && (t373 == t348 && (t374 == t349 && (t375 == t350)))) = true
     ·rw [if_pos c15] at H
      have c15b0 : (t372 == t347 && (t373 == t348 && (t374 == t349 && (t375 == t350)))) = true := c15
      (try (have c15b1 : decide (t372 = t347 && (t373 == t348 && (t374 == t349 && (t375 == t350)))) = true := by simpa using c15))
      (try (have c15b2 : (t372 == t347 && (t373 == t348 && (t374 == t349 && (t375 == t350)))) = true := by simpa using c15))
      clear c15
      replace H := Option.bind_eq_some_iff.mp H
      obtain ⟨⟨t376, t377, t378, t379⟩, A160, H⟩ := H
      replace H : (if (t376 == t347 && (t377 == t348 && (t378 == t349 && (t379 == t350)))) = true then ((attestorlaw06_lives.f k).bind fun t380 => (some t380)) else (none)) = some r := H
      have A16 := Aside0.mk A160
      clear A160
      by_cases c17 : (t376 == t347 && (t377 == t348 && (t378 == t349 && (t379 == t350)))) = true
      ·rw [if_pos c17] at H
       have c17b0 : (t376 == t347 && (t377 == t348 && (t378 == t349 && (t379 == t350)))) = true := c17
       (try (have c17b1 : decide (t376 = t347 && (t377 == t348 && (t378 == t349 && (t379 == t350)))) = true := by simpa using c17))
       (try (have c17b2 : (t376 == t347 && (t377 == t348 && (t378 == t349 && (t379 == t350)))) = true := by simpa using c17))
       clear c17
       replace H := Option.bind_eq_some_iff.mp H
       obtain ⟨t380, A180, H⟩ := H
       replace H : (some t380) = some r := H
       have A18 := Aside0.mk A180
       clear A180
       obtain rfl := Option.some.inj H
       go_enter Tryd.func9, Tryd.ntmps9
       try go_wp2_with (first | ((with_reducible refine gate_dst (N := 3) rfl ?_); refine box_event ?hg (N := 3) ?hd (cs := #[.int .u64 a1_0, .int .u64 a1_1, .int .u64 a1_2, .int .u64 a1_3]) (t := 23) ?hr ?_; (case hd => rfl); (case hg => rfl); (case hr => first | (go_simp; done) | (go_simp; rfl)); intro g346 hg w19 hbox hb; have n0_ := Aside0.mk (below_step (by repeat (first | (with_reducible first | exact HB.out | apply below_alloc | apply pw_below_drewN | apply below_drew1) | exact HB.out)) hb); have n1_ := Aside0.mk (hbox); have n2_ := Aside0.mk ((by rw [hg]; exact (below_size (by repeat (first | (with_reducible first | exact HB.out | apply below_alloc | apply pw_below_drewN | apply below_drew1) | exact HB.out))) : w.heap.size ≤ g346)); have n3_ := Aside0.mk ((by rw [hg]; exact (below_size (by repeat (first | (with_reducible first | exact HB.out | apply below_alloc | apply pw_below_drewN | apply below_drew1) | exact HB.out))) : w.heap.size ≤ g346)); clear HB; have HB := n0_; have B346 := n1_; have GW346 := n2_; have GE346 := n3_; clear n0_ n1_ n2_ n3_; clear hb hbox hg; have hcz20_0 : w19.cell? ⟨g346, 0, none⟩ = some (.int .u64 a1_0) := bq_ B346 0; have hcz20_1 : w19.cell? ⟨g346, 1, none⟩ = some (.int .u64 a1_1) := bq_ B346 1; have hcz20_2 : w19.cell? ⟨g346, 2, none⟩ = some (.int .u64 a1_2) := bq_ B346 2; have hcz20_3 : w19.cell? ⟨g346, 3, none⟩ = some (.int .u64 a1_3) := bq_ B346 3; have hfz20_0 := blk_frozen B346.out 0; have hfz20_1 := blk_frozen B346.out 1; have hfz20_2 := blk_frozen B346.out 2; have hfz20_3 := blk_frozen B346.out 3) | ((with_reducible refine gate_callee (f := 27) rfl ?_); refine goesL_ (some 14) rfl rfl Tryd.func27 (by kernel_rfl) rfl #[.int .i64 (wrap64 (Int.tmod a0 4)), .agg #[.int .u64 a1_0, .int .u64 a1_1, .int .u64 a1_2, .int .u64 a1_3]] rfl (by (try simp only [List.map_toArray, List.map_cons, List.map_nil]); first | done | rfl) ?_; (with_reducible refine (attestorlaw06_reduced.calls (wrap64 (Int.tmod a0 4)) a1_0 a1_1 a1_2 a1_3 t347 t348 t349 t350 _ A3.out).mono ?_); rintro e w21 ⟨rfl, hb⟩; refine ⟨_, rfl, ?_⟩; have n0_ := Aside0.mk (blk_below (g := g346) (o := .cells #[.int .u64 a1_0, .int .u64 a1_1, .int .u64 a1_2, .int .u64 a1_3] 23 (0, 0)) (by (with_reducible repeat first | refine blk_drewN ?_ _ | refine blk_drew ?_ | refine blk_alloc ?_ _); exact B346.out) hb); have n1_ := Aside0.mk (below_step (by repeat (first | (with_reducible first | exact HB.out | apply below_alloc | apply pw_below_drewN | apply below_drew1 | refine below_set ?_ GE346.out) | exact HB.out)) hb); clear B346; clear HB; have B346 := n0_; have HB := n1_; clear n0_ n1_; (try clear hb); (try clear hb2); (try clear hk); (try clear hi)) | ((with_reducible refine gate_dst (N := 6) rfl ?_); refine box_event ?hg (N := 6) ?hd (cs := #[.int .u64 0, .int .u64 0, .int .u64 0, .int .u64 0]) (t := 23) ?hr ?_; (case hd => rfl); (case hg => rfl); (case hr => first | (go_simp; done) | (go_simp; rfl)); intro g351 hg w22 hbox hb; have n0_ := Aside0.mk (blk_below (g := g346) (o := .cells #[.int .u64 a1_0, .int .u64 a1_1, .int .u64 a1_2, .int .u64 a1_3] 23 (0, 0)) (by (with_reducible repeat first | refine blk_drewN ?_ _ | refine blk_drew ?_ | refine blk_alloc ?_ _); exact B346.out) hb); have n1_ := Aside0.mk (below_step (by repeat (first | (with_reducible first | exact HB.out | apply below_alloc | apply pw_below_drewN | apply below_drew1 | refine below_set ?_ GE346.out) | exact HB.out)) hb); have n2_ := Aside0.mk (hbox); have n3_ := Aside0.mk ((by rw [hg]; exact (below_size (by repeat (first | (with_reducible first | exact HB.out | apply below_alloc | apply pw_below_drewN | apply below_drew1 | refine below_set ?_ GE346.out) | exact HB.out))) : w.heap.size ≤ g351)); have n4_ := Aside0.mk ((by rw [hg]; exact (below_size (by repeat (first | (with_reducible first | exact HB.out | apply below_alloc | apply pw_below_drewN | apply below_drew1 | refine below_set ?_ GE346.out) | exact HB.out))) : w.heap.size ≤ g351)); have n5_ := Aside0.mk ((by rw [hg]; exact Nat.ne_of_lt (blk_lt (g := g346) (o := .cells #[.int .u64 a1_0, .int .u64 a1_1, .int .u64 a1_2, .int .u64 a1_3] 23 (0, 0)) (by (with_reducible repeat first | refine blk_drewN ?_ _ | refine blk_drew ?_ | refine blk_alloc ?_ _); exact B346.out)) : g346 ≠ g351)); have n6_ := Aside0.mk ((by rw [hg]; exact Nat.ne_of_gt (blk_lt (g := g346) (o := .cells #[.int .u64 a1_0, .int .u64 a1_1, .int .u64 a1_2, .int .u64 a1_3] 23 (0, 0)) (by (with_reducible repeat first | refine blk_drewN ?_ _ | refine blk_drew ?_ | refine blk_alloc ?_ _); exact B346.out)) : g351 ≠ g346)); clear B346; clear HB; have B346 := n0_; have HB := n1_; have B351 := n2_; have GW351 := n3_; have GE351 := n4_; have NB346_351 := n5_; have NB351_346 := n6_; clear n0_ n1_ n2_ n3_ n4_ n5_ n6_; clear hb hbox hg; have hnb23 := NB351_346.out; have hnc23 := NB346_351.out; have hcz24_0 : w22.cell? ⟨g351, 0, none⟩ = some (.int .u64 0) := bq_ B351 0; have hcz24_1 : w22.cell? ⟨g351, 1, none⟩ = some (.int .u64 0) := bq_ B351 1; have hcz24_2 : w22.cell? ⟨g351, 2, none⟩ = some (.int .u64 0) := bq_ B351 2; have hcz24_3 : w22.cell? ⟨g351, 3, none⟩ = some (.int .u64 0) := bq_ B351 3; have hfz24_0 := blk_frozen B351.out 0; have hfz24_1 := blk_frozen B351.out 1; have hfz24_2 := blk_frozen B351.out 2; have hfz24_3 := blk_frozen B351.out 3))
       have n0_ : Aside0 (((((w22.setCell ⟨g351, 0, none⟩ (.int .u64 t347)).setCell ⟨g351, 1, none⟩ (.int .u64 t348)).setCell ⟨g351, 2, none⟩ (.int .u64 t349)).setCell ⟨g351, 3, none⟩ (.int .u64 t350)).heap[g346]? = some (.cells #[.int .u64 a1_0, .int .u64 a1_1, .int .u64 a1_2, .int .u64 a1_3] 23 (0, 0))) := ⟨by (with_reducible repeat first | refine blk_drewN ?_ _ | refine blk_drew ?_ | refine blk_alloc ?_ _); refine blk_far ?_ NB346_351.out _; (with_reducible repeat first | refine blk_drewN ?_ _ | refine blk_drew ?_ | refine blk_alloc ?_ _); refine blk_far ?_ NB346_351.out _; (with_reducible repeat first | refine blk_drewN ?_ _ | refine blk_drew ?_ | refine blk_alloc ?_ _); refine blk_far ?_ NB346_351.out _; (with_reducible repeat first | refine blk_drewN ?_ _ | refine blk_drew ?_ | refine blk_alloc ?_ _); refine blk_far ?_ NB346_351.out _; (with_reducible repeat first | refine blk_drewN ?_ _ | refine blk_drew ?_ | refine blk_alloc ?_ _); exact B346.out⟩
       have n1_ : Aside0 (((((w22.setCell ⟨g351, 0, none⟩ (.int .u64 t347)).setCell ⟨g351, 1, none⟩ (.int .u64 t348)).setCell ⟨g351, 2, none⟩ (.int .u64 t349)).setCell ⟨g351, 3, none⟩ (.int .u64 t350)).heap[g351]? = some (.cells #[.int .u64 t347, .int .u64 t348, .int .u64 t349, .int .u64 t350] 23 (0, 0))) := ⟨by (with_reducible repeat first | refine blk_drewN ?_ _ | refine blk_drew ?_ | refine blk_alloc ?_ _); refine blk_put (cs := #[.int .u64 t347, .int .u64 t348, .int .u64 t349, .int .u64 0]) ?_ 3 _ rfl; (with_reducible repeat first | refine blk_drewN ?_ _ | refine blk_drew ?_ | refine blk_alloc ?_ _); refine blk_put (cs := #[.int .u64 t347, .int .u64 t348, .int .u64 0, .int .u64 0]) ?_ 2 _ rfl; (with_reducible repeat first | refine blk_drewN ?_ _ | refine blk_drew ?_ | refine blk_alloc ?_ _); refine blk_put (cs := #[.int .u64 t347, .int .u64 0, .int .u64 0, .int .u64 0]) ?_ 1 _ rfl; (with_reducible repeat first | refine blk_drewN ?_ _ | refine blk_drew ?_ | refine blk_alloc ?_ _); refine blk_put (cs := #[.int .u64 0, .int .u64 0, .int .u64 0, .int .u64 0]) ?_ 0 _ rfl; (with_reducible repeat first | refine blk_drewN ?_ _ | refine blk_drew ?_ | refine blk_alloc ?_ _); exact B351.out⟩
       have n2_ : Aside0 (Below w.heap.size w ((((w22.setCell ⟨g351, 0, none⟩ (.int .u64 t347)).setCell ⟨g351, 1, none⟩ (.int .u64 t348)).setCell ⟨g351, 2, none⟩ (.int .u64 t349)).setCell ⟨g351, 3, none⟩ (.int .u64 t350))) := ⟨by repeat (first | (with_reducible first | exact HB.out | apply below_alloc | apply pw_below_drewN | apply below_drew1 | refine below_set ?_ GE346.out | refine below_set ?_ GE351.out) | exact HB.out)⟩
       (try clear B346)
       (try clear B351)
       (try clear HB)
       generalize ((((w22.setCell ⟨g351, 0, none⟩ (.int .u64 t347)).setCell ⟨g351, 1, none⟩ (.int .u64 t348)).setCell ⟨g351, 2, none⟩ (.int .u64 t349)).setCell ⟨g351, 3, none⟩ (.int .u64 t350)) = w25 at n0_ n1_ n2_ ⊢
       have B346 := n0_
       have B351 := n1_
       have HB := n2_
       clear n0_ n1_ n2_
       have n0_ := Aside0.mk (blk_drew B346.out)
       have n1_ := Aside0.mk (blk_drew B351.out)
       have n2_ := Aside0.mk (below_drew1 HB.out)
       clear B346
       clear B351
       clear HB
       have B346 := n0_
       have B351 := n1_
       have HB := n2_
       clear n0_ n1_ n2_
       refine start_ (n := 10) (S := fun w' => w'.cell? ⟨g346, 0, none⟩ = some (.int .u64 a1_0) ∧ w'.cell? ⟨g346, 1, none⟩ = some (.int .u64 a1_1) ∧ w'.cell? ⟨g346, 2, none⟩ = some (.int .u64 a1_2) ∧ w'.cell? ⟨g346, 3, none⟩ = some (.int .u64 a1_3)) (ds := []) z9_0_ (by kernel_rfl) rfl rfl ⟨bq_ B346 0, bq_ B346 1, bq_ B346 2, bq_ B346 3⟩ (fun hL => ?_); refine with_tabW attestorlaw06_SpongeBack.tab3 attestorlaw06_SpongeBack.bits3 (fun T_ W_ => ?_)
       generalize w25.drew = w26 at B346 B351 HB hL ⊢
       refine pure_ (i := 0) (N := some 15) (v := ?_) (a' := ?_) z9_1_ rfl rfl (an_ T_) (fun _ _ _ h => h) (Or.inl ⟨by rfl, ?_⟩) ?_ ?_
       rotate_left; · intro w'; go_simp; with_reducible rfl
       rotate_left; · simp only [Act.put, sa_, sb_, sc_, i64_w, i32_w]; rfl
       refine pure_ (i := 3) (N := some 18) (v := ?_) (a' := ?_) z9_2_ rfl rfl (an_ T_) (fun _ _ _ h => h) (Or.inl ⟨by rfl, ?_⟩) ?_ ?_
       rotate_left; · intro w'; go_simp; with_reducible rfl
       rotate_left; · simp only [Act.put, sa_, sb_, sc_, i64_w, i32_w]; rfl
       refine take_ (i := 1) (N := some 16) (v := ?_) (a' := ?_) z9_3_ rfl rfl (tk_ T_ W_) (fun _ _ _ h => h) (Or.inl ⟨by rfl, ?_⟩) hL ?_ ?_
       rotate_left
       ·rintro w' ⟨s0, s1, s2, s3⟩
        go_simp
        with_reducible rfl
       rotate_left
       ·simp only [Act.put, sa_, sb_, sc_, i64_w, i32_w]
        rfl
       refine take_ (i := 4) (N := some 19) (v := ?_) (a' := ?_) z9_4_ rfl rfl (tk_ T_ W_) (fun _ _ _ h => h) (Or.inl ⟨by rfl, ?_⟩) hL ?_ ?_
       rotate_left
       ·rintro w' ⟨s0, s1, s2, s3⟩
        go_simp
        with_reducible rfl
       rotate_left
       ·simp only [Act.put, sa_, sb_, sc_, i64_w, i32_w]
        rfl
       refine join_ (σ := Nat × Nat) 2 z9_5_ (fun s_ => [(17, .agg #[.int .u64 t352, .int .u64 t353, .int .u64 t354, .int .u64 t355]), (20, .agg #[.int .u64 t356, .int .u64 t357, .int .u64 t358, .int .u64 t359]), (7, .pointer (some ⟨s_.1, 0, none⟩)), (8, .pointer (some ⟨s_.2, 0, none⟩))]) (fun s_ w' => (w'.cell? ⟨g346, 0, none⟩ = some (.int .u64 a1_0) ∧ w'.cell? ⟨g346, 1, none⟩ = some (.int .u64 a1_1) ∧ w'.cell? ⟨g346, 2, none⟩ = some (.int .u64 a1_2) ∧ w'.cell? ⟨g346, 3, none⟩ = some (.int .u64 a1_3)) ∧ (w'.heap[g346]? = some (.cells #[.int .u64 a1_0, .int .u64 a1_1, .int .u64 a1_2, .int .u64 a1_3] 23 (0, 0))) ∧ (w'.heap[g351]? = some (.cells #[.int .u64 t347, .int .u64 t348, .int .u64 t349, .int .u64 t350] 23 (0, 0))) ∧ (w'.heap[s_.1]? = some (.cells #[.int .u64 0, .int .u64 0, .int .u64 0, .int .u64 0] 23 (0, 0))) ∧ (w'.heap[s_.2]? = some (.cells #[.int .u64 0, .int .u64 0, .int .u64 0, .int .u64 0] 23 (0, 0))) ∧ (w.heap.size ≤ s_.1) ∧ (w.heap.size ≤ s_.1) ∧ (g346 ≠ s_.1) ∧ (s_.1 ≠ g346) ∧ (g351 ≠ s_.1) ∧ (s_.1 ≠ g351) ∧ (s_.2 ≠ s_.1) ∧ (s_.1 ≠ s_.2) ∧ (w.heap.size ≤ s_.2) ∧ (w.heap.size ≤ s_.2) ∧ (g346 ≠ s_.2) ∧ (s_.2 ≠ g346) ∧ (g351 ≠ s_.2) ∧ (s_.2 ≠ g351) ∧ (Below w.heap.size w w')) ?_ ?_
       rotate_left
       ·intro hJ2_5_6_7
        refine join_ (σ := Nat) 3 z9_6_ (fun s_ => [(17, .agg #[.int .u64 t352, .int .u64 t353, .int .u64 t354, .int .u64 t355]), (20, .agg #[.int .u64 t356, .int .u64 t357, .int .u64 t358, .int .u64 t359]), (7, .pointer (some ⟨s_, 0, none⟩))]) (fun s_ w' => (w'.cell? ⟨g346, 0, none⟩ = some (.int .u64 a1_0) ∧ w'.cell? ⟨g346, 1, none⟩ = some (.int .u64 a1_1) ∧ w'.cell? ⟨g346, 2, none⟩ = some (.int .u64 a1_2) ∧ w'.cell? ⟨g346, 3, none⟩ = some (.int .u64 a1_3)) ∧ (w'.heap[g346]? = some (.cells #[.int .u64 a1_0, .int .u64 a1_1, .int .u64 a1_2, .int .u64 a1_3] 23 (0, 0))) ∧ (w'.heap[g351]? = some (.cells #[.int .u64 t347, .int .u64 t348, .int .u64 t349, .int .u64 t350] 23 (0, 0))) ∧ (w'.heap[s_]? = some (.cells #[.int .u64 0, .int .u64 0, .int .u64 0, .int .u64 0] 23 (0, 0))) ∧ (w.heap.size ≤ s_) ∧ (w.heap.size ≤ s_) ∧ (g346 ≠ s_) ∧ (s_ ≠ g346) ∧ (g351 ≠ s_) ∧ (s_ ≠ g351) ∧ (Below w.heap.size w w')) ?_ ?_
        rotate_left
        ·intro hJ2_5_6
         refine join_ (σ := Nat) 3 z9_7_ (fun s_ => [(17, .agg #[.int .u64 t352, .int .u64 t353, .int .u64 t354, .int .u64 t355]), (20, .agg #[.int .u64 t356, .int .u64 t357, .int .u64 t358, .int .u64 t359]), (8, .pointer (some ⟨s_, 0, none⟩))]) (fun s_ w' => (w'.cell? ⟨g346, 0, none⟩ = some (.int .u64 a1_0) ∧ w'.cell? ⟨g346, 1, none⟩ = some (.int .u64 a1_1) ∧ w'.cell? ⟨g346, 2, none⟩ = some (.int .u64 a1_2) ∧ w'.cell? ⟨g346, 3, none⟩ = some (.int .u64 a1_3)) ∧ (w'.heap[g346]? = some (.cells #[.int .u64 a1_0, .int .u64 a1_1, .int .u64 a1_2, .int .u64 a1_3] 23 (0, 0))) ∧ (w'.heap[g351]? = some (.cells #[.int .u64 t347, .int .u64 t348, .int .u64 t349, .int .u64 t350] 23 (0, 0))) ∧ (w'.heap[s_]? = some (.cells #[.int .u64 0, .int .u64 0, .int .u64 0, .int .u64 0] 23 (0, 0))) ∧ (w.heap.size ≤ s_) ∧ (w.heap.size ≤ s_) ∧ (g346 ≠ s_) ∧ (s_ ≠ g346) ∧ (g351 ≠ s_) ∧ (s_ ≠ g351) ∧ (Below w.heap.size w w')) ?_ ?_
         rotate_left
         ·intro hJ2_5_7
          refine join_ (σ := Nat × Nat) 3 z9_8_ (fun s_ => [(17, .agg #[.int .u64 t352, .int .u64 t353, .int .u64 t354, .int .u64 t355]), (7, .pointer (some ⟨s_.1, 0, none⟩)), (8, .pointer (some ⟨s_.2, 0, none⟩))]) (fun s_ w' => (w'.cell? ⟨g346, 0, none⟩ = some (.int .u64 a1_0) ∧ w'.cell? ⟨g346, 1, none⟩ = some (.int .u64 a1_1) ∧ w'.cell? ⟨g346, 2, none⟩ = some (.int .u64 a1_2) ∧ w'.cell? ⟨g346, 3, none⟩ = some (.int .u64 a1_3)) ∧ (w'.heap[g346]? = some (.cells #[.int .u64 a1_0, .int .u64 a1_1, .int .u64 a1_2, .int .u64 a1_3] 23 (0, 0))) ∧ (w'.heap[g351]? = some (.cells #[.int .u64 t347, .int .u64 t348, .int .u64 t349, .int .u64 t350] 23 (0, 0))) ∧ (w'.heap[s_.1]? = some (.cells #[.int .u64 0, .int .u64 0, .int .u64 0, .int .u64 0] 23 (0, 0))) ∧ (w'.heap[s_.2]? = some (.cells #[.int .u64 0, .int .u64 0, .int .u64 0, .int .u64 0] 23 (0, 0))) ∧ (w.heap.size ≤ s_.1) ∧ (w.heap.size ≤ s_.1) ∧ (g346 ≠ s_.1) ∧ (s_.1 ≠ g346) ∧ (g351 ≠ s_.1) ∧ (s_.1 ≠ g351) ∧ (s_.2 ≠ s_.1) ∧ (s_.1 ≠ s_.2) ∧ (w.heap.size ≤ s_.2) ∧ (w.heap.size ≤ s_.2) ∧ (g346 ≠ s_.2) ∧ (s_.2 ≠ g346) ∧ (g351 ≠ s_.2) ∧ (s_.2 ≠ g351) ∧ (Below w.heap.size w w')) ?_ ?_
          rotate_left
          ·intro hJ2_6_7
           refine join_ (σ := Unit) 4 z9_9_ (fun s_ => [(17, .agg #[.int .u64 t352, .int .u64 t353, .int .u64 t354, .int .u64 t355]), (20, .agg #[.int .u64 t356, .int .u64 t357, .int .u64 t358, .int .u64 t359])]) (fun s_ w' => (w'.cell? ⟨g346, 0, none⟩ = some (.int .u64 a1_0) ∧ w'.cell? ⟨g346, 1, none⟩ = some (.int .u64 a1_1) ∧ w'.cell? ⟨g346, 2, none⟩ = some (.int .u64 a1_2) ∧ w'.cell? ⟨g346, 3, none⟩ = some (.int .u64 a1_3)) ∧ (w'.heap[g346]? = some (.cells #[.int .u64 a1_0, .int .u64 a1_1, .int .u64 a1_2, .int .u64 a1_3] 23 (0, 0))) ∧ (w'.heap[g351]? = some (.cells #[.int .u64 t347, .int .u64 t348, .int .u64 t349, .int .u64 t350] 23 (0, 0))) ∧ (Below w.heap.size w w')) ?_ ?_
           rotate_left
           ·intro hJ2_5
            refine join_ (σ := Nat) 4 z9_10_ (fun s_ => [(17, .agg #[.int .u64 t352, .int .u64 t353, .int .u64 t354, .int .u64 t355]), (7, .pointer (some ⟨s_, 0, none⟩))]) (fun s_ w' => (w'.cell? ⟨g346, 0, none⟩ = some (.int .u64 a1_0) ∧ w'.cell? ⟨g346, 1, none⟩ = some (.int .u64 a1_1) ∧ w'.cell? ⟨g346, 2, none⟩ = some (.int .u64 a1_2) ∧ w'.cell? ⟨g346, 3, none⟩ = some (.int .u64 a1_3)) ∧ (w'.heap[g346]? = some (.cells #[.int .u64 a1_0, .int .u64 a1_1, .int .u64 a1_2, .int .u64 a1_3] 23 (0, 0))) ∧ (w'.heap[g351]? = some (.cells #[.int .u64 t347, .int .u64 t348, .int .u64 t349, .int .u64 t350] 23 (0, 0))) ∧ (w'.heap[s_]? = some (.cells #[.int .u64 0, .int .u64 0, .int .u64 0, .int .u64 0] 23 (0, 0))) ∧ (w.heap.size ≤ s_) ∧ (w.heap.size ≤ s_) ∧ (g346 ≠ s_) ∧ (s_ ≠ g346) ∧ (g351 ≠ s_) ∧ (s_ ≠ g351) ∧ (Below w.heap.size w w')) ?_ ?_
            rotate_left
            ·intro hJ2_6
             refine join_ (σ := Nat) 4 z9_11_ (fun s_ => [(17, .agg #[.int .u64 t352, .int .u64 t353, .int .u64 t354, .int .u64 t355]), (8, .pointer (some ⟨s_, 0, none⟩))]) (fun s_ w' => (w'.cell? ⟨g346, 0, none⟩ = some (.int .u64 a1_0) ∧ w'.cell? ⟨g346, 1, none⟩ = some (.int .u64 a1_1) ∧ w'.cell? ⟨g346, 2, none⟩ = some (.int .u64 a1_2) ∧ w'.cell? ⟨g346, 3, none⟩ = some (.int .u64 a1_3)) ∧ (w'.heap[g346]? = some (.cells #[.int .u64 a1_0, .int .u64 a1_1, .int .u64 a1_2, .int .u64 a1_3] 23 (0, 0))) ∧ (w'.heap[g351]? = some (.cells #[.int .u64 t347, .int .u64 t348, .int .u64 t349, .int .u64 t350] 23 (0, 0))) ∧ (w'.heap[s_]? = some (.cells #[.int .u64 0, .int .u64 0, .int .u64 0, .int .u64 0] 23 (0, 0))) ∧ (w.heap.size ≤ s_) ∧ (w.heap.size ≤ s_) ∧ (g346 ≠ s_) ∧ (s_ ≠ g346) ∧ (g351 ≠ s_) ∧ (s_ ≠ g351) ∧ (Below w.heap.size w w')) ?_ ?_
             rotate_left
             ·intro hJ2_7
              refine join_ (σ := Nat × Nat) 4 z9_12_ (fun s_ => [(7, .pointer (some ⟨s_.1, 0, none⟩)), (8, .pointer (some ⟨s_.2, 0, none⟩))]) (fun s_ w' => (w'.cell? ⟨g346, 0, none⟩ = some (.int .u64 a1_0) ∧ w'.cell? ⟨g346, 1, none⟩ = some (.int .u64 a1_1) ∧ w'.cell? ⟨g346, 2, none⟩ = some (.int .u64 a1_2) ∧ w'.cell? ⟨g346, 3, none⟩ = some (.int .u64 a1_3)) ∧ (w'.heap[g346]? = some (.cells #[.int .u64 a1_0, .int .u64 a1_1, .int .u64 a1_2, .int .u64 a1_3] 23 (0, 0))) ∧ (w'.heap[g351]? = some (.cells #[.int .u64 t347, .int .u64 t348, .int .u64 t349, .int .u64 t350] 23 (0, 0))) ∧ (w'.heap[s_.1]? = some (.cells #[.int .u64 0, .int .u64 0, .int .u64 0, .int .u64 0] 23 (0, 0))) ∧ (w'.heap[s_.2]? = some (.cells #[.int .u64 0, .int .u64 0, .int .u64 0, .int .u64 0] 23 (0, 0))) ∧ (w.heap.size ≤ s_.1) ∧ (w.heap.size ≤ s_.1) ∧ (g346 ≠ s_.1) ∧ (s_.1 ≠ g346) ∧ (g351 ≠ s_.1) ∧ (s_.1 ≠ g351) ∧ (s_.2 ≠ s_.1) ∧ (s_.1 ≠ s_.2) ∧ (w.heap.size ≤ s_.2) ∧ (w.heap.size ≤ s_.2) ∧ (g346 ≠ s_.2) ∧ (s_.2 ≠ g346) ∧ (g351 ≠ s_.2) ∧ (s_.2 ≠ g351) ∧ (Below w.heap.size w w')) ?_ ?_
              rotate_left
              ·intro hJ6_7
               refine join_ (σ := Unit) 5 z9_13_ (fun s_ => [(17, .agg #[.int .u64 t352, .int .u64 t353, .int .u64 t354, .int .u64 t355])]) (fun s_ w' => (w'.cell? ⟨g346, 0, none⟩ = some (.int .u64 a1_0) ∧ w'.cell? ⟨g346, 1, none⟩ = some (.int .u64 a1_1) ∧ w'.cell? ⟨g346, 2, none⟩ = some (.int .u64 a1_2) ∧ w'.cell? ⟨g346, 3, none⟩ = some (.int .u64 a1_3)) ∧ (w'.heap[g346]? = some (.cells #[.int .u64 a1_0, .int .u64 a1_1, .int .u64 a1_2, .int .u64 a1_3] 23 (0, 0))) ∧ (w'.heap[g351]? = some (.cells #[.int .u64 t347, .int .u64 t348, .int .u64 t349, .int .u64 t350] 23 (0, 0))) ∧ (Below w.heap.size w w')) ?_ ?_
               rotate_left
               ·intro hJ2
                refine join_ (σ := Nat) 5 z9_14_ (fun s_ => [(7, .pointer (some ⟨s_, 0, none⟩))]) (fun s_ w' => (w'.cell? ⟨g346, 0, none⟩ = some (.int .u64 a1_0) ∧ w'.cell? ⟨g346, 1, none⟩ = some (.int .u64 a1_1) ∧ w'.cell? ⟨g346, 2, none⟩ = some (.int .u64 a1_2) ∧ w'.cell? ⟨g346, 3, none⟩ = some (.int .u64 a1_3)) ∧ (w'.heap[g346]? = some (.cells #[.int .u64 a1_0, .int .u64 a1_1, .int .u64 a1_2, .int .u64 a1_3] 23 (0, 0))) ∧ (w'.heap[g351]? = some (.cells #[.int .u64 t347, .int .u64 t348, .int .u64 t349, .int .u64 t350] 23 (0, 0))) ∧ (w'.heap[s_]? = some (.cells #[.int .u64 0, .int .u64 0, .int .u64 0, .int .u64 0] 23 (0, 0))) ∧ (w.heap.size ≤ s_) ∧ (w.heap.size ≤ s_) ∧ (g346 ≠ s_) ∧ (s_ ≠ g346) ∧ (g351 ≠ s_) ∧ (s_ ≠ g351) ∧ (Below w.heap.size w w')) ?_ ?_
                rotate_left
                ·intro hJ6
                 refine join_ (σ := Nat) 5 z9_15_ (fun s_ => [(8, .pointer (some ⟨s_, 0, none⟩))]) (fun s_ w' => (w'.cell? ⟨g346, 0, none⟩ = some (.int .u64 a1_0) ∧ w'.cell? ⟨g346, 1, none⟩ = some (.int .u64 a1_1) ∧ w'.cell? ⟨g346, 2, none⟩ = some (.int .u64 a1_2) ∧ w'.cell? ⟨g346, 3, none⟩ = some (.int .u64 a1_3)) ∧ (w'.heap[g346]? = some (.cells #[.int .u64 a1_0, .int .u64 a1_1, .int .u64 a1_2, .int .u64 a1_3] 23 (0, 0))) ∧ (w'.heap[g351]? = some (.cells #[.int .u64 t347, .int .u64 t348, .int .u64 t349, .int .u64 t350] 23 (0, 0))) ∧ (w'.heap[s_]? = some (.cells #[.int .u64 0, .int .u64 0, .int .u64 0, .int .u64 0] 23 (0, 0))) ∧ (w.heap.size ≤ s_) ∧ (w.heap.size ≤ s_) ∧ (g346 ≠ s_) ∧ (s_ ≠ g346) ∧ (g351 ≠ s_) ∧ (s_ ≠ g351) ∧ (Below w.heap.size w w')) ?_ ?_
                 rotate_left
                 ·intro hJ7
                  refine three_ (i := 2) (j := 6) (k := 7) (Ni := some 17) (Nj := some 7) (Nk := some 8) z9_13_ z9_14_ z9_15_ rfl rfl rfl rfl rfl rfl (three_of T_.out (by kernel_rfl)) (by decide) (by decide) (by decide) (fun K hK => ?_) (fun K hK => ?_) (fun K hK => ?_)
                  ·skip
                   refine goes_ Tryd.func19 (by kernel_rfl) rfl #[.int .i64 (wrap64 (Int.tmod a0 4)), .agg #[.int .u64 a1_0, .int .u64 a1_1, .int .u64 a1_2, .int .u64 a1_3]] (by rfl) rfl rfl (by (try simp only [List.map_toArray, List.map_cons, List.map_nil]); first | done | rfl) ?_
                   with_reducible refine (sponge_Perm.calls (wrap64 (Int.tmod a0 4)) a1_0 a1_1 a1_2 a1_3 t352 t353 t354 t355 _ ?side1 A4.out).mono ?_
                   (case side1 => repeat (first | exact (GL.below HRG.out HB.out) | (with_reducible refine GL.alloc ?_ _) | (with_reducible refine GL.drewN ?_ _) | (with_reducible refine GL.drew ?_)))
                   rintro e w27 ⟨rfl, hb⟩
                   refine ⟨_, rfl, ?_⟩
                   have n0_ := Aside0.mk (blk_below (g := g346) (o := .cells #[.int .u64 a1_0, .int .u64 a1_1, .int .u64 a1_2, .int .u64 a1_3] 23 (0, 0)) (by (with_reducible repeat first | refine blk_drewN ?_ _ | refine blk_drew ?_ | refine blk_alloc ?_ _); exact B346.out) hb)
                   have n1_ := Aside0.mk (blk_below (g := g351) (o := .cells #[.int .u64 t347, .int .u64 t348, .int .u64 t349, .int .u64 t350] 23 (0, 0)) (by (with_reducible repeat first | refine blk_drewN ?_ _ | refine blk_drew ?_ | refine blk_alloc ?_ _); exact B351.out) hb)
                   have n2_ := Aside0.mk (below_step (by repeat (first | (with_reducible first | exact HB.out | apply below_alloc | apply pw_below_drewN | apply below_drew1 | refine below_set ?_ GE346.out | refine below_set ?_ GE351.out) | exact HB.out)) hb)
                   clear B346
                   clear B351
                   clear HB
                   have B346 := n0_
                   have B351 := n1_
                   have HB := n2_
                   clear n0_ n1_ n2_
                   (try clear hb)
                   (try clear hb2)
                   (try clear hk)
                   (try clear hi)
                   refine hK.out _ _ ⟨bq_ B346 0, bq_ B346 1, bq_ B346 2, bq_ B346 3⟩ (fun hL => ?_)
                   clear hK K
                   refine norm_ (a' := ?_) ?_ ?_
                   rotate_left
                   ·show Act.put _ (some 17) _ = _
                    simp only [Act.put, sa_, sb_, sc_, i64_w, i32_w]
                    rfl
                   exact norm_ (by first | (simp only [putAll, Act.put, List.setIfInBounds_toArray, List.set_cons_zero, List.set_cons_succ]; done) | (simp only [putAll, Act.put, List.setIfInBounds_toArray, List.set_cons_zero, List.set_cons_succ]; rfl)) (hJ2 () _ ⟨hL, (by (with_reducible repeat first | refine blk_drewN ?_ _ | refine blk_drew ?_ | refine blk_alloc ?_ _); exact B346.out), (by (with_reducible repeat first | refine blk_drewN ?_ _ | refine blk_drew ?_ | refine blk_alloc ?_ _); exact B351.out), (by repeat (first | (with_reducible first | exact HB.out | apply below_alloc | apply pw_below_drewN | apply below_drew1 | refine below_set ?_ GE346.out | refine below_set ?_ GE351.out) | exact HB.out))⟩)
                  ·skip
                   refine box_step ?hg (N := 7) ?hd (cs := #[.int .u64 0, .int .u64 0, .int .u64 0, .int .u64 0]) (t := 23) ?hr ?_; (case hd => rfl); (case hg => rfl); (case hr => first | (go_simp; done) | (go_simp; rfl))
                   intro g360 hg w27 hbox hb
                   have n0_ := Aside0.mk (blk_below (g := g346) (o := .cells #[.int .u64 a1_0, .int .u64 a1_1, .int .u64 a1_2, .int .u64 a1_3] 23 (0, 0)) (by (with_reducible repeat first | refine blk_drewN ?_ _ | refine blk_drew ?_ | refine blk_alloc ?_ _); exact B346.out) hb)
                   have n1_ := Aside0.mk (blk_below (g := g351) (o := .cells #[.int .u64 t347, .int .u64 t348, .int .u64 t349, .int .u64 t350] 23 (0, 0)) (by (with_reducible repeat first | refine blk_drewN ?_ _ | refine blk_drew ?_ | refine blk_alloc ?_ _); exact B351.out) hb)
                   have n2_ := Aside0.mk (below_step (by repeat (first | (with_reducible first | exact HB.out | apply below_alloc | apply pw_below_drewN | apply below_drew1 | refine below_set ?_ GE346.out | refine below_set ?_ GE351.out) | exact HB.out)) hb)
                   have n3_ := Aside0.mk (hbox)
                   have n4_ := Aside0.mk ((by rw [hg]; exact (below_size (by repeat (first | (with_reducible first | exact HB.out | apply below_alloc | apply pw_below_drewN | apply below_drew1 | refine below_set ?_ GE346.out | refine below_set ?_ GE351.out) | exact HB.out))) : w.heap.size ≤ g360))
                   have n5_ := Aside0.mk ((by rw [hg]; exact (below_size (by repeat (first | (with_reducible first | exact HB.out | apply below_alloc | apply pw_below_drewN | apply below_drew1 | refine below_set ?_ GE346.out | refine below_set ?_ GE351.out) | exact HB.out))) : w.heap.size ≤ g360))
                   have n6_ := Aside0.mk ((by rw [hg]; exact Nat.ne_of_lt (blk_lt (g := g346) (o := .cells #[.int .u64 a1_0, .int .u64 a1_1, .int .u64 a1_2, .int .u64 a1_3] 23 (0, 0)) (by (with_reducible repeat first | refine blk_drewN ?_ _ | refine blk_drew ?_ | refine blk_alloc ?_ _); exact B346.out)) : g346 ≠ g360))
                   have n7_ := Aside0.mk ((by rw [hg]; exact Nat.ne_of_gt (blk_lt (g := g346) (o := .cells #[.int .u64 a1_0, .int .u64 a1_1, .int .u64 a1_2, .int .u64 a1_3] 23 (0, 0)) (by (with_reducible repeat first | refine blk_drewN ?_ _ | refine blk_drew ?_ | refine blk_alloc ?_ _); exact B346.out)) : g360 ≠ g346))
                   have n8_ := Aside0.mk ((by rw [hg]; exact Nat.ne_of_lt (blk_lt (g := g351) (o := .cells #[.int .u64 t347, .int .u64 t348, .int .u64 t349, .int .u64 t350] 23 (0, 0)) (by (with_reducible repeat first | refine blk_drewN ?_ _ | refine blk_drew ?_ | refine blk_alloc ?_ _); exact B351.out)) : g351 ≠ g360))
                   have n9_ := Aside0.mk ((by rw [hg]; exact Nat.ne_of_gt (blk_lt (g := g351) (o := .cells #[.int .u64 t347, .int .u64 t348, .int .u64 t349, .int .u64 t350] 23 (0, 0)) (by (with_reducible repeat first | refine blk_drewN ?_ _ | refine blk_drew ?_ | refine blk_alloc ?_ _); exact B351.out)) : g360 ≠ g351))
                   clear B346
                   clear B351
                   clear HB
                   have B346 := n0_
                   have B351 := n1_
                   have HB := n2_
                   have B360 := n3_
                   have GW360 := n4_
                   have GE360 := n5_
                   have NB346_360 := n6_
                   have NB360_346 := n7_
                   have NB351_360 := n8_
                   have NB360_351 := n9_
                   clear n0_ n1_ n2_ n3_ n4_ n5_ n6_ n7_ n8_ n9_
                   clear hb hbox hg
                   refine hK.out _ _ ⟨bq_ B346 0, bq_ B346 1, bq_ B346 2, bq_ B346 3⟩ (fun hL => ?_)
                   clear hK K
                   refine norm_ (a' := ?_) ?_ ?_
                   rotate_left
                   ·show Act.put _ (some 7) _ = _
                    simp only [Act.put, sa_, sb_, sc_, i64_w, i32_w]
                    rfl
                   exact norm_ (by first | (simp only [putAll, Act.put, List.setIfInBounds_toArray, List.set_cons_zero, List.set_cons_succ]; done) | (simp only [putAll, Act.put, List.setIfInBounds_toArray, List.set_cons_zero, List.set_cons_succ]; rfl)) (hJ6 (g360) _ ⟨hL, (by (with_reducible repeat first | refine blk_drewN ?_ _ | refine blk_drew ?_ | refine blk_alloc ?_ _); exact B346.out), (by (with_reducible repeat first | refine blk_drewN ?_ _ | refine blk_drew ?_ | refine blk_alloc ?_ _); exact B351.out), (by (with_reducible repeat first | refine blk_drewN ?_ _ | refine blk_drew ?_ | refine blk_alloc ?_ _); exact B360.out), GW360.out, GE360.out, NB346_360.out, NB360_346.out, NB351_360.out, NB360_351.out, (by repeat (first | (with_reducible first | exact HB.out | apply below_alloc | apply pw_below_drewN | apply below_drew1 | refine below_set ?_ GE346.out | refine below_set ?_ GE351.out | refine below_set ?_ GE360.out) | exact HB.out))⟩)
                  ·skip
                   refine box_step ?hg (N := 8) ?hd (cs := #[.int .u64 0, .int .u64 0, .int .u64 0, .int .u64 0]) (t := 23) ?hr ?_; (case hd => rfl); (case hg => rfl); (case hr => first | (go_simp; done) | (go_simp; rfl))
                   intro g361 hg w27 hbox hb
                   have n0_ := Aside0.mk (blk_below (g := g346) (o := .cells #[.int .u64 a1_0, .int .u64 a1_1, .int .u64 a1_2, .int .u64 a1_3] 23 (0, 0)) (by (with_reducible repeat first | refine blk_drewN ?_ _ | refine blk_drew ?_ | refine blk_alloc ?_ _); exact B346.out) hb)
                   have n1_ := Aside0.mk (blk_below (g := g351) (o := .cells #[.int .u64 t347, .int .u64 t348, .int .u64 t349, .int .u64 t350] 23 (0, 0)) (by (with_reducible repeat first | refine blk_drewN ?_ _ | refine blk_drew ?_ | refine blk_alloc ?_ _); exact B351.out) hb)
                   have n2_ := Aside0.mk (below_step (by repeat (first | (with_reducible first | exact HB.out | apply below_alloc | apply pw_below_drewN | apply below_drew1 | refine below_set ?_ GE346.out | refine below_set ?_ GE351.out) | exact HB.out)) hb)
                   have n3_ := Aside0.mk (hbox)
                   have n4_ := Aside0.mk ((by rw [hg]; exact (below_size (by repeat (first | (with_reducible first | exact HB.out | apply below_alloc | apply pw_below_drewN | apply below_drew1 | refine below_set ?_ GE346.out | refine below_set ?_ GE351.out) | exact HB.out))) : w.heap.size ≤ g361))
                   have n5_ := Aside0.mk ((by rw [hg]; exact (below_size (by repeat (first | (with_reducible first | exact HB.out | apply below_alloc | apply pw_below_drewN | apply below_drew1 | refine below_set ?_ GE346.out | refine below_set ?_ GE351.out) | exact HB.out))) : w.heap.size ≤ g361))
                   have n6_ := Aside0.mk ((by rw [hg]; exact Nat.ne_of_lt (blk_lt (g := g346) (o := .cells #[.int .u64 a1_0, .int .u64 a1_1, .int .u64 a1_2, .int .u64 a1_3] 23 (0, 0)) (by (with_reducible repeat first | refine blk_drewN ?_ _ | refine blk_drew ?_ | refine blk_alloc ?_ _); exact B346.out)) : g346 ≠ g361))
                   have n7_ := Aside0.mk ((by rw [hg]; exact Nat.ne_of_gt (blk_lt (g := g346) (o := .cells #[.int .u64 a1_0, .int .u64 a1_1, .int .u64 a1_2, .int .u64 a1_3] 23 (0, 0)) (by (with_reducible repeat first | refine blk_drewN ?_ _ | refine blk_drew ?_ | refine blk_alloc ?_ _); exact B346.out)) : g361 ≠ g346))
                   have n8_ := Aside0.mk ((by rw [hg]; exact Nat.ne_of_lt (blk_lt (g := g351) (o := .cells #[.int .u64 t347, .int .u64 t348, .int .u64 t349, .int .u64 t350] 23 (0, 0)) (by (with_reducible repeat first | refine blk_drewN ?_ _ | refine blk_drew ?_ | refine blk_alloc ?_ _); exact B351.out)) : g351 ≠ g361))
                   have n9_ := Aside0.mk ((by rw [hg]; exact Nat.ne_of_gt (blk_lt (g := g351) (o := .cells #[.int .u64 t347, .int .u64 t348, .int .u64 t349, .int .u64 t350] 23 (0, 0)) (by (with_reducible repeat first | refine blk_drewN ?_ _ | refine blk_drew ?_ | refine blk_alloc ?_ _); exact B351.out)) : g361 ≠ g351))
                   clear B346
                   clear B351
                   clear HB
                   have B346 := n0_
                   have B351 := n1_
                   have HB := n2_
                   have B361 := n3_
                   have GW361 := n4_
                   have GE361 := n5_
                   have NB346_361 := n6_
                   have NB361_346 := n7_
                   have NB351_361 := n8_
                   have NB361_351 := n9_
                   clear n0_ n1_ n2_ n3_ n4_ n5_ n6_ n7_ n8_ n9_
                   clear hb hbox hg
                   refine hK.out _ _ ⟨bq_ B346 0, bq_ B346 1, bq_ B346 2, bq_ B346 3⟩ (fun hL => ?_)
                   clear hK K
                   refine norm_ (a' := ?_) ?_ ?_
                   rotate_left
                   ·show Act.put _ (some 8) _ = _
                    simp only [Act.put, sa_, sb_, sc_, i64_w, i32_w]
                    rfl
                   exact norm_ (by first | (simp only [putAll, Act.put, List.setIfInBounds_toArray, List.set_cons_zero, List.set_cons_succ]; done) | (simp only [putAll, Act.put, List.setIfInBounds_toArray, List.set_cons_zero, List.set_cons_succ]; rfl)) (hJ7 (g361) _ ⟨hL, (by (with_reducible repeat first | refine blk_drewN ?_ _ | refine blk_drew ?_ | refine blk_alloc ?_ _); exact B346.out), (by (with_reducible repeat first | refine blk_drewN ?_ _ | refine blk_drew ?_ | refine blk_alloc ?_ _); exact B351.out), (by (with_reducible repeat first | refine blk_drewN ?_ _ | refine blk_drew ?_ | refine blk_alloc ?_ _); exact B361.out), GW361.out, GE361.out, NB346_361.out, NB361_346.out, NB351_361.out, NB361_351.out, (by repeat (first | (with_reducible first | exact HB.out | apply below_alloc | apply pw_below_drewN | apply below_drew1 | refine below_set ?_ GE346.out | refine below_set ?_ GE351.out | refine below_set ?_ GE361.out) | exact HB.out))⟩)
                 ·skip
                  rintro g361 w28 ⟨hS_, h0_, h1_, h2_, h3_, h4_, h5_, h6_, h7_, h8_, h9_⟩
                  have n0_ : Aside0 (w28.heap[g346]? = some (.cells #[.int .u64 a1_0, .int .u64 a1_1, .int .u64 a1_2, .int .u64 a1_3] 23 (0, 0))) := ⟨h0_⟩
                  have n1_ : Aside0 (w28.heap[g351]? = some (.cells #[.int .u64 t347, .int .u64 t348, .int .u64 t349, .int .u64 t350] 23 (0, 0))) := ⟨h1_⟩
                  have n2_ : Aside0 (w28.heap[g361]? = some (.cells #[.int .u64 0, .int .u64 0, .int .u64 0, .int .u64 0] 23 (0, 0))) := ⟨h2_⟩
                  have n3_ : Aside0 (w.heap.size ≤ g361) := ⟨h3_⟩
                  have n4_ : Aside0 (w.heap.size ≤ g361) := ⟨h4_⟩
                  have n5_ : Aside0 (g346 ≠ g361) := ⟨h5_⟩
                  have n6_ : Aside0 (g361 ≠ g346) := ⟨h6_⟩
                  have n7_ : Aside0 (g351 ≠ g361) := ⟨h7_⟩
                  have n8_ : Aside0 (g361 ≠ g351) := ⟨h8_⟩
                  have n9_ : Aside0 (Below w.heap.size w w28) := ⟨h9_⟩
                  clear B346
                  clear B351
                  clear HB
                  clear h0_ h1_ h2_ h3_ h4_ h5_ h6_ h7_ h8_ h9_
                  have B346 := n0_
                  have B351 := n1_
                  have B361 := n2_
                  have GW361 := n3_
                  have GE361 := n4_
                  have NB346_361 := n5_
                  have NB361_346 := n6_
                  have NB351_361 := n7_
                  have NB361_351 := n8_
                  have HB := n9_
                  clear n0_ n1_ n2_ n3_ n4_ n5_ n6_ n7_ n8_ n9_
                  have hL : w28.cell? ⟨g346, 0, none⟩ = some (.int .u64 a1_0) ∧ w28.cell? ⟨g346, 1, none⟩ = some (.int .u64 a1_1) ∧ w28.cell? ⟨g346, 2, none⟩ = some (.int .u64 a1_2) ∧ w28.cell? ⟨g346, 3, none⟩ = some (.int .u64 a1_3) := hS_
                  refine norm_ (a' := ?_) ?_ ?_
                  rotate_left
                  ·simp only [putAll, Act.put, List.setIfInBounds_toArray, List.set_cons_zero, List.set_cons_succ]
                   rfl
                  refine two_ (i := 2) (j := 6) (Ni := some 17) (Nj := some 7) z9_11_ z9_12_ rfl rfl rfl rfl (two_of T_.out (by kernel_rfl)) (by decide) (by decide) (fun K hK => ?_) (fun K hK => ?_)
                  ·skip
                   refine goes_ Tryd.func19 (by kernel_rfl) rfl #[.int .i64 (wrap64 (Int.tmod a0 4)), .agg #[.int .u64 a1_0, .int .u64 a1_1, .int .u64 a1_2, .int .u64 a1_3]] (by rfl) rfl rfl (by (try simp only [List.map_toArray, List.map_cons, List.map_nil]); first | done | rfl) ?_
                   with_reducible refine (sponge_Perm.calls (wrap64 (Int.tmod a0 4)) a1_0 a1_1 a1_2 a1_3 t352 t353 t354 t355 _ ?side1 A4.out).mono ?_
                   (case side1 => repeat (first | exact (GL.below HRG.out HB.out) | (with_reducible refine GL.alloc ?_ _) | (with_reducible refine GL.drewN ?_ _) | (with_reducible refine GL.drew ?_)))
                   rintro e w29 ⟨rfl, hb⟩
                   refine ⟨_, rfl, ?_⟩
                   have n0_ := Aside0.mk (blk_below (g := g346) (o := .cells #[.int .u64 a1_0, .int .u64 a1_1, .int .u64 a1_2, .int .u64 a1_3] 23 (0, 0)) (by (with_reducible repeat first | refine blk_drewN ?_ _ | refine blk_drew ?_ | refine blk_alloc ?_ _); exact B346.out) hb)
                   have n1_ := Aside0.mk (blk_below (g := g351) (o := .cells #[.int .u64 t347, .int .u64 t348, .int .u64 t349, .int .u64 t350] 23 (0, 0)) (by (with_reducible repeat first | refine blk_drewN ?_ _ | refine blk_drew ?_ | refine blk_alloc ?_ _); exact B351.out) hb)
                   have n2_ := Aside0.mk (blk_below (g := g361) (o := .cells #[.int .u64 0, .int .u64 0, .int .u64 0, .int .u64 0] 23 (0, 0)) (by (with_reducible repeat first | refine blk_drewN ?_ _ | refine blk_drew ?_ | refine blk_alloc ?_ _); exact B361.out) hb)
                   have n3_ := Aside0.mk (below_step (by repeat (first | (with_reducible first | exact HB.out | apply below_alloc | apply pw_below_drewN | apply below_drew1 | refine below_set ?_ GE346.out | refine below_set ?_ GE351.out | refine below_set ?_ GE361.out) | exact HB.out)) hb)
                   clear B346
                   clear B351
                   clear B361
                   clear HB
                   have B346 := n0_
                   have B351 := n1_
                   have B361 := n2_
                   have HB := n3_
                   clear n0_ n1_ n2_ n3_
                   (try clear hb)
                   (try clear hb2)
                   (try clear hk)
                   (try clear hi)
                   refine hK.out _ _ ⟨bq_ B346 0, bq_ B346 1, bq_ B346 2, bq_ B346 3⟩ (fun hL => ?_)
                   clear hK K
                   refine norm_ (a' := ?_) ?_ ?_
                   rotate_left
                   ·show Act.put _ (some 17) _ = _
                    simp only [Act.put, sa_, sb_, sc_, i64_w, i32_w]
                    rfl
                   exact norm_ (by first | (simp only [putAll, Act.put, List.setIfInBounds_toArray, List.set_cons_zero, List.set_cons_succ]; done) | (simp only [putAll, Act.put, List.setIfInBounds_toArray, List.set_cons_zero, List.set_cons_succ]; rfl)) (hJ2_7 (g361) _ ⟨hL, (by (with_reducible repeat first | refine blk_drewN ?_ _ | refine blk_drew ?_ | refine blk_alloc ?_ _); exact B346.out), (by (with_reducible repeat first | refine blk_drewN ?_ _ | refine blk_drew ?_ | refine blk_alloc ?_ _); exact B351.out), (by (with_reducible repeat first | refine blk_drewN ?_ _ | refine blk_drew ?_ | refine blk_alloc ?_ _); exact B361.out), GW361.out, GE361.out, NB346_361.out, NB361_346.out, NB351_361.out, NB361_351.out, (by repeat (first | (with_reducible first | exact HB.out | apply below_alloc | apply pw_below_drewN | apply below_drew1 | refine below_set ?_ GE346.out | refine below_set ?_ GE351.out | refine below_set ?_ GE361.out) | exact HB.out))⟩)
                  ·skip
                   refine box_step ?hg (N := 7) ?hd (cs := #[.int .u64 0, .int .u64 0, .int .u64 0, .int .u64 0]) (t := 23) ?hr ?_; (case hd => rfl); (case hg => rfl); (case hr => first | (go_simp; done) | (go_simp; rfl))
                   intro g360 hg w29 hbox hb
                   have n0_ := Aside0.mk (blk_below (g := g346) (o := .cells #[.int .u64 a1_0, .int .u64 a1_1, .int .u64 a1_2, .int .u64 a1_3] 23 (0, 0)) (by (with_reducible repeat first | refine blk_drewN ?_ _ | refine blk_drew ?_ | refine blk_alloc ?_ _); exact B346.out) hb)
                   have n1_ := Aside0.mk (blk_below (g := g351) (o := .cells #[.int .u64 t347, .int .u64 t348, .int .u64 t349, .int .u64 t350] 23 (0, 0)) (by (with_reducible repeat first | refine blk_drewN ?_ _ | refine blk_drew ?_ | refine blk_alloc ?_ _); exact B351.out) hb)
                   have n2_ := Aside0.mk (blk_below (g := g361) (o := .cells #[.int .u64 0, .int .u64 0, .int .u64 0, .int .u64 0] 23 (0, 0)) (by (with_reducible repeat first | refine blk_drewN ?_ _ | refine blk_drew ?_ | refine blk_alloc ?_ _); exact B361.out) hb)
                   have n3_ := Aside0.mk (below_step (by repeat (first | (with_reducible first | exact HB.out | apply below_alloc | apply pw_below_drewN | apply below_drew1 | refine below_set ?_ GE346.out | refine below_set ?_ GE351.out | refine below_set ?_ GE361.out) | exact HB.out)) hb)
                   have n4_ := Aside0.mk (hbox)
                   have n5_ := Aside0.mk ((by rw [hg]; exact (below_size (by repeat (first | (with_reducible first | exact HB.out | apply below_alloc | apply pw_below_drewN | apply below_drew1 | refine below_set ?_ GE346.out | refine below_set ?_ GE351.out | refine below_set ?_ GE361.out) | exact HB.out))) : w.heap.size ≤ g360))
                   have n6_ := Aside0.mk ((by rw [hg]; exact (below_size (by repeat (first | (with_reducible first | exact HB.out | apply below_alloc | apply pw_below_drewN | apply below_drew1 | refine below_set ?_ GE346.out | refine below_set ?_ GE351.out | refine below_set ?_ GE361.out) | exact HB.out))) : w.heap.size ≤ g360))
                   have n7_ := Aside0.mk ((by rw [hg]; exact Nat.ne_of_lt (blk_lt (g := g346) (o := .cells #[.int .u64 a1_0, .int .u64 a1_1, .int .u64 a1_2, .int .u64 a1_3] 23 (0, 0)) (by (with_reducible repeat first | refine blk_drewN ?_ _ | refine blk_drew ?_ | refine blk_alloc ?_ _); exact B346.out)) : g346 ≠ g360))
                   have n8_ := Aside0.mk ((by rw [hg]; exact Nat.ne_of_gt (blk_lt (g := g346) (o := .cells #[.int .u64 a1_0, .int .u64 a1_1, .int .u64 a1_2, .int .u64 a1_3] 23 (0, 0)) (by (with_reducible repeat first | refine blk_drewN ?_ _ | refine blk_drew ?_ | refine blk_alloc ?_ _); exact B346.out)) : g360 ≠ g346))
                   have n9_ := Aside0.mk ((by rw [hg]; exact Nat.ne_of_lt (blk_lt (g := g351) (o := .cells #[.int .u64 t347, .int .u64 t348, .int .u64 t349, .int .u64 t350] 23 (0, 0)) (by (with_reducible repeat first | refine blk_drewN ?_ _ | refine blk_drew ?_ | refine blk_alloc ?_ _); exact B351.out)) : g351 ≠ g360))
                   have n10_ := Aside0.mk ((by rw [hg]; exact Nat.ne_of_gt (blk_lt (g := g351) (o := .cells #[.int .u64 t347, .int .u64 t348, .int .u64 t349, .int .u64 t350] 23 (0, 0)) (by (with_reducible repeat first | refine blk_drewN ?_ _ | refine blk_drew ?_ | refine blk_alloc ?_ _); exact B351.out)) : g360 ≠ g351))
                   have n11_ := Aside0.mk ((by rw [hg]; exact Nat.ne_of_lt (blk_lt (g := g361) (o := .cells #[.int .u64 0, .int .u64 0, .int .u64 0, .int .u64 0] 23 (0, 0)) (by (with_reducible repeat first | refine blk_drewN ?_ _ | refine blk_drew ?_ | refine blk_alloc ?_ _); exact B361.out)) : g361 ≠ g360))
                   have n12_ := Aside0.mk ((by rw [hg]; exact Nat.ne_of_gt (blk_lt (g := g361) (o := .cells #[.int .u64 0, .int .u64 0, .int .u64 0, .int .u64 0] 23 (0, 0)) (by (with_reducible repeat first | refine blk_drewN ?_ _ | refine blk_drew ?_ | refine blk_alloc ?_ _); exact B361.out)) : g360 ≠ g361))
                   clear B346
                   clear B351
                   clear B361
                   clear HB
                   have B346 := n0_
                   have B351 := n1_
                   have B361 := n2_
                   have HB := n3_
                   have B360 := n4_
                   have GW360 := n5_
                   have GE360 := n6_
                   have NB346_360 := n7_
                   have NB360_346 := n8_
                   have NB351_360 := n9_
                   have NB360_351 := n10_
                   have NB361_360 := n11_
                   have NB360_361 := n12_
                   clear n0_ n1_ n2_ n3_ n4_ n5_ n6_ n7_ n8_ n9_ n10_ n11_ n12_
                   clear hb hbox hg
                   refine hK.out _ _ ⟨bq_ B346 0, bq_ B346 1, bq_ B346 2, bq_ B346 3⟩ (fun hL => ?_)
                   clear hK K
                   refine norm_ (a' := ?_) ?_ ?_
                   rotate_left
                   ·show Act.put _ (some 7) _ = _
                    simp only [Act.put, sa_, sb_, sc_, i64_w, i32_w]
                    rfl
                   exact norm_ (by first | (simp only [putAll, Act.put, List.setIfInBounds_toArray, List.set_cons_zero, List.set_cons_succ]; done) | (simp only [putAll, Act.put, List.setIfInBounds_toArray, List.set_cons_zero, List.set_cons_succ]; rfl)) (hJ6_7 (g360, g361) _ ⟨hL, (by (with_reducible repeat first | refine blk_drewN ?_ _ | refine blk_drew ?_ | refine blk_alloc ?_ _); exact B346.out), (by (with_reducible repeat first | refine blk_drewN ?_ _ | refine blk_drew ?_ | refine blk_alloc ?_ _); exact B351.out), (by (with_reducible repeat first | refine blk_drewN ?_ _ | refine blk_drew ?_ | refine blk_alloc ?_ _); exact B360.out), (by (with_reducible repeat first | refine blk_drewN ?_ _ | refine blk_drew ?_ | refine blk_alloc ?_ _); exact B361.out), GW360.out, GE360.out, NB346_360.out, NB360_346.out, NB351_360.out, NB360_351.out, NB361_360.out, NB360_361.out, GW361.out, GE361.out, NB346_361.out, NB361_346.out, NB351_361.out, NB361_351.out, (by repeat (first | (with_reducible first | exact HB.out | apply below_alloc | apply pw_below_drewN | apply below_drew1 | refine below_set ?_ GE346.out | refine below_set ?_ GE351.out | refine below_set ?_ GE361.out | refine below_set ?_ GE360.out) | exact HB.out))⟩)
                ·skip
                 rintro g360 w28 ⟨hS_, h0_, h1_, h2_, h3_, h4_, h5_, h6_, h7_, h8_, h9_⟩
                 have n0_ : Aside0 (w28.heap[g346]? = some (.cells #[.int .u64 a1_0, .int .u64 a1_1, .int .u64 a1_2, .int .u64 a1_3] 23 (0, 0))) := ⟨h0_⟩
                 have n1_ : Aside0 (w28.heap[g351]? = some (.cells #[.int .u64 t347, .int .u64 t348, .int .u64 t349, .int .u64 t350] 23 (0, 0))) := ⟨h1_⟩
                 have n2_ : Aside0 (w28.heap[g360]? = some (.cells #[.int .u64 0, .int .u64 0, .int .u64 0, .int .u64 0] 23 (0, 0))) := ⟨h2_⟩
                 have n3_ : Aside0 (w.heap.size ≤ g360) := ⟨h3_⟩
                 have n4_ : Aside0 (w.heap.size ≤ g360) := ⟨h4_⟩
                 have n5_ : Aside0 (g346 ≠ g360) := ⟨h5_⟩
                 have n6_ : Aside0 (g360 ≠ g346) := ⟨h6_⟩
                 have n7_ : Aside0 (g351 ≠ g360) := ⟨h7_⟩
                 have n8_ : Aside0 (g360 ≠ g351) := ⟨h8_⟩
                 have n9_ : Aside0 (Below w.heap.size w w28) := ⟨h9_⟩
                 clear B346
                 clear B351
                 clear HB
                 clear h0_ h1_ h2_ h3_ h4_ h5_ h6_ h7_ h8_ h9_
                 have B346 := n0_
                 have B351 := n1_
                 have B360 := n2_
                 have GW360 := n3_
                 have GE360 := n4_
                 have NB346_360 := n5_
                 have NB360_346 := n6_
                 have NB351_360 := n7_
                 have NB360_351 := n8_
                 have HB := n9_
                 clear n0_ n1_ n2_ n3_ n4_ n5_ n6_ n7_ n8_ n9_
                 have hL : w28.cell? ⟨g346, 0, none⟩ = some (.int .u64 a1_0) ∧ w28.cell? ⟨g346, 1, none⟩ = some (.int .u64 a1_1) ∧ w28.cell? ⟨g346, 2, none⟩ = some (.int .u64 a1_2) ∧ w28.cell? ⟨g346, 3, none⟩ = some (.int .u64 a1_3) := hS_
                 refine norm_ (a' := ?_) ?_ ?_
                 rotate_left
                 ·simp only [putAll, Act.put, List.setIfInBounds_toArray, List.set_cons_zero, List.set_cons_succ]
                  rfl
                 refine two_ (i := 2) (j := 7) (Ni := some 17) (Nj := some 8) z9_10_ z9_12_ rfl rfl rfl rfl (two_of T_.out (by kernel_rfl)) (by decide) (by decide) (fun K hK => ?_) (fun K hK => ?_)
                 ·skip
                  refine goes_ Tryd.func19 (by kernel_rfl) rfl #[.int .i64 (wrap64 (Int.tmod a0 4)), .agg #[.int .u64 a1_0, .int .u64 a1_1, .int .u64 a1_2, .int .u64 a1_3]] (by rfl) rfl rfl (by (try simp only [List.map_toArray, List.map_cons, List.map_nil]); first | done | rfl) ?_
                  with_reducible refine (sponge_Perm.calls (wrap64 (Int.tmod a0 4)) a1_0 a1_1 a1_2 a1_3 t352 t353 t354 t355 _ ?side1 A4.out).mono ?_
                  (case side1 => repeat (first | exact (GL.below HRG.out HB.out) | (with_reducible refine GL.alloc ?_ _) | (with_reducible refine GL.drewN ?_ _) | (with_reducible refine GL.drew ?_)))
                  rintro e w29 ⟨rfl, hb⟩
                  refine ⟨_, rfl, ?_⟩
                  have n0_ := Aside0.mk (blk_below (g := g346) (o := .cells #[.int .u64 a1_0, .int .u64 a1_1, .int .u64 a1_2, .int .u64 a1_3] 23 (0, 0)) (by (with_reducible repeat first | refine blk_drewN ?_ _ | refine blk_drew ?_ | refine blk_alloc ?_ _); exact B346.out) hb)
                  have n1_ := Aside0.mk (blk_below (g := g351) (o := .cells #[.int .u64 t347, .int .u64 t348, .int .u64 t349, .int .u64 t350] 23 (0, 0)) (by (with_reducible repeat first | refine blk_drewN ?_ _ | refine blk_drew ?_ | refine blk_alloc ?_ _); exact B351.out) hb)
                  have n2_ := Aside0.mk (blk_below (g := g360) (o := .cells #[.int .u64 0, .int .u64 0, .int .u64 0, .int .u64 0] 23 (0, 0)) (by (with_reducible repeat first | refine blk_drewN ?_ _ | refine blk_drew ?_ | refine blk_alloc ?_ _); exact B360.out) hb)
                  have n3_ := Aside0.mk (below_step (by repeat (first | (with_reducible first | exact HB.out | apply below_alloc | apply pw_below_drewN | apply below_drew1 | refine below_set ?_ GE346.out | refine below_set ?_ GE351.out | refine below_set ?_ GE360.out) | exact HB.out)) hb)
                  clear B346
                  clear B351
                  clear B360
                  clear HB
                  have B346 := n0_
                  have B351 := n1_
                  have B360 := n2_
                  have HB := n3_
                  clear n0_ n1_ n2_ n3_
                  (try clear hb)
                  (try clear hb2)
                  (try clear hk)
                  (try clear hi)
                  refine hK.out _ _ ⟨bq_ B346 0, bq_ B346 1, bq_ B346 2, bq_ B346 3⟩ (fun hL => ?_)
                  clear hK K
                  refine norm_ (a' := ?_) ?_ ?_
                  rotate_left
                  ·show Act.put _ (some 17) _ = _
                   simp only [Act.put, sa_, sb_, sc_, i64_w, i32_w]
                   rfl
                  exact norm_ (by first | (simp only [putAll, Act.put, List.setIfInBounds_toArray, List.set_cons_zero, List.set_cons_succ]; done) | (simp only [putAll, Act.put, List.setIfInBounds_toArray, List.set_cons_zero, List.set_cons_succ]; rfl)) (hJ2_6 (g360) _ ⟨hL, (by (with_reducible repeat first | refine blk_drewN ?_ _ | refine blk_drew ?_ | refine blk_alloc ?_ _); exact B346.out), (by (with_reducible repeat first | refine blk_drewN ?_ _ | refine blk_drew ?_ | refine blk_alloc ?_ _); exact B351.out), (by (with_reducible repeat first | refine blk_drewN ?_ _ | refine blk_drew ?_ | refine blk_alloc ?_ _); exact B360.out), GW360.out, GE360.out, NB346_360.out, NB360_346.out, NB351_360.out, NB360_351.out, (by repeat (first | (with_reducible first | exact HB.out | apply below_alloc | apply pw_below_drewN | apply below_drew1 | refine below_set ?_ GE346.out | refine below_set ?_ GE351.out | refine below_set ?_ GE360.out) | exact HB.out))⟩)
                 ·skip
                  refine box_step ?hg (N := 8) ?hd (cs := #[.int .u64 0, .int .u64 0, .int .u64 0, .int .u64 0]) (t := 23) ?hr ?_; (case hd => rfl); (case hg => rfl); (case hr => first | (go_simp; done) | (go_simp; rfl))
                  intro g361 hg w29 hbox hb
                  have n0_ := Aside0.mk (blk_below (g := g346) (o := .cells #[.int .u64 a1_0, .int .u64 a1_1, .int .u64 a1_2, .int .u64 a1_3] 23 (0, 0)) (by (with_reducible repeat first | refine blk_drewN ?_ _ | refine blk_drew ?_ | refine blk_alloc ?_ _); exact B346.out) hb)
                  have n1_ := Aside0.mk (blk_below (g := g351) (o := .cells #[.int .u64 t347, .int .u64 t348, .int .u64 t349, .int .u64 t350] 23 (0, 0)) (by (with_reducible repeat first | refine blk_drewN ?_ _ | refine blk_drew ?_ | refine blk_alloc ?_ _); exact B351.out) hb)
                  have n2_ := Aside0.mk (blk_below (g := g360) (o := .cells #[.int .u64 0, .int .u64 0, .int .u64 0, .int .u64 0] 23 (0, 0)) (by (with_reducible repeat first | refine blk_drewN ?_ _ | refine blk_drew ?_ | refine blk_alloc ?_ _); exact B360.out) hb)
                  have n3_ := Aside0.mk (below_step (by repeat (first | (with_reducible first | exact HB.out | apply below_alloc | apply pw_below_drewN | apply below_drew1 | refine below_set ?_ GE346.out | refine below_set ?_ GE351.out | refine below_set ?_ GE360.out) | exact HB.out)) hb)
                  have n4_ := Aside0.mk (hbox)
                  have n5_ := Aside0.mk ((by rw [hg]; exact (below_size (by repeat (first | (with_reducible first | exact HB.out | apply below_alloc | apply pw_below_drewN | apply below_drew1 | refine below_set ?_ GE346.out | refine below_set ?_ GE351.out | refine below_set ?_ GE360.out) | exact HB.out))) : w.heap.size ≤ g361))
                  have n6_ := Aside0.mk ((by rw [hg]; exact (below_size (by repeat (first | (with_reducible first | exact HB.out | apply below_alloc | apply pw_below_drewN | apply below_drew1 | refine below_set ?_ GE346.out | refine below_set ?_ GE351.out | refine below_set ?_ GE360.out) | exact HB.out))) : w.heap.size ≤ g361))
                  have n7_ := Aside0.mk ((by rw [hg]; exact Nat.ne_of_lt (blk_lt (g := g346) (o := .cells #[.int .u64 a1_0, .int .u64 a1_1, .int .u64 a1_2, .int .u64 a1_3] 23 (0, 0)) (by (with_reducible repeat first | refine blk_drewN ?_ _ | refine blk_drew ?_ | refine blk_alloc ?_ _); exact B346.out)) : g346 ≠ g361))
                  have n8_ := Aside0.mk ((by rw [hg]; exact Nat.ne_of_gt (blk_lt (g := g346) (o := .cells #[.int .u64 a1_0, .int .u64 a1_1, .int .u64 a1_2, .int .u64 a1_3] 23 (0, 0)) (by (with_reducible repeat first | refine blk_drewN ?_ _ | refine blk_drew ?_ | refine blk_alloc ?_ _); exact B346.out)) : g361 ≠ g346))
                  have n9_ := Aside0.mk ((by rw [hg]; exact Nat.ne_of_lt (blk_lt (g := g351) (o := .cells #[.int .u64 t347, .int .u64 t348, .int .u64 t349, .int .u64 t350] 23 (0, 0)) (by (with_reducible repeat first | refine blk_drewN ?_ _ | refine blk_drew ?_ | refine blk_alloc ?_ _); exact B351.out)) : g351 ≠ g361))
                  have n10_ := Aside0.mk ((by rw [hg]; exact Nat.ne_of_gt (blk_lt (g := g351) (o := .cells #[.int .u64 t347, .int .u64 t348, .int .u64 t349, .int .u64 t350] 23 (0, 0)) (by (with_reducible repeat first | refine blk_drewN ?_ _ | refine blk_drew ?_ | refine blk_alloc ?_ _); exact B351.out)) : g361 ≠ g351))
                  have n11_ := Aside0.mk ((by rw [hg]; exact Nat.ne_of_lt (blk_lt (g := g360) (o := .cells #[.int .u64 0, .int .u64 0, .int .u64 0, .int .u64 0] 23 (0, 0)) (by (with_reducible repeat first | refine blk_drewN ?_ _ | refine blk_drew ?_ | refine blk_alloc ?_ _); exact B360.out)) : g360 ≠ g361))
                  have n12_ := Aside0.mk ((by rw [hg]; exact Nat.ne_of_gt (blk_lt (g := g360) (o := .cells #[.int .u64 0, .int .u64 0, .int .u64 0, .int .u64 0] 23 (0, 0)) (by (with_reducible repeat first | refine blk_drewN ?_ _ | refine blk_drew ?_ | refine blk_alloc ?_ _); exact B360.out)) : g361 ≠ g360))
                  clear B346
                  clear B351
                  clear B360
                  clear HB
                  have B346 := n0_
                  have B351 := n1_
                  have B360 := n2_
                  have HB := n3_
                  have B361 := n4_
                  have GW361 := n5_
                  have GE361 := n6_
                  have NB346_361 := n7_
                  have NB361_346 := n8_
                  have NB351_361 := n9_
                  have NB361_351 := n10_
                  have NB360_361 := n11_
                  have NB361_360 := n12_
                  clear n0_ n1_ n2_ n3_ n4_ n5_ n6_ n7_ n8_ n9_ n10_ n11_ n12_
                  clear hb hbox hg
                  refine hK.out _ _ ⟨bq_ B346 0, bq_ B346 1, bq_ B346 2, bq_ B346 3⟩ (fun hL => ?_)
                  clear hK K
                  refine norm_ (a' := ?_) ?_ ?_
                  rotate_left
                  ·show Act.put _ (some 8) _ = _
                   simp only [Act.put, sa_, sb_, sc_, i64_w, i32_w]
                   rfl
                  exact norm_ (by first | (simp only [putAll, Act.put, List.setIfInBounds_toArray, List.set_cons_zero, List.set_cons_succ]; done) | (simp only [putAll, Act.put, List.setIfInBounds_toArray, List.set_cons_zero, List.set_cons_succ]; rfl)) (hJ6_7 (g360, g361) _ ⟨hL, (by (with_reducible repeat first | refine blk_drewN ?_ _ | refine blk_drew ?_ | refine blk_alloc ?_ _); exact B346.out), (by (with_reducible repeat first | refine blk_drewN ?_ _ | refine blk_drew ?_ | refine blk_alloc ?_ _); exact B351.out), (by (with_reducible repeat first | refine blk_drewN ?_ _ | refine blk_drew ?_ | refine blk_alloc ?_ _); exact B360.out), (by (with_reducible repeat first | refine blk_drewN ?_ _ | refine blk_drew ?_ | refine blk_alloc ?_ _); exact B361.out), GW360.out, GE360.out, NB346_360.out, NB360_346.out, NB351_360.out, NB360_351.out, NB361_360.out, NB360_361.out, GW361.out, GE361.out, NB346_361.out, NB361_346.out, NB351_361.out, NB361_351.out, (by repeat (first | (with_reducible first | exact HB.out | apply below_alloc | apply pw_below_drewN | apply below_drew1 | refine below_set ?_ GE346.out | refine below_set ?_ GE351.out | refine below_set ?_ GE360.out | refine below_set ?_ GE361.out) | exact HB.out))⟩)
               ·skip
                rintro _ w28 ⟨hS_, h0_, h1_, h2_⟩
                have n0_ : Aside0 (w28.heap[g346]? = some (.cells #[.int .u64 a1_0, .int .u64 a1_1, .int .u64 a1_2, .int .u64 a1_3] 23 (0, 0))) := ⟨h0_⟩
                have n1_ : Aside0 (w28.heap[g351]? = some (.cells #[.int .u64 t347, .int .u64 t348, .int .u64 t349, .int .u64 t350] 23 (0, 0))) := ⟨h1_⟩
                have n2_ : Aside0 (Below w.heap.size w w28) := ⟨h2_⟩
                clear B346
                clear B351
                clear HB
                clear h0_ h1_ h2_
                have B346 := n0_
                have B351 := n1_
                have HB := n2_
                clear n0_ n1_ n2_
                have hL : w28.cell? ⟨g346, 0, none⟩ = some (.int .u64 a1_0) ∧ w28.cell? ⟨g346, 1, none⟩ = some (.int .u64 a1_1) ∧ w28.cell? ⟨g346, 2, none⟩ = some (.int .u64 a1_2) ∧ w28.cell? ⟨g346, 3, none⟩ = some (.int .u64 a1_3) := hS_
                refine norm_ (a' := ?_) ?_ ?_
                rotate_left
                ·simp only [putAll, Act.put, List.setIfInBounds_toArray, List.set_cons_zero, List.set_cons_succ]
                 rfl
                refine three_ (i := 5) (j := 6) (k := 7) (Ni := some 20) (Nj := some 7) (Nk := some 8) z9_9_ z9_10_ z9_11_ rfl rfl rfl rfl rfl rfl (three_of T_.out (by kernel_rfl)) (by decide) (by decide) (by decide) (fun K hK => ?_) (fun K hK => ?_) (fun K hK => ?_)
                ·skip
                 refine goes_ Tryd.func25 (by kernel_rfl) rfl #[.int .i64 (wrap64 (Int.tmod a0 4)), .agg #[.int .u64 a1_0, .int .u64 a1_1, .int .u64 a1_2, .int .u64 a1_3]] (by rfl) rfl rfl (by (try simp only [List.map_toArray, List.map_cons, List.map_nil]); first | done | rfl) ?_
                 with_reducible refine (sponge_Inverse.calls k (wrap64 (Int.tmod a0 4)) a1_0 a1_1 a1_2 a1_3 t356 t357 t358 t359 _ ?side1 A5.out).mono ?_
                 (case side1 => repeat (first | exact (GL.below HRG.out HB.out) | (with_reducible refine GL.alloc ?_ _) | (with_reducible refine GL.drewN ?_ _) | (with_reducible refine GL.drew ?_)))
                 rintro e w29 ⟨rfl, hb⟩
                 refine ⟨_, rfl, ?_⟩
                 have n0_ := Aside0.mk (blk_below (g := g346) (o := .cells #[.int .u64 a1_0, .int .u64 a1_1, .int .u64 a1_2, .int .u64 a1_3] 23 (0, 0)) (by (with_reducible repeat first | refine blk_drewN ?_ _ | refine blk_drew ?_ | refine blk_alloc ?_ _); exact B346.out) hb)
                 have n1_ := Aside0.mk (blk_below (g := g351) (o := .cells #[.int .u64 t347, .int .u64 t348, .int .u64 t349, .int .u64 t350] 23 (0, 0)) (by (with_reducible repeat first | refine blk_drewN ?_ _ | refine blk_drew ?_ | refine blk_alloc ?_ _); exact B351.out) hb)
                 have n2_ := Aside0.mk (below_step (by repeat (first | (with_reducible first | exact HB.out | apply below_alloc | apply pw_below_drewN | apply below_drew1 | refine below_set ?_ GE346.out | refine below_set ?_ GE351.out) | exact HB.out)) hb)
                 clear B346
                 clear B351
                 clear HB
                 have B346 := n0_
                 have B351 := n1_
                 have HB := n2_
                 clear n0_ n1_ n2_
                 (try clear hb)
                 (try clear hb2)
                 (try clear hk)
                 (try clear hi)
                 refine hK.out _ _ ⟨bq_ B346 0, bq_ B346 1, bq_ B346 2, bq_ B346 3⟩ (fun hL => ?_)
                 clear hK K
                 refine norm_ (a' := ?_) ?_ ?_
                 rotate_left
                 ·show Act.put _ (some 20) _ = _
                  simp only [Act.put, sa_, sb_, sc_, i64_w, i32_w]
                  rfl
                 exact norm_ (by first | (simp only [putAll, Act.put, List.setIfInBounds_toArray, List.set_cons_zero, List.set_cons_succ]; done) | (simp only [putAll, Act.put, List.setIfInBounds_toArray, List.set_cons_zero, List.set_cons_succ]; rfl)) (hJ2_5 () _ ⟨hL, (by (with_reducible repeat first | refine blk_drewN ?_ _ | refine blk_drew ?_ | refine blk_alloc ?_ _); exact B346.out), (by (with_reducible repeat first | refine blk_drewN ?_ _ | refine blk_drew ?_ | refine blk_alloc ?_ _); exact B351.out), (by repeat (first | (with_reducible first | exact HB.out | apply below_alloc | apply pw_below_drewN | apply below_drew1 | refine below_set ?_ GE346.out | refine below_set ?_ GE351.out) | exact HB.out))⟩)
                ·skip
                 refine box_step ?hg (N := 7) ?hd (cs := #[.int .u64 0, .int .u64 0, .int .u64 0, .int .u64 0]) (t := 23) ?hr ?_; (case hd => rfl); (case hg => rfl); (case hr => first | (go_simp; done) | (go_simp; rfl))
                 intro g360 hg w29 hbox hb
                 have n0_ := Aside0.mk (blk_below (g := g346) (o := .cells #[.int .u64 a1_0, .int .u64 a1_1, .int .u64 a1_2, .int .u64 a1_3] 23 (0, 0)) (by (with_reducible repeat first | refine blk_drewN ?_ _ | refine blk_drew ?_ | refine blk_alloc ?_ _); exact B346.out) hb)
                 have n1_ := Aside0.mk (blk_below (g := g351) (o := .cells #[.int .u64 t347, .int .u64 t348, .int .u64 t349, .int .u64 t350] 23 (0, 0)) (by (with_reducible repeat first | refine blk_drewN ?_ _ | refine blk_drew ?_ | refine blk_alloc ?_ _); exact B351.out) hb)
                 have n2_ := Aside0.mk (below_step (by repeat (first | (with_reducible first | exact HB.out | apply below_alloc | apply pw_below_drewN | apply below_drew1 | refine below_set ?_ GE346.out | refine below_set ?_ GE351.out) | exact HB.out)) hb)
                 have n3_ := Aside0.mk (hbox)
                 have n4_ := Aside0.mk ((by rw [hg]; exact (below_size (by repeat (first | (with_reducible first | exact HB.out | apply below_alloc | apply pw_below_drewN | apply below_drew1 | refine below_set ?_ GE346.out | refine below_set ?_ GE351.out) | exact HB.out))) : w.heap.size ≤ g360))
                 have n5_ := Aside0.mk ((by rw [hg]; exact (below_size (by repeat (first | (with_reducible first | exact HB.out | apply below_alloc | apply pw_below_drewN | apply below_drew1 | refine below_set ?_ GE346.out | refine below_set ?_ GE351.out) | exact HB.out))) : w.heap.size ≤ g360))
                 have n6_ := Aside0.mk ((by rw [hg]; exact Nat.ne_of_lt (blk_lt (g := g346) (o := .cells #[.int .u64 a1_0, .int .u64 a1_1, .int .u64 a1_2, .int .u64 a1_3] 23 (0, 0)) (by (with_reducible repeat first | refine blk_drewN ?_ _ | refine blk_drew ?_ | refine blk_alloc ?_ _); exact B346.out)) : g346 ≠ g360))
                 have n7_ := Aside0.mk ((by rw [hg]; exact Nat.ne_of_gt (blk_lt (g := g346) (o := .cells #[.int .u64 a1_0, .int .u64 a1_1, .int .u64 a1_2, .int .u64 a1_3] 23 (0, 0)) (by (with_reducible repeat first | refine blk_drewN ?_ _ | refine blk_drew ?_ | refine blk_alloc ?_ _); exact B346.out)) : g360 ≠ g346))
                 have n8_ := Aside0.mk ((by rw [hg]; exact Nat.ne_of_lt (blk_lt (g := g351) (o := .cells #[.int .u64 t347, .int .u64 t348, .int .u64 t349, .int .u64 t350] 23 (0, 0)) (by (with_reducible repeat first | refine blk_drewN ?_ _ | refine blk_drew ?_ | refine blk_alloc ?_ _); exact B351.out)) : g351 ≠ g360))
                 have n9_ := Aside0.mk ((by rw [hg]; exact Nat.ne_of_gt (blk_lt (g := g351) (o := .cells #[.int .u64 t347, .int .u64 t348, .int .u64 t349, .int .u64 t350] 23 (0, 0)) (by (with_reducible repeat first | refine blk_drewN ?_ _ | refine blk_drew ?_ | refine blk_alloc ?_ _); exact B351.out)) : g360 ≠ g351))
                 clear B346
                 clear B351
                 clear HB
                 have B346 := n0_
                 have B351 := n1_
                 have HB := n2_
                 have B360 := n3_
                 have GW360 := n4_
                 have GE360 := n5_
                 have NB346_360 := n6_
                 have NB360_346 := n7_
                 have NB351_360 := n8_
                 have NB360_351 := n9_
                 clear n0_ n1_ n2_ n3_ n4_ n5_ n6_ n7_ n8_ n9_
                 clear hb hbox hg
                 refine hK.out _ _ ⟨bq_ B346 0, bq_ B346 1, bq_ B346 2, bq_ B346 3⟩ (fun hL => ?_)
                 clear hK K
                 refine norm_ (a' := ?_) ?_ ?_
                 rotate_left
                 ·show Act.put _ (some 7) _ = _
                  simp only [Act.put, sa_, sb_, sc_, i64_w, i32_w]
                  rfl
                 exact norm_ (by first | (simp only [putAll, Act.put, List.setIfInBounds_toArray, List.set_cons_zero, List.set_cons_succ]; done) | (simp only [putAll, Act.put, List.setIfInBounds_toArray, List.set_cons_zero, List.set_cons_succ]; rfl)) (hJ2_6 (g360) _ ⟨hL, (by (with_reducible repeat first | refine blk_drewN ?_ _ | refine blk_drew ?_ | refine blk_alloc ?_ _); exact B346.out), (by (with_reducible repeat first | refine blk_drewN ?_ _ | refine blk_drew ?_ | refine blk_alloc ?_ _); exact B351.out), (by (with_reducible repeat first | refine blk_drewN ?_ _ | refine blk_drew ?_ | refine blk_alloc ?_ _); exact B360.out), GW360.out, GE360.out, NB346_360.out, NB360_346.out, NB351_360.out, NB360_351.out, (by repeat (first | (with_reducible first | exact HB.out | apply below_alloc | apply pw_below_drewN | apply below_drew1 | refine below_set ?_ GE346.out | refine below_set ?_ GE351.out | refine below_set ?_ GE360.out) | exact HB.out))⟩)
                ·skip
                 refine box_step ?hg (N := 8) ?hd (cs := #[.int .u64 0, .int .u64 0, .int .u64 0, .int .u64 0]) (t := 23) ?hr ?_; (case hd => rfl); (case hg => rfl); (case hr => first | (go_simp; done) | (go_simp; rfl))
                 intro g361 hg w29 hbox hb
                 have n0_ := Aside0.mk (blk_below (g := g346) (o := .cells #[.int .u64 a1_0, .int .u64 a1_1, .int .u64 a1_2, .int .u64 a1_3] 23 (0, 0)) (by (with_reducible repeat first | refine blk_drewN ?_ _ | refine blk_drew ?_ | refine blk_alloc ?_ _); exact B346.out) hb)
                 have n1_ := Aside0.mk (blk_below (g := g351) (o := .cells #[.int .u64 t347, .int .u64 t348, .int .u64 t349, .int .u64 t350] 23 (0, 0)) (by (with_reducible repeat first | refine blk_drewN ?_ _ | refine blk_drew ?_ | refine blk_alloc ?_ _); exact B351.out) hb)
                 have n2_ := Aside0.mk (below_step (by repeat (first | (with_reducible first | exact HB.out | apply below_alloc | apply pw_below_drewN | apply below_drew1 | refine below_set ?_ GE346.out | refine below_set ?_ GE351.out) | exact HB.out)) hb)
                 have n3_ := Aside0.mk (hbox)
                 have n4_ := Aside0.mk ((by rw [hg]; exact (below_size (by repeat (first | (with_reducible first | exact HB.out | apply below_alloc | apply pw_below_drewN | apply below_drew1 | refine below_set ?_ GE346.out | refine below_set ?_ GE351.out) | exact HB.out))) : w.heap.size ≤ g361))
                 have n5_ := Aside0.mk ((by rw [hg]; exact (below_size (by repeat (first | (with_reducible first | exact HB.out | apply below_alloc | apply pw_below_drewN | apply below_drew1 | refine below_set ?_ GE346.out | refine below_set ?_ GE351.out) | exact HB.out))) : w.heap.size ≤ g361))
                 have n6_ := Aside0.mk ((by rw [hg]; exact Nat.ne_of_lt (blk_lt (g := g346) (o := .cells #[.int .u64 a1_0, .int .u64 a1_1, .int .u64 a1_2, .int .u64 a1_3] 23 (0, 0)) (by (with_reducible repeat first | refine blk_drewN ?_ _ | refine blk_drew ?_ | refine blk_alloc ?_ _); exact B346.out)) : g346 ≠ g361))
                 have n7_ := Aside0.mk ((by rw [hg]; exact Nat.ne_of_gt (blk_lt (g := g346) (o := .cells #[.int .u64 a1_0, .int .u64 a1_1, .int .u64 a1_2, .int .u64 a1_3] 23 (0, 0)) (by (with_reducible repeat first | refine blk_drewN ?_ _ | refine blk_drew ?_ | refine blk_alloc ?_ _); exact B346.out)) : g361 ≠ g346))
                 have n8_ := Aside0.mk ((by rw [hg]; exact Nat.ne_of_lt (blk_lt (g := g351) (o := .cells #[.int .u64 t347, .int .u64 t348, .int .u64 t349, .int .u64 t350] 23 (0, 0)) (by (with_reducible repeat first | refine blk_drewN ?_ _ | refine blk_drew ?_ | refine blk_alloc ?_ _); exact B351.out)) : g351 ≠ g361))
                 have n9_ := Aside0.mk ((by rw [hg]; exact Nat.ne_of_gt (blk_lt (g := g351) (o := .cells #[.int .u64 t347, .int .u64 t348, .int .u64 t349, .int .u64 t350] 23 (0, 0)) (by (with_reducible repeat first | refine blk_drewN ?_ _ | refine blk_drew ?_ | refine blk_alloc ?_ _); exact B351.out)) : g361 ≠ g351))
                 clear B346
                 clear B351
                 clear HB
                 have B346 := n0_
                 have B351 := n1_
                 have HB := n2_
                 have B361 := n3_
                 have GW361 := n4_
                 have GE361 := n5_
                 have NB346_361 := n6_
                 have NB361_346 := n7_
                 have NB351_361 := n8_
                 have NB361_351 := n9_
                 clear n0_ n1_ n2_ n3_ n4_ n5_ n6_ n7_ n8_ n9_
                 clear hb hbox hg
                 refine hK.out _ _ ⟨bq_ B346 0, bq_ B346 1, bq_ B346 2, bq_ B346 3⟩ (fun hL => ?_)
                 clear hK K
                 refine norm_ (a' := ?_) ?_ ?_
                 rotate_left
                 ·show Act.put _ (some 8) _ = _
                  simp only [Act.put, sa_, sb_, sc_, i64_w, i32_w]
                  rfl
                 exact norm_ (by first | (simp only [putAll, Act.put, List.setIfInBounds_toArray, List.set_cons_zero, List.set_cons_succ]; done) | (simp only [putAll, Act.put, List.setIfInBounds_toArray, List.set_cons_zero, List.set_cons_succ]; rfl)) (hJ2_7 (g361) _ ⟨hL, (by (with_reducible repeat first | refine blk_drewN ?_ _ | refine blk_drew ?_ | refine blk_alloc ?_ _); exact B346.out), (by (with_reducible repeat first | refine blk_drewN ?_ _ | refine blk_drew ?_ | refine blk_alloc ?_ _); exact B351.out), (by (with_reducible repeat first | refine blk_drewN ?_ _ | refine blk_drew ?_ | refine blk_alloc ?_ _); exact B361.out), GW361.out, GE361.out, NB346_361.out, NB361_346.out, NB351_361.out, NB361_351.out, (by repeat (first | (with_reducible first | exact HB.out | apply below_alloc | apply pw_below_drewN | apply below_drew1 | refine below_set ?_ GE346.out | refine below_set ?_ GE351.out | refine below_set ?_ GE361.out) | exact HB.out))⟩)
              ·skip
               rintro ⟨g360, g361⟩ w29 ⟨hS_, h0_, h1_, h2_, h3_, h4_, h5_, h6_, h7_, h8_, h9_, h10_, h11_, h12_, h13_, h14_, h15_, h16_, h17_, h18_⟩
               have n0_ : Aside0 (w29.heap[g346]? = some (.cells #[.int .u64 a1_0, .int .u64 a1_1, .int .u64 a1_2, .int .u64 a1_3] 23 (0, 0))) := ⟨h0_⟩
               have n1_ : Aside0 (w29.heap[g351]? = some (.cells #[.int .u64 t347, .int .u64 t348, .int .u64 t349, .int .u64 t350] 23 (0, 0))) := ⟨h1_⟩
               have n2_ : Aside0 (w29.heap[g360]? = some (.cells #[.int .u64 0, .int .u64 0, .int .u64 0, .int .u64 0] 23 (0, 0))) := ⟨h2_⟩
               have n3_ : Aside0 (w29.heap[g361]? = some (.cells #[.int .u64 0, .int .u64 0, .int .u64 0, .int .u64 0] 23 (0, 0))) := ⟨h3_⟩
               have n4_ : Aside0 (w.heap.size ≤ g360) := ⟨h4_⟩
               have n5_ : Aside0 (w.heap.size ≤ g360) := ⟨h5_⟩
               have n6_ : Aside0 (g346 ≠ g360) := ⟨h6_⟩
               have n7_ : Aside0 (g360 ≠ g346) := ⟨h7_⟩
               have n8_ : Aside0 (g351 ≠ g360) := ⟨h8_⟩
               have n9_ : Aside0 (g360 ≠ g351) := ⟨h9_⟩
               have n10_ : Aside0 (g361 ≠ g360) := ⟨h10_⟩
               have n11_ : Aside0 (g360 ≠ g361) := ⟨h11_⟩
               have n12_ : Aside0 (w.heap.size ≤ g361) := ⟨h12_⟩
               have n13_ : Aside0 (w.heap.size ≤ g361) := ⟨h13_⟩
               have n14_ : Aside0 (g346 ≠ g361) := ⟨h14_⟩
               have n15_ : Aside0 (g361 ≠ g346) := ⟨h15_⟩
               have n16_ : Aside0 (g351 ≠ g361) := ⟨h16_⟩
               have n17_ : Aside0 (g361 ≠ g351) := ⟨h17_⟩
               have n18_ : Aside0 (Below w.heap.size w w29) := ⟨h18_⟩
               clear B346
               clear B351
               clear HB
               clear h0_ h1_ h2_ h3_ h4_ h5_ h6_ h7_ h8_ h9_ h10_ h11_ h12_ h13_ h14_ h15_ h16_ h17_ h18_
               have B346 := n0_
               have B351 := n1_
               have B360 := n2_
               have B361 := n3_
               have GW360 := n4_
               have GE360 := n5_
               have NB346_360 := n6_
               have NB360_346 := n7_
               have NB351_360 := n8_
               have NB360_351 := n9_
               have NB361_360 := n10_
               have NB360_361 := n11_
               have GW361 := n12_
               have GE361 := n13_
               have NB346_361 := n14_
               have NB361_346 := n15_
               have NB351_361 := n16_
               have NB361_351 := n17_
               have HB := n18_
               clear n0_ n1_ n2_ n3_ n4_ n5_ n6_ n7_ n8_ n9_ n10_ n11_ n12_ n13_ n14_ n15_ n16_ n17_ n18_
               have hL : w29.cell? ⟨g346, 0, none⟩ = some (.int .u64 a1_0) ∧ w29.cell? ⟨g346, 1, none⟩ = some (.int .u64 a1_1) ∧ w29.cell? ⟨g346, 2, none⟩ = some (.int .u64 a1_2) ∧ w29.cell? ⟨g346, 3, none⟩ = some (.int .u64 a1_3) := hS_
               refine norm_ (a' := ?_) ?_ ?_
               rotate_left
               ·simp only [putAll, Act.put, List.setIfInBounds_toArray, List.set_cons_zero, List.set_cons_succ]
                rfl
               refine one_ (i := 2) (N := some 17) z9_8_ rfl rfl (on_ T_) (by decide) (fun K hK => ?_)
               refine goes_ Tryd.func19 (by kernel_rfl) rfl #[.int .i64 (wrap64 (Int.tmod a0 4)), .agg #[.int .u64 a1_0, .int .u64 a1_1, .int .u64 a1_2, .int .u64 a1_3]] (by rfl) rfl rfl (by (try simp only [List.map_toArray, List.map_cons, List.map_nil]); first | done | rfl) ?_
               with_reducible refine (sponge_Perm.calls (wrap64 (Int.tmod a0 4)) a1_0 a1_1 a1_2 a1_3 t352 t353 t354 t355 _ ?side1 A4.out).mono ?_
               (case side1 => repeat (first | exact (GL.below HRG.out HB.out) | (with_reducible refine GL.alloc ?_ _) | (with_reducible refine GL.drewN ?_ _) | (with_reducible refine GL.drew ?_)))
               rintro e w30 ⟨rfl, hb⟩
               refine ⟨_, rfl, ?_⟩
               have n0_ := Aside0.mk (blk_below (g := g346) (o := .cells #[.int .u64 a1_0, .int .u64 a1_1, .int .u64 a1_2, .int .u64 a1_3] 23 (0, 0)) (by (with_reducible repeat first | refine blk_drewN ?_ _ | refine blk_drew ?_ | refine blk_alloc ?_ _); exact B346.out) hb)
               have n1_ := Aside0.mk (blk_below (g := g351) (o := .cells #[.int .u64 t347, .int .u64 t348, .int .u64 t349, .int .u64 t350] 23 (0, 0)) (by (with_reducible repeat first | refine blk_drewN ?_ _ | refine blk_drew ?_ | refine blk_alloc ?_ _); exact B351.out) hb)
               have n2_ := Aside0.mk (blk_below (g := g360) (o := .cells #[.int .u64 0, .int .u64 0, .int .u64 0, .int .u64 0] 23 (0, 0)) (by (with_reducible repeat first | refine blk_drewN ?_ _ | refine blk_drew ?_ | refine blk_alloc ?_ _); exact B360.out) hb)
               have n3_ := Aside0.mk (blk_below (g := g361) (o := .cells #[.int .u64 0, .int .u64 0, .int .u64 0, .int .u64 0] 23 (0, 0)) (by (with_reducible repeat first | refine blk_drewN ?_ _ | refine blk_drew ?_ | refine blk_alloc ?_ _); exact B361.out) hb)
               have n4_ := Aside0.mk (below_step (by repeat (first | (with_reducible first | exact HB.out | apply below_alloc | apply pw_below_drewN | apply below_drew1 | refine below_set ?_ GE346.out | refine below_set ?_ GE351.out | refine below_set ?_ GE360.out | refine below_set ?_ GE361.out) | exact HB.out)) hb)
               clear B346
               clear B351
               clear B360
               clear B361
               clear HB
               have B346 := n0_
               have B351 := n1_
               have B360 := n2_
               have B361 := n3_
               have HB := n4_
               clear n0_ n1_ n2_ n3_ n4_
               (try clear hb)
               (try clear hb2)
               (try clear hk)
               (try clear hi)
               refine hK.out _ _ ⟨bq_ B346 0, bq_ B346 1, bq_ B346 2, bq_ B346 3⟩ (fun hL => ?_)
               clear hK K
               refine norm_ (a' := ?_) ?_ ?_
               rotate_left
               ·show Act.put _ (some 17) _ = _
                simp only [Act.put, sa_, sb_, sc_, i64_w, i32_w]
                rfl
               exact norm_ (by first | (simp only [putAll, Act.put, List.setIfInBounds_toArray, List.set_cons_zero, List.set_cons_succ]; done) | (simp only [putAll, Act.put, List.setIfInBounds_toArray, List.set_cons_zero, List.set_cons_succ]; rfl)) (hJ2_6_7 (g360, g361) _ ⟨hL, (by (with_reducible repeat first | refine blk_drewN ?_ _ | refine blk_drew ?_ | refine blk_alloc ?_ _); exact B346.out), (by (with_reducible repeat first | refine blk_drewN ?_ _ | refine blk_drew ?_ | refine blk_alloc ?_ _); exact B351.out), (by (with_reducible repeat first | refine blk_drewN ?_ _ | refine blk_drew ?_ | refine blk_alloc ?_ _); exact B360.out), (by (with_reducible repeat first | refine blk_drewN ?_ _ | refine blk_drew ?_ | refine blk_alloc ?_ _); exact B361.out), GW360.out, GE360.out, NB346_360.out, NB360_346.out, NB351_360.out, NB360_351.out, NB361_360.out, NB360_361.out, GW361.out, GE361.out, NB346_361.out, NB361_346.out, NB351_361.out, NB361_351.out, (by repeat (first | (with_reducible first | exact HB.out | apply below_alloc | apply pw_below_drewN | apply below_drew1 | refine below_set ?_ GE346.out | refine below_set ?_ GE351.out | refine below_set ?_ GE360.out | refine below_set ?_ GE361.out) | exact HB.out))⟩)
             ·skip
              rintro g361 w29 ⟨hS_, h0_, h1_, h2_, h3_, h4_, h5_, h6_, h7_, h8_, h9_⟩
              have n0_ : Aside0 (w29.heap[g346]? = some (.cells #[.int .u64 a1_0, .int .u64 a1_1, .int .u64 a1_2, .int .u64 a1_3] 23 (0, 0))) := ⟨h0_⟩
              have n1_ : Aside0 (w29.heap[g351]? = some (.cells #[.int .u64 t347, .int .u64 t348, .int .u64 t349, .int .u64 t350] 23 (0, 0))) := ⟨h1_⟩
              have n2_ : Aside0 (w29.heap[g361]? = some (.cells #[.int .u64 0, .int .u64 0, .int .u64 0, .int .u64 0] 23 (0, 0))) := ⟨h2_⟩
              have n3_ : Aside0 (w.heap.size ≤ g361) := ⟨h3_⟩
              have n4_ : Aside0 (w.heap.size ≤ g361) := ⟨h4_⟩
              have n5_ : Aside0 (g346 ≠ g361) := ⟨h5_⟩
              have n6_ : Aside0 (g361 ≠ g346) := ⟨h6_⟩
              have n7_ : Aside0 (g351 ≠ g361) := ⟨h7_⟩
              have n8_ : Aside0 (g361 ≠ g351) := ⟨h8_⟩
              have n9_ : Aside0 (Below w.heap.size w w29) := ⟨h9_⟩
              clear B346
              clear B351
              clear HB
              clear h0_ h1_ h2_ h3_ h4_ h5_ h6_ h7_ h8_ h9_
              have B346 := n0_
              have B351 := n1_
              have B361 := n2_
              have GW361 := n3_
              have GE361 := n4_
              have NB346_361 := n5_
              have NB361_346 := n6_
              have NB351_361 := n7_
              have NB361_351 := n8_
              have HB := n9_
              clear n0_ n1_ n2_ n3_ n4_ n5_ n6_ n7_ n8_ n9_
              have hL : w29.cell? ⟨g346, 0, none⟩ = some (.int .u64 a1_0) ∧ w29.cell? ⟨g346, 1, none⟩ = some (.int .u64 a1_1) ∧ w29.cell? ⟨g346, 2, none⟩ = some (.int .u64 a1_2) ∧ w29.cell? ⟨g346, 3, none⟩ = some (.int .u64 a1_3) := hS_
              refine norm_ (a' := ?_) ?_ ?_
              rotate_left
              ·simp only [putAll, Act.put, List.setIfInBounds_toArray, List.set_cons_zero, List.set_cons_succ]
               rfl
              refine two_ (i := 5) (j := 6) (Ni := some 20) (Nj := some 7) z9_7_ z9_8_ rfl rfl rfl rfl (two_of T_.out (by kernel_rfl)) (by decide) (by decide) (fun K hK => ?_) (fun K hK => ?_)
              ·skip
               refine goes_ Tryd.func25 (by kernel_rfl) rfl #[.int .i64 (wrap64 (Int.tmod a0 4)), .agg #[.int .u64 a1_0, .int .u64 a1_1, .int .u64 a1_2, .int .u64 a1_3]] (by rfl) rfl rfl (by (try simp only [List.map_toArray, List.map_cons, List.map_nil]); first | done | rfl) ?_
               with_reducible refine (sponge_Inverse.calls k (wrap64 (Int.tmod a0 4)) a1_0 a1_1 a1_2 a1_3 t356 t357 t358 t359 _ ?side1 A5.out).mono ?_
               (case side1 => repeat (first | exact (GL.below HRG.out HB.out) | (with_reducible refine GL.alloc ?_ _) | (with_reducible refine GL.drewN ?_ _) | (with_reducible refine GL.drew ?_)))
               rintro e w30 ⟨rfl, hb⟩
               refine ⟨_, rfl, ?_⟩
               have n0_ := Aside0.mk (blk_below (g := g346) (o := .cells #[.int .u64 a1_0, .int .u64 a1_1, .int .u64 a1_2, .int .u64 a1_3] 23 (0, 0)) (by (with_reducible repeat first | refine blk_drewN ?_ _ | refine blk_drew ?_ | refine blk_alloc ?_ _); exact B346.out) hb)
               have n1_ := Aside0.mk (blk_below (g := g351) (o := .cells #[.int .u64 t347, .int .u64 t348, .int .u64 t349, .int .u64 t350] 23 (0, 0)) (by (with_reducible repeat first | refine blk_drewN ?_ _ | refine blk_drew ?_ | refine blk_alloc ?_ _); exact B351.out) hb)
               have n2_ := Aside0.mk (blk_below (g := g361) (o := .cells #[.int .u64 0, .int .u64 0, .int .u64 0, .int .u64 0] 23 (0, 0)) (by (with_reducible repeat first | refine blk_drewN ?_ _ | refine blk_drew ?_ | refine blk_alloc ?_ _); exact B361.out) hb)
               have n3_ := Aside0.mk (below_step (by repeat (first | (with_reducible first | exact HB.out | apply below_alloc | apply pw_below_drewN | apply below_drew1 | refine below_set ?_ GE346.out | refine below_set ?_ GE351.out | refine below_set ?_ GE361.out) | exact HB.out)) hb)
               clear B346
               clear B351
               clear B361
               clear HB
               have B346 := n0_
               have B351 := n1_
               have B361 := n2_
               have HB := n3_
               clear n0_ n1_ n2_ n3_
               (try clear hb)
               (try clear hb2)
               (try clear hk)
               (try clear hi)
               refine hK.out _ _ ⟨bq_ B346 0, bq_ B346 1, bq_ B346 2, bq_ B346 3⟩ (fun hL => ?_)
               clear hK K
               refine norm_ (a' := ?_) ?_ ?_
               rotate_left
               ·show Act.put _ (some 20) _ = _
                simp only [Act.put, sa_, sb_, sc_, i64_w, i32_w]
                rfl
               exact norm_ (by first | (simp only [putAll, Act.put, List.setIfInBounds_toArray, List.set_cons_zero, List.set_cons_succ]; done) | (simp only [putAll, Act.put, List.setIfInBounds_toArray, List.set_cons_zero, List.set_cons_succ]; rfl)) (hJ2_5_7 (g361) _ ⟨hL, (by (with_reducible repeat first | refine blk_drewN ?_ _ | refine blk_drew ?_ | refine blk_alloc ?_ _); exact B346.out), (by (with_reducible repeat first | refine blk_drewN ?_ _ | refine blk_drew ?_ | refine blk_alloc ?_ _); exact B351.out), (by (with_reducible repeat first | refine blk_drewN ?_ _ | refine blk_drew ?_ | refine blk_alloc ?_ _); exact B361.out), GW361.out, GE361.out, NB346_361.out, NB361_346.out, NB351_361.out, NB361_351.out, (by repeat (first | (with_reducible first | exact HB.out | apply below_alloc | apply pw_below_drewN | apply below_drew1 | refine below_set ?_ GE346.out | refine below_set ?_ GE351.out | refine below_set ?_ GE361.out) | exact HB.out))⟩)
              ·skip
               refine box_step ?hg (N := 7) ?hd (cs := #[.int .u64 0, .int .u64 0, .int .u64 0, .int .u64 0]) (t := 23) ?hr ?_; (case hd => rfl); (case hg => rfl); (case hr => first | (go_simp; done) | (go_simp; rfl))
               intro g360 hg w30 hbox hb
               have n0_ := Aside0.mk (blk_below (g := g346) (o := .cells #[.int .u64 a1_0, .int .u64 a1_1, .int .u64 a1_2, .int .u64 a1_3] 23 (0, 0)) (by (with_reducible repeat first | refine blk_drewN ?_ _ | refine blk_drew ?_ | refine blk_alloc ?_ _); exact B346.out) hb)
               have n1_ := Aside0.mk (blk_below (g := g351) (o := .cells #[.int .u64 t347, .int .u64 t348, .int .u64 t349, .int .u64 t350] 23 (0, 0)) (by (with_reducible repeat first | refine blk_drewN ?_ _ | refine blk_drew ?_ | refine blk_alloc ?_ _); exact B351.out) hb)
               have n2_ := Aside0.mk (blk_below (g := g361) (o := .cells #[.int .u64 0, .int .u64 0, .int .u64 0, .int .u64 0] 23 (0, 0)) (by (with_reducible repeat first | refine blk_drewN ?_ _ | refine blk_drew ?_ | refine blk_alloc ?_ _); exact B361.out) hb)
               have n3_ := Aside0.mk (below_step (by repeat (first | (with_reducible first | exact HB.out | apply below_alloc | apply pw_below_drewN | apply below_drew1 | refine below_set ?_ GE346.out | refine below_set ?_ GE351.out | refine below_set ?_ GE361.out) | exact HB.out)) hb)
               have n4_ := Aside0.mk (hbox)
               have n5_ := Aside0.mk ((by rw [hg]; exact (below_size (by repeat (first | (with_reducible first | exact HB.out | apply below_alloc | apply pw_below_drewN | apply below_drew1 | refine below_set ?_ GE346.out | refine below_set ?_ GE351.out | refine below_set ?_ GE361.out) | exact HB.out))) : w.heap.size ≤ g360))
               have n6_ := Aside0.mk ((by rw [hg]; exact (below_size (by repeat (first | (with_reducible first | exact HB.out | apply below_alloc | apply pw_below_drewN | apply below_drew1 | refine below_set ?_ GE346.out | refine below_set ?_ GE351.out | refine below_set ?_ GE361.out) | exact HB.out))) : w.heap.size ≤ g360))
               have n7_ := Aside0.mk ((by rw [hg]; exact Nat.ne_of_lt (blk_lt (g := g346) (o := .cells #[.int .u64 a1_0, .int .u64 a1_1, .int .u64 a1_2, .int .u64 a1_3] 23 (0, 0)) (by (with_reducible repeat first | refine blk_drewN ?_ _ | refine blk_drew ?_ | refine blk_alloc ?_ _); exact B346.out)) : g346 ≠ g360))
               have n8_ := Aside0.mk ((by rw [hg]; exact Nat.ne_of_gt (blk_lt (g := g346) (o := .cells #[.int .u64 a1_0, .int .u64 a1_1, .int .u64 a1_2, .int .u64 a1_3] 23 (0, 0)) (by (with_reducible repeat first | refine blk_drewN ?_ _ | refine blk_drew ?_ | refine blk_alloc ?_ _); exact B346.out)) : g360 ≠ g346))
               have n9_ := Aside0.mk ((by rw [hg]; exact Nat.ne_of_lt (blk_lt (g := g351) (o := .cells #[.int .u64 t347, .int .u64 t348, .int .u64 t349, .int .u64 t350] 23 (0, 0)) (by (with_reducible repeat first | refine blk_drewN ?_ _ | refine blk_drew ?_ | refine blk_alloc ?_ _); exact B351.out)) : g351 ≠ g360))
               have n10_ := Aside0.mk ((by rw [hg]; exact Nat.ne_of_gt (blk_lt (g := g351) (o := .cells #[.int .u64 t347, .int .u64 t348, .int .u64 t349, .int .u64 t350] 23 (0, 0)) (by (with_reducible repeat first | refine blk_drewN ?_ _ | refine blk_drew ?_ | refine blk_alloc ?_ _); exact B351.out)) : g360 ≠ g351))
               have n11_ := Aside0.mk ((by rw [hg]; exact Nat.ne_of_lt (blk_lt (g := g361) (o := .cells #[.int .u64 0, .int .u64 0, .int .u64 0, .int .u64 0] 23 (0, 0)) (by (with_reducible repeat first | refine blk_drewN ?_ _ | refine blk_drew ?_ | refine blk_alloc ?_ _); exact B361.out)) : g361 ≠ g360))
               have n12_ := Aside0.mk ((by rw [hg]; exact Nat.ne_of_gt (blk_lt (g := g361) (o := .cells #[.int .u64 0, .int .u64 0, .int .u64 0, .int .u64 0] 23 (0, 0)) (by (with_reducible repeat first | refine blk_drewN ?_ _ | refine blk_drew ?_ | refine blk_alloc ?_ _); exact B361.out)) : g360 ≠ g361))
               clear B346
               clear B351
               clear B361
               clear HB
               have B346 := n0_
               have B351 := n1_
               have B361 := n2_
               have HB := n3_
               have B360 := n4_
               have GW360 := n5_
               have GE360 := n6_
               have NB346_360 := n7_
               have NB360_346 := n8_
               have NB351_360 := n9_
               have NB360_351 := n10_
               have NB361_360 := n11_
               have NB360_361 := n12_
               clear n0_ n1_ n2_ n3_ n4_ n5_ n6_ n7_ n8_ n9_ n10_ n11_ n12_
               clear hb hbox hg
               refine hK.out _ _ ⟨bq_ B346 0, bq_ B346 1, bq_ B346 2, bq_ B346 3⟩ (fun hL => ?_)
               clear hK K
               refine norm_ (a' := ?_) ?_ ?_
               rotate_left
               ·show Act.put _ (some 7) _ = _
                simp only [Act.put, sa_, sb_, sc_, i64_w, i32_w]
                rfl
               exact norm_ (by first | (simp only [putAll, Act.put, List.setIfInBounds_toArray, List.set_cons_zero, List.set_cons_succ]; done) | (simp only [putAll, Act.put, List.setIfInBounds_toArray, List.set_cons_zero, List.set_cons_succ]; rfl)) (hJ2_6_7 (g360, g361) _ ⟨hL, (by (with_reducible repeat first | refine blk_drewN ?_ _ | refine blk_drew ?_ | refine blk_alloc ?_ _); exact B346.out), (by (with_reducible repeat first | refine blk_drewN ?_ _ | refine blk_drew ?_ | refine blk_alloc ?_ _); exact B351.out), (by (with_reducible repeat first | refine blk_drewN ?_ _ | refine blk_drew ?_ | refine blk_alloc ?_ _); exact B360.out), (by (with_reducible repeat first | refine blk_drewN ?_ _ | refine blk_drew ?_ | refine blk_alloc ?_ _); exact B361.out), GW360.out, GE360.out, NB346_360.out, NB360_346.out, NB351_360.out, NB360_351.out, NB361_360.out, NB360_361.out, GW361.out, GE361.out, NB346_361.out, NB361_346.out, NB351_361.out, NB361_351.out, (by repeat (first | (with_reducible first | exact HB.out | apply below_alloc | apply pw_below_drewN | apply below_drew1 | refine below_set ?_ GE346.out | refine below_set ?_ GE351.out | refine below_set ?_ GE361.out | refine below_set ?_ GE360.out) | exact HB.out))⟩)
            ·skip
             rintro g360 w29 ⟨hS_, h0_, h1_, h2_, h3_, h4_, h5_, h6_, h7_, h8_, h9_⟩
             have n0_ : Aside0 (w29.heap[g346]? = some (.cells #[.int .u64 a1_0, .int .u64 a1_1, .int .u64 a1_2, .int .u64 a1_3] 23 (0, 0))) := ⟨h0_⟩
             have n1_ : Aside0 (w29.heap[g351]? = some (.cells #[.int .u64 t347, .int .u64 t348, .int .u64 t349, .int .u64 t350] 23 (0, 0))) := ⟨h1_⟩
             have n2_ : Aside0 (w29.heap[g360]? = some (.cells #[.int .u64 0, .int .u64 0, .int .u64 0, .int .u64 0] 23 (0, 0))) := ⟨h2_⟩
             have n3_ : Aside0 (w.heap.size ≤ g360) := ⟨h3_⟩
             have n4_ : Aside0 (w.heap.size ≤ g360) := ⟨h4_⟩
             have n5_ : Aside0 (g346 ≠ g360) := ⟨h5_⟩
             have n6_ : Aside0 (g360 ≠ g346) := ⟨h6_⟩
             have n7_ : Aside0 (g351 ≠ g360) := ⟨h7_⟩
             have n8_ : Aside0 (g360 ≠ g351) := ⟨h8_⟩
             have n9_ : Aside0 (Below w.heap.size w w29) := ⟨h9_⟩
             clear B346
             clear B351
             clear HB
             clear h0_ h1_ h2_ h3_ h4_ h5_ h6_ h7_ h8_ h9_
             have B346 := n0_
             have B351 := n1_
             have B360 := n2_
             have GW360 := n3_
             have GE360 := n4_
             have NB346_360 := n5_
             have NB360_346 := n6_
             have NB351_360 := n7_
             have NB360_351 := n8_
             have HB := n9_
             clear n0_ n1_ n2_ n3_ n4_ n5_ n6_ n7_ n8_ n9_
             have hL : w29.cell? ⟨g346, 0, none⟩ = some (.int .u64 a1_0) ∧ w29.cell? ⟨g346, 1, none⟩ = some (.int .u64 a1_1) ∧ w29.cell? ⟨g346, 2, none⟩ = some (.int .u64 a1_2) ∧ w29.cell? ⟨g346, 3, none⟩ = some (.int .u64 a1_3) := hS_
             refine norm_ (a' := ?_) ?_ ?_
             rotate_left
             ·simp only [putAll, Act.put, List.setIfInBounds_toArray, List.set_cons_zero, List.set_cons_succ]
              rfl
             refine two_ (i := 5) (j := 7) (Ni := some 20) (Nj := some 8) z9_6_ z9_8_ rfl rfl rfl rfl (two_of T_.out (by kernel_rfl)) (by decide) (by decide) (fun K hK => ?_) (fun K hK => ?_)
             ·skip
              refine goes_ Tryd.func25 (by kernel_rfl) rfl #[.int .i64 (wrap64 (Int.tmod a0 4)), .agg #[.int .u64 a1_0, .int .u64 a1_1, .int .u64 a1_2, .int .u64 a1_3]] (by rfl) rfl rfl (by (try simp only [List.map_toArray, List.map_cons, List.map_nil]); first | done | rfl) ?_
              with_reducible refine (sponge_Inverse.calls k (wrap64 (Int.tmod a0 4)) a1_0 a1_1 a1_2 a1_3 t356 t357 t358 t359 _ ?side1 A5.out).mono ?_
              (case side1 => repeat (first | exact (GL.below HRG.out HB.out) | (with_reducible refine GL.alloc ?_ _) | (with_reducible refine GL.drewN ?_ _) | (with_reducible refine GL.drew ?_)))
              rintro e w30 ⟨rfl, hb⟩
              refine ⟨_, rfl, ?_⟩
              have n0_ := Aside0.mk (blk_below (g := g346) (o := .cells #[.int .u64 a1_0, .int .u64 a1_1, .int .u64 a1_2, .int .u64 a1_3] 23 (0, 0)) (by (with_reducible repeat first | refine blk_drewN ?_ _ | refine blk_drew ?_ | refine blk_alloc ?_ _); exact B346.out) hb)
              have n1_ := Aside0.mk (blk_below (g := g351) (o := .cells #[.int .u64 t347, .int .u64 t348, .int .u64 t349, .int .u64 t350] 23 (0, 0)) (by (with_reducible repeat first | refine blk_drewN ?_ _ | refine blk_drew ?_ | refine blk_alloc ?_ _); exact B351.out) hb)
              have n2_ := Aside0.mk (blk_below (g := g360) (o := .cells #[.int .u64 0, .int .u64 0, .int .u64 0, .int .u64 0] 23 (0, 0)) (by (with_reducible repeat first | refine blk_drewN ?_ _ | refine blk_drew ?_ | refine blk_alloc ?_ _); exact B360.out) hb)
              have n3_ := Aside0.mk (below_step (by repeat (first | (with_reducible first | exact HB.out | apply below_alloc | apply pw_below_drewN | apply below_drew1 | refine below_set ?_ GE346.out | refine below_set ?_ GE351.out | refine below_set ?_ GE360.out) | exact HB.out)) hb)
              clear B346
              clear B351
              clear B360
              clear HB
              have B346 := n0_
              have B351 := n1_
              have B360 := n2_
              have HB := n3_
              clear n0_ n1_ n2_ n3_
              (try clear hb)
              (try clear hb2)
              (try clear hk)
              (try clear hi)
              refine hK.out _ _ ⟨bq_ B346 0, bq_ B346 1, bq_ B346 2, bq_ B346 3⟩ (fun hL => ?_)
              clear hK K
              refine norm_ (a' := ?_) ?_ ?_
              rotate_left
              ·show Act.put _ (some 20) _ = _
               simp only [Act.put, sa_, sb_, sc_, i64_w, i32_w]
               rfl
              exact norm_ (by first | (simp only [putAll, Act.put, List.setIfInBounds_toArray, List.set_cons_zero, List.set_cons_succ]; done) | (simp only [putAll, Act.put, List.setIfInBounds_toArray, List.set_cons_zero, List.set_cons_succ]; rfl)) (hJ2_5_6 (g360) _ ⟨hL, (by (with_reducible repeat first | refine blk_drewN ?_ _ | refine blk_drew ?_ | refine blk_alloc ?_ _); exact B346.out), (by (with_reducible repeat first | refine blk_drewN ?_ _ | refine blk_drew ?_ | refine blk_alloc ?_ _); exact B351.out), (by (with_reducible repeat first | refine blk_drewN ?_ _ | refine blk_drew ?_ | refine blk_alloc ?_ _); exact B360.out), GW360.out, GE360.out, NB346_360.out, NB360_346.out, NB351_360.out, NB360_351.out, (by repeat (first | (with_reducible first | exact HB.out | apply below_alloc | apply pw_below_drewN | apply below_drew1 | refine below_set ?_ GE346.out | refine below_set ?_ GE351.out | refine below_set ?_ GE360.out) | exact HB.out))⟩)
             ·skip
              refine box_step ?hg (N := 8) ?hd (cs := #[.int .u64 0, .int .u64 0, .int .u64 0, .int .u64 0]) (t := 23) ?hr ?_; (case hd => rfl); (case hg => rfl); (case hr => first | (go_simp; done) | (go_simp; rfl))
              intro g361 hg w30 hbox hb
              have n0_ := Aside0.mk (blk_below (g := g346) (o := .cells #[.int .u64 a1_0, .int .u64 a1_1, .int .u64 a1_2, .int .u64 a1_3] 23 (0, 0)) (by (with_reducible repeat first | refine blk_drewN ?_ _ | refine blk_drew ?_ | refine blk_alloc ?_ _); exact B346.out) hb)
              have n1_ := Aside0.mk (blk_below (g := g351) (o := .cells #[.int .u64 t347, .int .u64 t348, .int .u64 t349, .int .u64 t350] 23 (0, 0)) (by (with_reducible repeat first | refine blk_drewN ?_ _ | refine blk_drew ?_ | refine blk_alloc ?_ _); exact B351.out) hb)
              have n2_ := Aside0.mk (blk_below (g := g360) (o := .cells #[.int .u64 0, .int .u64 0, .int .u64 0, .int .u64 0] 23 (0, 0)) (by (with_reducible repeat first | refine blk_drewN ?_ _ | refine blk_drew ?_ | refine blk_alloc ?_ _); exact B360.out) hb)
              have n3_ := Aside0.mk (below_step (by repeat (first | (with_reducible first | exact HB.out | apply below_alloc | apply pw_below_drewN | apply below_drew1 | refine below_set ?_ GE346.out | refine below_set ?_ GE351.out | refine below_set ?_ GE360.out) | exact HB.out)) hb)
              have n4_ := Aside0.mk (hbox)
              have n5_ := Aside0.mk ((by rw [hg]; exact (below_size (by repeat (first | (with_reducible first | exact HB.out | apply below_alloc | apply pw_below_drewN | apply below_drew1 | refine below_set ?_ GE346.out | refine below_set ?_ GE351.out | refine below_set ?_ GE360.out) | exact HB.out))) : w.heap.size ≤ g361))
              have n6_ := Aside0.mk ((by rw [hg]; exact (below_size (by repeat (first | (with_reducible first | exact HB.out | apply below_alloc | apply pw_below_drewN | apply below_drew1 | refine below_set ?_ GE346.out | refine below_set ?_ GE351.out | refine below_set ?_ GE360.out) | exact HB.out))) : w.heap.size ≤ g361))
              have n7_ := Aside0.mk ((by rw [hg]; exact Nat.ne_of_lt (blk_lt (g := g346) (o := .cells #[.int .u64 a1_0, .int .u64 a1_1, .int .u64 a1_2, .int .u64 a1_3] 23 (0, 0)) (by (with_reducible repeat first | refine blk_drewN ?_ _ | refine blk_drew ?_ | refine blk_alloc ?_ _); exact B346.out)) : g346 ≠ g361))
              have n8_ := Aside0.mk ((by rw [hg]; exact Nat.ne_of_gt (blk_lt (g := g346) (o := .cells #[.int .u64 a1_0, .int .u64 a1_1, .int .u64 a1_2, .int .u64 a1_3] 23 (0, 0)) (by (with_reducible repeat first | refine blk_drewN ?_ _ | refine blk_drew ?_ | refine blk_alloc ?_ _); exact B346.out)) : g361 ≠ g346))
              have n9_ := Aside0.mk ((by rw [hg]; exact Nat.ne_of_lt (blk_lt (g := g351) (o := .cells #[.int .u64 t347, .int .u64 t348, .int .u64 t349, .int .u64 t350] 23 (0, 0)) (by (with_reducible repeat first | refine blk_drewN ?_ _ | refine blk_drew ?_ | refine blk_alloc ?_ _); exact B351.out)) : g351 ≠ g361))
              have n10_ := Aside0.mk ((by rw [hg]; exact Nat.ne_of_gt (blk_lt (g := g351) (o := .cells #[.int .u64 t347, .int .u64 t348, .int .u64 t349, .int .u64 t350] 23 (0, 0)) (by (with_reducible repeat first | refine blk_drewN ?_ _ | refine blk_drew ?_ | refine blk_alloc ?_ _); exact B351.out)) : g361 ≠ g351))
              have n11_ := Aside0.mk ((by rw [hg]; exact Nat.ne_of_lt (blk_lt (g := g360) (o := .cells #[.int .u64 0, .int .u64 0, .int .u64 0, .int .u64 0] 23 (0, 0)) (by (with_reducible repeat first | refine blk_drewN ?_ _ | refine blk_drew ?_ | refine blk_alloc ?_ _); exact B360.out)) : g360 ≠ g361))
              have n12_ := Aside0.mk ((by rw [hg]; exact Nat.ne_of_gt (blk_lt (g := g360) (o := .cells #[.int .u64 0, .int .u64 0, .int .u64 0, .int .u64 0] 23 (0, 0)) (by (with_reducible repeat first | refine blk_drewN ?_ _ | refine blk_drew ?_ | refine blk_alloc ?_ _); exact B360.out)) : g361 ≠ g360))
              clear B346
              clear B351
              clear B360
              clear HB
              have B346 := n0_
              have B351 := n1_
              have B360 := n2_
              have HB := n3_
              have B361 := n4_
              have GW361 := n5_
              have GE361 := n6_
              have NB346_361 := n7_
              have NB361_346 := n8_
              have NB351_361 := n9_
              have NB361_351 := n10_
              have NB360_361 := n11_
              have NB361_360 := n12_
              clear n0_ n1_ n2_ n3_ n4_ n5_ n6_ n7_ n8_ n9_ n10_ n11_ n12_
              clear hb hbox hg
              refine hK.out _ _ ⟨bq_ B346 0, bq_ B346 1, bq_ B346 2, bq_ B346 3⟩ (fun hL => ?_)
              clear hK K
              refine norm_ (a' := ?_) ?_ ?_
              rotate_left
              ·show Act.put _ (some 8) _ = _
               simp only [Act.put, sa_, sb_, sc_, i64_w, i32_w]
               rfl
              exact norm_ (by first | (simp only [putAll, Act.put, List.setIfInBounds_toArray, List.set_cons_zero, List.set_cons_succ]; done) | (simp only [putAll, Act.put, List.setIfInBounds_toArray, List.set_cons_zero, List.set_cons_succ]; rfl)) (hJ2_6_7 (g360, g361) _ ⟨hL, (by (with_reducible repeat first | refine blk_drewN ?_ _ | refine blk_drew ?_ | refine blk_alloc ?_ _); exact B346.out), (by (with_reducible repeat first | refine blk_drewN ?_ _ | refine blk_drew ?_ | refine blk_alloc ?_ _); exact B351.out), (by (with_reducible repeat first | refine blk_drewN ?_ _ | refine blk_drew ?_ | refine blk_alloc ?_ _); exact B360.out), (by (with_reducible repeat first | refine blk_drewN ?_ _ | refine blk_drew ?_ | refine blk_alloc ?_ _); exact B361.out), GW360.out, GE360.out, NB346_360.out, NB360_346.out, NB351_360.out, NB360_351.out, NB361_360.out, NB360_361.out, GW361.out, GE361.out, NB346_361.out, NB361_346.out, NB351_361.out, NB361_351.out, (by repeat (first | (with_reducible first | exact HB.out | apply below_alloc | apply pw_below_drewN | apply below_drew1 | refine below_set ?_ GE346.out | refine below_set ?_ GE351.out | refine below_set ?_ GE360.out | refine below_set ?_ GE361.out) | exact HB.out))⟩)
           ·skip
            rintro _ w29 ⟨hS_, h0_, h1_, h2_⟩
            have n0_ : Aside0 (w29.heap[g346]? = some (.cells #[.int .u64 a1_0, .int .u64 a1_1, .int .u64 a1_2, .int .u64 a1_3] 23 (0, 0))) := ⟨h0_⟩
            have n1_ : Aside0 (w29.heap[g351]? = some (.cells #[.int .u64 t347, .int .u64 t348, .int .u64 t349, .int .u64 t350] 23 (0, 0))) := ⟨h1_⟩
            have n2_ : Aside0 (Below w.heap.size w w29) := ⟨h2_⟩
            clear B346
            clear B351
            clear HB
            clear h0_ h1_ h2_
            have B346 := n0_
            have B351 := n1_
            have HB := n2_
            clear n0_ n1_ n2_
            have hL : w29.cell? ⟨g346, 0, none⟩ = some (.int .u64 a1_0) ∧ w29.cell? ⟨g346, 1, none⟩ = some (.int .u64 a1_1) ∧ w29.cell? ⟨g346, 2, none⟩ = some (.int .u64 a1_2) ∧ w29.cell? ⟨g346, 3, none⟩ = some (.int .u64 a1_3) := hS_
            refine norm_ (a' := ?_) ?_ ?_
            rotate_left
            ·simp only [putAll, Act.put, List.setIfInBounds_toArray, List.set_cons_zero, List.set_cons_succ]
             rfl
            refine two_ (i := 6) (j := 7) (Ni := some 7) (Nj := some 8) z9_6_ z9_7_ rfl rfl rfl rfl (two_of T_.out (by kernel_rfl)) (by decide) (by decide) (fun K hK => ?_) (fun K hK => ?_)
            ·skip
             refine box_step ?hg (N := 7) ?hd (cs := #[.int .u64 0, .int .u64 0, .int .u64 0, .int .u64 0]) (t := 23) ?hr ?_; (case hd => rfl); (case hg => rfl); (case hr => first | (go_simp; done) | (go_simp; rfl))
             intro g360 hg w30 hbox hb
             have n0_ := Aside0.mk (blk_below (g := g346) (o := .cells #[.int .u64 a1_0, .int .u64 a1_1, .int .u64 a1_2, .int .u64 a1_3] 23 (0, 0)) (by (with_reducible repeat first | refine blk_drewN ?_ _ | refine blk_drew ?_ | refine blk_alloc ?_ _); exact B346.out) hb)
             have n1_ := Aside0.mk (blk_below (g := g351) (o := .cells #[.int .u64 t347, .int .u64 t348, .int .u64 t349, .int .u64 t350] 23 (0, 0)) (by (with_reducible repeat first | refine blk_drewN ?_ _ | refine blk_drew ?_ | refine blk_alloc ?_ _); exact B351.out) hb)
             have n2_ := Aside0.mk (below_step (by repeat (first | (with_reducible first | exact HB.out | apply below_alloc | apply pw_below_drewN | apply below_drew1 | refine below_set ?_ GE346.out | refine below_set ?_ GE351.out) | exact HB.out)) hb)
             have n3_ := Aside0.mk (hbox)
             have n4_ := Aside0.mk ((by rw [hg]; exact (below_size (by repeat (first | (with_reducible first | exact HB.out | apply below_alloc | apply pw_below_drewN | apply below_drew1 | refine below_set ?_ GE346.out | refine below_set ?_ GE351.out) | exact HB.out))) : w.heap.size ≤ g360))
             have n5_ := Aside0.mk ((by rw [hg]; exact (below_size (by repeat (first | (with_reducible first | exact HB.out | apply below_alloc | apply pw_below_drewN | apply below_drew1 | refine below_set ?_ GE346.out | refine below_set ?_ GE351.out) | exact HB.out))) : w.heap.size ≤ g360))
             have n6_ := Aside0.mk ((by rw [hg]; exact Nat.ne_of_lt (blk_lt (g := g346) (o := .cells #[.int .u64 a1_0, .int .u64 a1_1, .int .u64 a1_2, .int .u64 a1_3] 23 (0, 0)) (by (with_reducible repeat first | refine blk_drewN ?_ _ | refine blk_drew ?_ | refine blk_alloc ?_ _); exact B346.out)) : g346 ≠ g360))
             have n7_ := Aside0.mk ((by rw [hg]; exact Nat.ne_of_gt (blk_lt (g := g346) (o := .cells #[.int .u64 a1_0, .int .u64 a1_1, .int .u64 a1_2, .int .u64 a1_3] 23 (0, 0)) (by (with_reducible repeat first | refine blk_drewN ?_ _ | refine blk_drew ?_ | refine blk_alloc ?_ _); exact B346.out)) : g360 ≠ g346))
             have n8_ := Aside0.mk ((by rw [hg]; exact Nat.ne_of_lt (blk_lt (g := g351) (o := .cells #[.int .u64 t347, .int .u64 t348, .int .u64 t349, .int .u64 t350] 23 (0, 0)) (by (with_reducible repeat first | refine blk_drewN ?_ _ | refine blk_drew ?_ | refine blk_alloc ?_ _); exact B351.out)) : g351 ≠ g360))
             have n9_ := Aside0.mk ((by rw [hg]; exact Nat.ne_of_gt (blk_lt (g := g351) (o := .cells #[.int .u64 t347, .int .u64 t348, .int .u64 t349, .int .u64 t350] 23 (0, 0)) (by (with_reducible repeat first | refine blk_drewN ?_ _ | refine blk_drew ?_ | refine blk_alloc ?_ _); exact B351.out)) : g360 ≠ g351))
             clear B346
             clear B351
             clear HB
             have B346 := n0_
             have B351 := n1_
             have HB := n2_
             have B360 := n3_
             have GW360 := n4_
             have GE360 := n5_
             have NB346_360 := n6_
             have NB360_346 := n7_
             have NB351_360 := n8_
             have NB360_351 := n9_
             clear n0_ n1_ n2_ n3_ n4_ n5_ n6_ n7_ n8_ n9_
             clear hb hbox hg
             refine hK.out _ _ ⟨bq_ B346 0, bq_ B346 1, bq_ B346 2, bq_ B346 3⟩ (fun hL => ?_)
             clear hK K
             refine norm_ (a' := ?_) ?_ ?_
             rotate_left
             ·show Act.put _ (some 7) _ = _
              simp only [Act.put, sa_, sb_, sc_, i64_w, i32_w]
              rfl
             exact norm_ (by first | (simp only [putAll, Act.put, List.setIfInBounds_toArray, List.set_cons_zero, List.set_cons_succ]; done) | (simp only [putAll, Act.put, List.setIfInBounds_toArray, List.set_cons_zero, List.set_cons_succ]; rfl)) (hJ2_5_6 (g360) _ ⟨hL, (by (with_reducible repeat first | refine blk_drewN ?_ _ | refine blk_drew ?_ | refine blk_alloc ?_ _); exact B346.out), (by (with_reducible repeat first | refine blk_drewN ?_ _ | refine blk_drew ?_ | refine blk_alloc ?_ _); exact B351.out), (by (with_reducible repeat first | refine blk_drewN ?_ _ | refine blk_drew ?_ | refine blk_alloc ?_ _); exact B360.out), GW360.out, GE360.out, NB346_360.out, NB360_346.out, NB351_360.out, NB360_351.out, (by repeat (first | (with_reducible first | exact HB.out | apply below_alloc | apply pw_below_drewN | apply below_drew1 | refine below_set ?_ GE346.out | refine below_set ?_ GE351.out | refine below_set ?_ GE360.out) | exact HB.out))⟩)
            ·skip
             refine box_step ?hg (N := 8) ?hd (cs := #[.int .u64 0, .int .u64 0, .int .u64 0, .int .u64 0]) (t := 23) ?hr ?_; (case hd => rfl); (case hg => rfl); (case hr => first | (go_simp; done) | (go_simp; rfl))
             intro g361 hg w30 hbox hb
             have n0_ := Aside0.mk (blk_below (g := g346) (o := .cells #[.int .u64 a1_0, .int .u64 a1_1, .int .u64 a1_2, .int .u64 a1_3] 23 (0, 0)) (by (with_reducible repeat first | refine blk_drewN ?_ _ | refine blk_drew ?_ | refine blk_alloc ?_ _); exact B346.out) hb)
             have n1_ := Aside0.mk (blk_below (g := g351) (o := .cells #[.int .u64 t347, .int .u64 t348, .int .u64 t349, .int .u64 t350] 23 (0, 0)) (by (with_reducible repeat first | refine blk_drewN ?_ _ | refine blk_drew ?_ | refine blk_alloc ?_ _); exact B351.out) hb)
             have n2_ := Aside0.mk (below_step (by repeat (first | (with_reducible first | exact HB.out | apply below_alloc | apply pw_below_drewN | apply below_drew1 | refine below_set ?_ GE346.out | refine below_set ?_ GE351.out) | exact HB.out)) hb)
             have n3_ := Aside0.mk (hbox)
             have n4_ := Aside0.mk ((by rw [hg]; exact (below_size (by repeat (first | (with_reducible first | exact HB.out | apply below_alloc | apply pw_below_drewN | apply below_drew1 | refine below_set ?_ GE346.out | refine below_set ?_ GE351.out) | exact HB.out))) : w.heap.size ≤ g361))
             have n5_ := Aside0.mk ((by rw [hg]; exact (below_size (by repeat (first | (with_reducible first | exact HB.out | apply below_alloc | apply pw_below_drewN | apply below_drew1 | refine below_set ?_ GE346.out | refine below_set ?_ GE351.out) | exact HB.out))) : w.heap.size ≤ g361))
             have n6_ := Aside0.mk ((by rw [hg]; exact Nat.ne_of_lt (blk_lt (g := g346) (o := .cells #[.int .u64 a1_0, .int .u64 a1_1, .int .u64 a1_2, .int .u64 a1_3] 23 (0, 0)) (by (with_reducible repeat first | refine blk_drewN ?_ _ | refine blk_drew ?_ | refine blk_alloc ?_ _); exact B346.out)) : g346 ≠ g361))
             have n7_ := Aside0.mk ((by rw [hg]; exact Nat.ne_of_gt (blk_lt (g := g346) (o := .cells #[.int .u64 a1_0, .int .u64 a1_1, .int .u64 a1_2, .int .u64 a1_3] 23 (0, 0)) (by (with_reducible repeat first | refine blk_drewN ?_ _ | refine blk_drew ?_ | refine blk_alloc ?_ _); exact B346.out)) : g361 ≠ g346))
             have n8_ := Aside0.mk ((by rw [hg]; exact Nat.ne_of_lt (blk_lt (g := g351) (o := .cells #[.int .u64 t347, .int .u64 t348, .int .u64 t349, .int .u64 t350] 23 (0, 0)) (by (with_reducible repeat first | refine blk_drewN ?_ _ | refine blk_drew ?_ | refine blk_alloc ?_ _); exact B351.out)) : g351 ≠ g361))
             have n9_ := Aside0.mk ((by rw [hg]; exact Nat.ne_of_gt (blk_lt (g := g351) (o := .cells #[.int .u64 t347, .int .u64 t348, .int .u64 t349, .int .u64 t350] 23 (0, 0)) (by (with_reducible repeat first | refine blk_drewN ?_ _ | refine blk_drew ?_ | refine blk_alloc ?_ _); exact B351.out)) : g361 ≠ g351))
             clear B346
             clear B351
             clear HB
             have B346 := n0_
             have B351 := n1_
             have HB := n2_
             have B361 := n3_
             have GW361 := n4_
             have GE361 := n5_
             have NB346_361 := n6_
             have NB361_346 := n7_
             have NB351_361 := n8_
             have NB361_351 := n9_
             clear n0_ n1_ n2_ n3_ n4_ n5_ n6_ n7_ n8_ n9_
             clear hb hbox hg
             refine hK.out _ _ ⟨bq_ B346 0, bq_ B346 1, bq_ B346 2, bq_ B346 3⟩ (fun hL => ?_)
             clear hK K
             refine norm_ (a' := ?_) ?_ ?_
             rotate_left
             ·show Act.put _ (some 8) _ = _
              simp only [Act.put, sa_, sb_, sc_, i64_w, i32_w]
              rfl
             exact norm_ (by first | (simp only [putAll, Act.put, List.setIfInBounds_toArray, List.set_cons_zero, List.set_cons_succ]; done) | (simp only [putAll, Act.put, List.setIfInBounds_toArray, List.set_cons_zero, List.set_cons_succ]; rfl)) (hJ2_5_7 (g361) _ ⟨hL, (by (with_reducible repeat first | refine blk_drewN ?_ _ | refine blk_drew ?_ | refine blk_alloc ?_ _); exact B346.out), (by (with_reducible repeat first | refine blk_drewN ?_ _ | refine blk_drew ?_ | refine blk_alloc ?_ _); exact B351.out), (by (with_reducible repeat first | refine blk_drewN ?_ _ | refine blk_drew ?_ | refine blk_alloc ?_ _); exact B361.out), GW361.out, GE361.out, NB346_361.out, NB361_346.out, NB351_361.out, NB361_351.out, (by repeat (first | (with_reducible first | exact HB.out | apply below_alloc | apply pw_below_drewN | apply below_drew1 | refine below_set ?_ GE346.out | refine below_set ?_ GE351.out | refine below_set ?_ GE361.out) | exact HB.out))⟩)
          ·skip
           rintro ⟨g360, g361⟩ w30 ⟨hS_, h0_, h1_, h2_, h3_, h4_, h5_, h6_, h7_, h8_, h9_, h10_, h11_, h12_, h13_, h14_, h15_, h16_, h17_, h18_⟩
           have n0_ : Aside0 (w30.heap[g346]? = some (.cells #[.int .u64 a1_0, .int .u64 a1_1, .int .u64 a1_2, .int .u64 a1_3] 23 (0, 0))) := ⟨h0_⟩
           have n1_ : Aside0 (w30.heap[g351]? = some (.cells #[.int .u64 t347, .int .u64 t348, .int .u64 t349, .int .u64 t350] 23 (0, 0))) := ⟨h1_⟩
           have n2_ : Aside0 (w30.heap[g360]? = some (.cells #[.int .u64 0, .int .u64 0, .int .u64 0, .int .u64 0] 23 (0, 0))) := ⟨h2_⟩
           have n3_ : Aside0 (w30.heap[g361]? = some (.cells #[.int .u64 0, .int .u64 0, .int .u64 0, .int .u64 0] 23 (0, 0))) := ⟨h3_⟩
           have n4_ : Aside0 (w.heap.size ≤ g360) := ⟨h4_⟩
           have n5_ : Aside0 (w.heap.size ≤ g360) := ⟨h5_⟩
           have n6_ : Aside0 (g346 ≠ g360) := ⟨h6_⟩
           have n7_ : Aside0 (g360 ≠ g346) := ⟨h7_⟩
           have n8_ : Aside0 (g351 ≠ g360) := ⟨h8_⟩
           have n9_ : Aside0 (g360 ≠ g351) := ⟨h9_⟩
           have n10_ : Aside0 (g361 ≠ g360) := ⟨h10_⟩
           have n11_ : Aside0 (g360 ≠ g361) := ⟨h11_⟩
           have n12_ : Aside0 (w.heap.size ≤ g361) := ⟨h12_⟩
           have n13_ : Aside0 (w.heap.size ≤ g361) := ⟨h13_⟩
           have n14_ : Aside0 (g346 ≠ g361) := ⟨h14_⟩
           have n15_ : Aside0 (g361 ≠ g346) := ⟨h15_⟩
           have n16_ : Aside0 (g351 ≠ g361) := ⟨h16_⟩
           have n17_ : Aside0 (g361 ≠ g351) := ⟨h17_⟩
           have n18_ : Aside0 (Below w.heap.size w w30) := ⟨h18_⟩
           clear B346
           clear B351
           clear HB
           clear h0_ h1_ h2_ h3_ h4_ h5_ h6_ h7_ h8_ h9_ h10_ h11_ h12_ h13_ h14_ h15_ h16_ h17_ h18_
           have B346 := n0_
           have B351 := n1_
           have B360 := n2_
           have B361 := n3_
           have GW360 := n4_
           have GE360 := n5_
           have NB346_360 := n6_
           have NB360_346 := n7_
           have NB351_360 := n8_
           have NB360_351 := n9_
           have NB361_360 := n10_
           have NB360_361 := n11_
           have GW361 := n12_
           have GE361 := n13_
           have NB346_361 := n14_
           have NB361_346 := n15_
           have NB351_361 := n16_
           have NB361_351 := n17_
           have HB := n18_
           clear n0_ n1_ n2_ n3_ n4_ n5_ n6_ n7_ n8_ n9_ n10_ n11_ n12_ n13_ n14_ n15_ n16_ n17_ n18_
           have hL : w30.cell? ⟨g346, 0, none⟩ = some (.int .u64 a1_0) ∧ w30.cell? ⟨g346, 1, none⟩ = some (.int .u64 a1_1) ∧ w30.cell? ⟨g346, 2, none⟩ = some (.int .u64 a1_2) ∧ w30.cell? ⟨g346, 3, none⟩ = some (.int .u64 a1_3) := hS_
           refine norm_ (a' := ?_) ?_ ?_
           rotate_left
           ·simp only [putAll, Act.put, List.setIfInBounds_toArray, List.set_cons_zero, List.set_cons_succ]
            rfl
           refine one_ (i := 5) (N := some 20) z9_5_ rfl rfl (on_ T_) (by decide) (fun K hK => ?_)
           refine goes_ Tryd.func25 (by kernel_rfl) rfl #[.int .i64 (wrap64 (Int.tmod a0 4)), .agg #[.int .u64 a1_0, .int .u64 a1_1, .int .u64 a1_2, .int .u64 a1_3]] (by rfl) rfl rfl (by (try simp only [List.map_toArray, List.map_cons, List.map_nil]); first | done | rfl) ?_
           with_reducible refine (sponge_Inverse.calls k (wrap64 (Int.tmod a0 4)) a1_0 a1_1 a1_2 a1_3 t356 t357 t358 t359 _ ?side1 A5.out).mono ?_
           (case side1 => repeat (first | exact (GL.below HRG.out HB.out) | (with_reducible refine GL.alloc ?_ _) | (with_reducible refine GL.drewN ?_ _) | (with_reducible refine GL.drew ?_)))
           rintro e w31 ⟨rfl, hb⟩
           refine ⟨_, rfl, ?_⟩
           have n0_ := Aside0.mk (blk_below (g := g346) (o := .cells #[.int .u64 a1_0, .int .u64 a1_1, .int .u64 a1_2, .int .u64 a1_3] 23 (0, 0)) (by (with_reducible repeat first | refine blk_drewN ?_ _ | refine blk_drew ?_ | refine blk_alloc ?_ _); exact B346.out) hb)
           have n1_ := Aside0.mk (blk_below (g := g351) (o := .cells #[.int .u64 t347, .int .u64 t348, .int .u64 t349, .int .u64 t350] 23 (0, 0)) (by (with_reducible repeat first | refine blk_drewN ?_ _ | refine blk_drew ?_ | refine blk_alloc ?_ _); exact B351.out) hb)
           have n2_ := Aside0.mk (blk_below (g := g360) (o := .cells #[.int .u64 0, .int .u64 0, .int .u64 0, .int .u64 0] 23 (0, 0)) (by (with_reducible repeat first | refine blk_drewN ?_ _ | refine blk_drew ?_ | refine blk_alloc ?_ _); exact B360.out) hb)
           have n3_ := Aside0.mk (blk_below (g := g361) (o := .cells #[.int .u64 0, .int .u64 0, .int .u64 0, .int .u64 0] 23 (0, 0)) (by (with_reducible repeat first | refine blk_drewN ?_ _ | refine blk_drew ?_ | refine blk_alloc ?_ _); exact B361.out) hb)
           have n4_ := Aside0.mk (below_step (by repeat (first | (with_reducible first | exact HB.out | apply below_alloc | apply pw_below_drewN | apply below_drew1 | refine below_set ?_ GE346.out | refine below_set ?_ GE351.out | refine below_set ?_ GE360.out | refine below_set ?_ GE361.out) | exact HB.out)) hb)
           clear B346
           clear B351
           clear B360
           clear B361
           clear HB
           have B346 := n0_
           have B351 := n1_
           have B360 := n2_
           have B361 := n3_
           have HB := n4_
           clear n0_ n1_ n2_ n3_ n4_
           (try clear hb)
           (try clear hb2)
           (try clear hk)
           (try clear hi)
           refine hK.out _ _ ⟨bq_ B346 0, bq_ B346 1, bq_ B346 2, bq_ B346 3⟩ (fun hL => ?_)
           clear hK K
           refine norm_ (a' := ?_) ?_ ?_
           rotate_left
           ·show Act.put _ (some 20) _ = _
            simp only [Act.put, sa_, sb_, sc_, i64_w, i32_w]
            rfl
           exact norm_ (by first | (simp only [putAll, Act.put, List.setIfInBounds_toArray, List.set_cons_zero, List.set_cons_succ]; done) | (simp only [putAll, Act.put, List.setIfInBounds_toArray, List.set_cons_zero, List.set_cons_succ]; rfl)) (hJ2_5_6_7 (g360, g361) _ ⟨hL, (by (with_reducible repeat first | refine blk_drewN ?_ _ | refine blk_drew ?_ | refine blk_alloc ?_ _); exact B346.out), (by (with_reducible repeat first | refine blk_drewN ?_ _ | refine blk_drew ?_ | refine blk_alloc ?_ _); exact B351.out), (by (with_reducible repeat first | refine blk_drewN ?_ _ | refine blk_drew ?_ | refine blk_alloc ?_ _); exact B360.out), (by (with_reducible repeat first | refine blk_drewN ?_ _ | refine blk_drew ?_ | refine blk_alloc ?_ _); exact B361.out), GW360.out, GE360.out, NB346_360.out, NB360_346.out, NB351_360.out, NB360_351.out, NB361_360.out, NB360_361.out, GW361.out, GE361.out, NB346_361.out, NB361_346.out, NB351_361.out, NB361_351.out, (by repeat (first | (with_reducible first | exact HB.out | apply below_alloc | apply pw_below_drewN | apply below_drew1 | refine below_set ?_ GE346.out | refine below_set ?_ GE351.out | refine below_set ?_ GE360.out | refine below_set ?_ GE361.out) | exact HB.out))⟩)
         ·skip
          rintro g361 w30 ⟨hS_, h0_, h1_, h2_, h3_, h4_, h5_, h6_, h7_, h8_, h9_⟩
          have n0_ : Aside0 (w30.heap[g346]? = some (.cells #[.int .u64 a1_0, .int .u64 a1_1, .int .u64 a1_2, .int .u64 a1_3] 23 (0, 0))) := ⟨h0_⟩
          have n1_ : Aside0 (w30.heap[g351]? = some (.cells #[.int .u64 t347, .int .u64 t348, .int .u64 t349, .int .u64 t350] 23 (0, 0))) := ⟨h1_⟩
          have n2_ : Aside0 (w30.heap[g361]? = some (.cells #[.int .u64 0, .int .u64 0, .int .u64 0, .int .u64 0] 23 (0, 0))) := ⟨h2_⟩
          have n3_ : Aside0 (w.heap.size ≤ g361) := ⟨h3_⟩
          have n4_ : Aside0 (w.heap.size ≤ g361) := ⟨h4_⟩
          have n5_ : Aside0 (g346 ≠ g361) := ⟨h5_⟩
          have n6_ : Aside0 (g361 ≠ g346) := ⟨h6_⟩
          have n7_ : Aside0 (g351 ≠ g361) := ⟨h7_⟩
          have n8_ : Aside0 (g361 ≠ g351) := ⟨h8_⟩
          have n9_ : Aside0 (Below w.heap.size w w30) := ⟨h9_⟩
          clear B346
          clear B351
          clear HB
          clear h0_ h1_ h2_ h3_ h4_ h5_ h6_ h7_ h8_ h9_
          have B346 := n0_
          have B351 := n1_
          have B361 := n2_
          have GW361 := n3_
          have GE361 := n4_
          have NB346_361 := n5_
          have NB361_346 := n6_
          have NB351_361 := n7_
          have NB361_351 := n8_
          have HB := n9_
          clear n0_ n1_ n2_ n3_ n4_ n5_ n6_ n7_ n8_ n9_
          have hL : w30.cell? ⟨g346, 0, none⟩ = some (.int .u64 a1_0) ∧ w30.cell? ⟨g346, 1, none⟩ = some (.int .u64 a1_1) ∧ w30.cell? ⟨g346, 2, none⟩ = some (.int .u64 a1_2) ∧ w30.cell? ⟨g346, 3, none⟩ = some (.int .u64 a1_3) := hS_
          refine norm_ (a' := ?_) ?_ ?_
          rotate_left
          ·simp only [putAll, Act.put, List.setIfInBounds_toArray, List.set_cons_zero, List.set_cons_succ]
           rfl
          refine one_ (i := 6) (N := some 7) z9_5_ rfl rfl (on_ T_) (by decide) (fun K hK => ?_)
          refine box_step ?hg (N := 7) ?hd (cs := #[.int .u64 0, .int .u64 0, .int .u64 0, .int .u64 0]) (t := 23) ?hr ?_; (case hd => rfl); (case hg => rfl); (case hr => first | (go_simp; done) | (go_simp; rfl))
          intro g360 hg w31 hbox hb
          have n0_ := Aside0.mk (blk_below (g := g346) (o := .cells #[.int .u64 a1_0, .int .u64 a1_1, .int .u64 a1_2, .int .u64 a1_3] 23 (0, 0)) (by (with_reducible repeat first | refine blk_drewN ?_ _ | refine blk_drew ?_ | refine blk_alloc ?_ _); exact B346.out) hb)
          have n1_ := Aside0.mk (blk_below (g := g351) (o := .cells #[.int .u64 t347, .int .u64 t348, .int .u64 t349, .int .u64 t350] 23 (0, 0)) (by (with_reducible repeat first | refine blk_drewN ?_ _ | refine blk_drew ?_ | refine blk_alloc ?_ _); exact B351.out) hb)
          have n2_ := Aside0.mk (blk_below (g := g361) (o := .cells #[.int .u64 0, .int .u64 0, .int .u64 0, .int .u64 0] 23 (0, 0)) (by (with_reducible repeat first | refine blk_drewN ?_ _ | refine blk_drew ?_ | refine blk_alloc ?_ _); exact B361.out) hb)
          have n3_ := Aside0.mk (below_step (by repeat (first | (with_reducible first | exact HB.out | apply below_alloc | apply pw_below_drewN | apply below_drew1 | refine below_set ?_ GE346.out | refine below_set ?_ GE351.out | refine below_set ?_ GE361.out) | exact HB.out)) hb)
          have n4_ := Aside0.mk (hbox)
          have n5_ := Aside0.mk ((by rw [hg]; exact (below_size (by repeat (first | (with_reducible first | exact HB.out | apply below_alloc | apply pw_below_drewN | apply below_drew1 | refine below_set ?_ GE346.out | refine below_set ?_ GE351.out | refine below_set ?_ GE361.out) | exact HB.out))) : w.heap.size ≤ g360))
          have n6_ := Aside0.mk ((by rw [hg]; exact (below_size (by repeat (first | (with_reducible first | exact HB.out | apply below_alloc | apply pw_below_drewN | apply below_drew1 | refine below_set ?_ GE346.out | refine below_set ?_ GE351.out | refine below_set ?_ GE361.out) | exact HB.out))) : w.heap.size ≤ g360))
          have n7_ := Aside0.mk ((by rw [hg]; exact Nat.ne_of_lt (blk_lt (g := g346) (o := .cells #[.int .u64 a1_0, .int .u64 a1_1, .int .u64 a1_2, .int .u64 a1_3] 23 (0, 0)) (by (with_reducible repeat first | refine blk_drewN ?_ _ | refine blk_drew ?_ | refine blk_alloc ?_ _); exact B346.out)) : g346 ≠ g360))
          have n8_ := Aside0.mk ((by rw [hg]; exact Nat.ne_of_gt (blk_lt (g := g346) (o := .cells #[.int .u64 a1_0, .int .u64 a1_1, .int .u64 a1_2, .int .u64 a1_3] 23 (0, 0)) (by (with_reducible repeat first | refine blk_drewN ?_ _ | refine blk_drew ?_ | refine blk_alloc ?_ _); exact B346.out)) : g360 ≠ g346))
          have n9_ := Aside0.mk ((by rw [hg]; exact Nat.ne_of_lt (blk_lt (g := g351) (o := .cells #[.int .u64 t347, .int .u64 t348, .int .u64 t349, .int .u64 t350] 23 (0, 0)) (by (with_reducible repeat first | refine blk_drewN ?_ _ | refine blk_drew ?_ | refine blk_alloc ?_ _); exact B351.out)) : g351 ≠ g360))
          have n10_ := Aside0.mk ((by rw [hg]; exact Nat.ne_of_gt (blk_lt (g := g351) (o := .cells #[.int .u64 t347, .int .u64 t348, .int .u64 t349, .int .u64 t350] 23 (0, 0)) (by (with_reducible repeat first | refine blk_drewN ?_ _ | refine blk_drew ?_ | refine blk_alloc ?_ _); exact B351.out)) : g360 ≠ g351))
          have n11_ := Aside0.mk ((by rw [hg]; exact Nat.ne_of_lt (blk_lt (g := g361) (o := .cells #[.int .u64 0, .int .u64 0, .int .u64 0, .int .u64 0] 23 (0, 0)) (by (with_reducible repeat first | refine blk_drewN ?_ _ | refine blk_drew ?_ | refine blk_alloc ?_ _); exact B361.out)) : g361 ≠ g360))
          have n12_ := Aside0.mk ((by rw [hg]; exact Nat.ne_of_gt (blk_lt (g := g361) (o := .cells #[.int .u64 0, .int .u64 0, .int .u64 0, .int .u64 0] 23 (0, 0)) (by (with_reducible repeat first | refine blk_drewN ?_ _ | refine blk_drew ?_ | refine blk_alloc ?_ _); exact B361.out)) : g360 ≠ g361))
          clear B346
          clear B351
          clear B361
          clear HB
          have B346 := n0_
          have B351 := n1_
          have B361 := n2_
          have HB := n3_
          have B360 := n4_
          have GW360 := n5_
          have GE360 := n6_
          have NB346_360 := n7_
          have NB360_346 := n8_
          have NB351_360 := n9_
          have NB360_351 := n10_
          have NB361_360 := n11_
          have NB360_361 := n12_
          clear n0_ n1_ n2_ n3_ n4_ n5_ n6_ n7_ n8_ n9_ n10_ n11_ n12_
          clear hb hbox hg
          refine hK.out _ _ ⟨bq_ B346 0, bq_ B346 1, bq_ B346 2, bq_ B346 3⟩ (fun hL => ?_)
          clear hK K
          refine norm_ (a' := ?_) ?_ ?_
          rotate_left
          ·show Act.put _ (some 7) _ = _
           simp only [Act.put, sa_, sb_, sc_, i64_w, i32_w]
           rfl
          exact norm_ (by first | (simp only [putAll, Act.put, List.setIfInBounds_toArray, List.set_cons_zero, List.set_cons_succ]; done) | (simp only [putAll, Act.put, List.setIfInBounds_toArray, List.set_cons_zero, List.set_cons_succ]; rfl)) (hJ2_5_6_7 (g360, g361) _ ⟨hL, (by (with_reducible repeat first | refine blk_drewN ?_ _ | refine blk_drew ?_ | refine blk_alloc ?_ _); exact B346.out), (by (with_reducible repeat first | refine blk_drewN ?_ _ | refine blk_drew ?_ | refine blk_alloc ?_ _); exact B351.out), (by (with_reducible repeat first | refine blk_drewN ?_ _ | refine blk_drew ?_ | refine blk_alloc ?_ _); exact B360.out), (by (with_reducible repeat first | refine blk_drewN ?_ _ | refine blk_drew ?_ | refine blk_alloc ?_ _); exact B361.out), GW360.out, GE360.out, NB346_360.out, NB360_346.out, NB351_360.out, NB360_351.out, NB361_360.out, NB360_361.out, GW361.out, GE361.out, NB346_361.out, NB361_346.out, NB351_361.out, NB361_351.out, (by repeat (first | (with_reducible first | exact HB.out | apply below_alloc | apply pw_below_drewN | apply below_drew1 | refine below_set ?_ GE346.out | refine below_set ?_ GE351.out | refine below_set ?_ GE361.out | refine below_set ?_ GE360.out) | exact HB.out))⟩)
        ·skip
         rintro g360 w30 ⟨hS_, h0_, h1_, h2_, h3_, h4_, h5_, h6_, h7_, h8_, h9_⟩
         have n0_ : Aside0 (w30.heap[g346]? = some (.cells #[.int .u64 a1_0, .int .u64 a1_1, .int .u64 a1_2, .int .u64 a1_3] 23 (0, 0))) := ⟨h0_⟩
         have n1_ : Aside0 (w30.heap[g351]? = some (.cells #[.int .u64 t347, .int .u64 t348, .int .u64 t349, .int .u64 t350] 23 (0, 0))) := ⟨h1_⟩
         have n2_ : Aside0 (w30.heap[g360]? = some (.cells #[.int .u64 0, .int .u64 0, .int .u64 0, .int .u64 0] 23 (0, 0))) := ⟨h2_⟩
         have n3_ : Aside0 (w.heap.size ≤ g360) := ⟨h3_⟩
         have n4_ : Aside0 (w.heap.size ≤ g360) := ⟨h4_⟩
         have n5_ : Aside0 (g346 ≠ g360) := ⟨h5_⟩
         have n6_ : Aside0 (g360 ≠ g346) := ⟨h6_⟩
         have n7_ : Aside0 (g351 ≠ g360) := ⟨h7_⟩
         have n8_ : Aside0 (g360 ≠ g351) := ⟨h8_⟩
         have n9_ : Aside0 (Below w.heap.size w w30) := ⟨h9_⟩
         clear B346
         clear B351
         clear HB
         clear h0_ h1_ h2_ h3_ h4_ h5_ h6_ h7_ h8_ h9_
         have B346 := n0_
         have B351 := n1_
         have B360 := n2_
         have GW360 := n3_
         have GE360 := n4_
         have NB346_360 := n5_
         have NB360_346 := n6_
         have NB351_360 := n7_
         have NB360_351 := n8_
         have HB := n9_
         clear n0_ n1_ n2_ n3_ n4_ n5_ n6_ n7_ n8_ n9_
         have hL : w30.cell? ⟨g346, 0, none⟩ = some (.int .u64 a1_0) ∧ w30.cell? ⟨g346, 1, none⟩ = some (.int .u64 a1_1) ∧ w30.cell? ⟨g346, 2, none⟩ = some (.int .u64 a1_2) ∧ w30.cell? ⟨g346, 3, none⟩ = some (.int .u64 a1_3) := hS_
         refine norm_ (a' := ?_) ?_ ?_
         rotate_left
         ·simp only [putAll, Act.put, List.setIfInBounds_toArray, List.set_cons_zero, List.set_cons_succ]
          rfl
         refine one_ (i := 7) (N := some 8) z9_5_ rfl rfl (on_ T_) (by decide) (fun K hK => ?_)
         refine box_step ?hg (N := 8) ?hd (cs := #[.int .u64 0, .int .u64 0, .int .u64 0, .int .u64 0]) (t := 23) ?hr ?_; (case hd => rfl); (case hg => rfl); (case hr => first | (go_simp; done) | (go_simp; rfl))
         intro g361 hg w31 hbox hb
         have n0_ := Aside0.mk (blk_below (g := g346) (o := .cells #[.int .u64 a1_0, .int .u64 a1_1, .int .u64 a1_2, .int .u64 a1_3] 23 (0, 0)) (by (with_reducible repeat first | refine blk_drewN ?_ _ | refine blk_drew ?_ | refine blk_alloc ?_ _); exact B346.out) hb)
         have n1_ := Aside0.mk (blk_below (g := g351) (o := .cells #[.int .u64 t347, .int .u64 t348, .int .u64 t349, .int .u64 t350] 23 (0, 0)) (by (with_reducible repeat first | refine blk_drewN ?_ _ | refine blk_drew ?_ | refine blk_alloc ?_ _); exact B351.out) hb)
         have n2_ := Aside0.mk (blk_below (g := g360) (o := .cells #[.int .u64 0, .int .u64 0, .int .u64 0, .int .u64 0] 23 (0, 0)) (by (with_reducible repeat first | refine blk_drewN ?_ _ | refine blk_drew ?_ | refine blk_alloc ?_ _); exact B360.out) hb)
         have n3_ := Aside0.mk (below_step (by repeat (first | (with_reducible first | exact HB.out | apply below_alloc | apply pw_below_drewN | apply below_drew1 | refine below_set ?_ GE346.out | refine below_set ?_ GE351.out | refine below_set ?_ GE360.out) | exact HB.out)) hb)
         have n4_ := Aside0.mk (hbox)
         have n5_ := Aside0.mk ((by rw [hg]; exact (below_size (by repeat (first | (with_reducible first | exact HB.out | apply below_alloc | apply pw_below_drewN | apply below_drew1 | refine below_set ?_ GE346.out | refine below_set ?_ GE351.out | refine below_set ?_ GE360.out) | exact HB.out))) : w.heap.size ≤ g361))
         have n6_ := Aside0.mk ((by rw [hg]; exact (below_size (by repeat (first | (with_reducible first | exact HB.out | apply below_alloc | apply pw_below_drewN | apply below_drew1 | refine below_set ?_ GE346.out | refine below_set ?_ GE351.out | refine below_set ?_ GE360.out) | exact HB.out))) : w.heap.size ≤ g361))
         have n7_ := Aside0.mk ((by rw [hg]; exact Nat.ne_of_lt (blk_lt (g := g346) (o := .cells #[.int .u64 a1_0, .int .u64 a1_1, .int .u64 a1_2, .int .u64 a1_3] 23 (0, 0)) (by (with_reducible repeat first | refine blk_drewN ?_ _ | refine blk_drew ?_ | refine blk_alloc ?_ _); exact B346.out)) : g346 ≠ g361))
         have n8_ := Aside0.mk ((by rw [hg]; exact Nat.ne_of_gt (blk_lt (g := g346) (o := .cells #[.int .u64 a1_0, .int .u64 a1_1, .int .u64 a1_2, .int .u64 a1_3] 23 (0, 0)) (by (with_reducible repeat first | refine blk_drewN ?_ _ | refine blk_drew ?_ | refine blk_alloc ?_ _); exact B346.out)) : g361 ≠ g346))
         have n9_ := Aside0.mk ((by rw [hg]; exact Nat.ne_of_lt (blk_lt (g := g351) (o := .cells #[.int .u64 t347, .int .u64 t348, .int .u64 t349, .int .u64 t350] 23 (0, 0)) (by (with_reducible repeat first | refine blk_drewN ?_ _ | refine blk_drew ?_ | refine blk_alloc ?_ _); exact B351.out)) : g351 ≠ g361))
         have n10_ := Aside0.mk ((by rw [hg]; exact Nat.ne_of_gt (blk_lt (g := g351) (o := .cells #[.int .u64 t347, .int .u64 t348, .int .u64 t349, .int .u64 t350] 23 (0, 0)) (by (with_reducible repeat first | refine blk_drewN ?_ _ | refine blk_drew ?_ | refine blk_alloc ?_ _); exact B351.out)) : g361 ≠ g351))
         have n11_ := Aside0.mk ((by rw [hg]; exact Nat.ne_of_lt (blk_lt (g := g360) (o := .cells #[.int .u64 0, .int .u64 0, .int .u64 0, .int .u64 0] 23 (0, 0)) (by (with_reducible repeat first | refine blk_drewN ?_ _ | refine blk_drew ?_ | refine blk_alloc ?_ _); exact B360.out)) : g360 ≠ g361))
         have n12_ := Aside0.mk ((by rw [hg]; exact Nat.ne_of_gt (blk_lt (g := g360) (o := .cells #[.int .u64 0, .int .u64 0, .int .u64 0, .int .u64 0] 23 (0, 0)) (by (with_reducible repeat first | refine blk_drewN ?_ _ | refine blk_drew ?_ | refine blk_alloc ?_ _); exact B360.out)) : g361 ≠ g360))
         clear B346
         clear B351
         clear B360
         clear HB
         have B346 := n0_
         have B351 := n1_
         have B360 := n2_
         have HB := n3_
         have B361 := n4_
         have GW361 := n5_
         have GE361 := n6_
         have NB346_361 := n7_
         have NB361_346 := n8_
         have NB351_361 := n9_
         have NB361_351 := n10_
         have NB360_361 := n11_
         have NB361_360 := n12_
         clear n0_ n1_ n2_ n3_ n4_ n5_ n6_ n7_ n8_ n9_ n10_ n11_ n12_
         clear hb hbox hg
         refine hK.out _ _ ⟨bq_ B346 0, bq_ B346 1, bq_ B346 2, bq_ B346 3⟩ (fun hL => ?_)
         clear hK K
         refine norm_ (a' := ?_) ?_ ?_
         rotate_left
         ·show Act.put _ (some 8) _ = _
          simp only [Act.put, sa_, sb_, sc_, i64_w, i32_w]
          rfl
         exact norm_ (by first | (simp only [putAll, Act.put, List.setIfInBounds_toArray, List.set_cons_zero, List.set_cons_succ]; done) | (simp only [putAll, Act.put, List.setIfInBounds_toArray, List.set_cons_zero, List.set_cons_succ]; rfl)) (hJ2_5_6_7 (g360, g361) _ ⟨hL, (by (with_reducible repeat first | refine blk_drewN ?_ _ | refine blk_drew ?_ | refine blk_alloc ?_ _); exact B346.out), (by (with_reducible repeat first | refine blk_drewN ?_ _ | refine blk_drew ?_ | refine blk_alloc ?_ _); exact B351.out), (by (with_reducible repeat first | refine blk_drewN ?_ _ | refine blk_drew ?_ | refine blk_alloc ?_ _); exact B360.out), (by (with_reducible repeat first | refine blk_drewN ?_ _ | refine blk_drew ?_ | refine blk_alloc ?_ _); exact B361.out), GW360.out, GE360.out, NB346_360.out, NB360_346.out, NB351_360.out, NB360_351.out, NB361_360.out, NB360_361.out, GW361.out, GE361.out, NB346_361.out, NB361_346.out, NB351_361.out, NB361_351.out, (by repeat (first | (with_reducible first | exact HB.out | apply below_alloc | apply pw_below_drewN | apply below_drew1 | refine below_set ?_ GE346.out | refine below_set ?_ GE351.out | refine below_set ?_ GE360.out | refine below_set ?_ GE361.out) | exact HB.out))⟩)
       rintro ⟨g360, g361⟩ w31 ⟨hS_, h0_, h1_, h2_, h3_, h4_, h5_, h6_, h7_, h8_, h9_, h10_, h11_, h12_, h13_, h14_, h15_, h16_, h17_, h18_⟩
       have n0_ : Aside0 (w31.heap[g346]? = some (.cells #[.int .u64 a1_0, .int .u64 a1_1, .int .u64 a1_2, .int .u64 a1_3] 23 (0, 0))) := ⟨h0_⟩
       have n1_ : Aside0 (w31.heap[g351]? = some (.cells #[.int .u64 t347, .int .u64 t348, .int .u64 t349, .int .u64 t350] 23 (0, 0))) := ⟨h1_⟩
       have n2_ : Aside0 (w31.heap[g360]? = some (.cells #[.int .u64 0, .int .u64 0, .int .u64 0, .int .u64 0] 23 (0, 0))) := ⟨h2_⟩
       have n3_ : Aside0 (w31.heap[g361]? = some (.cells #[.int .u64 0, .int .u64 0, .int .u64 0, .int .u64 0] 23 (0, 0))) := ⟨h3_⟩
       have n4_ : Aside0 (w.heap.size ≤ g360) := ⟨h4_⟩
       have n5_ : Aside0 (w.heap.size ≤ g360) := ⟨h5_⟩
       have n6_ : Aside0 (g346 ≠ g360) := ⟨h6_⟩
       have n7_ : Aside0 (g360 ≠ g346) := ⟨h7_⟩
       have n8_ : Aside0 (g351 ≠ g360) := ⟨h8_⟩
       have n9_ : Aside0 (g360 ≠ g351) := ⟨h9_⟩
       have n10_ : Aside0 (g361 ≠ g360) := ⟨h10_⟩
       have n11_ : Aside0 (g360 ≠ g361) := ⟨h11_⟩
       have n12_ : Aside0 (w.heap.size ≤ g361) := ⟨h12_⟩
       have n13_ : Aside0 (w.heap.size ≤ g361) := ⟨h13_⟩
       have n14_ : Aside0 (g346 ≠ g361) := ⟨h14_⟩
       have n15_ : Aside0 (g361 ≠ g346) := ⟨h15_⟩
       have n16_ : Aside0 (g351 ≠ g361) := ⟨h16_⟩
       have n17_ : Aside0 (g361 ≠ g351) := ⟨h17_⟩
       have n18_ : Aside0 (Below w.heap.size w w31) := ⟨h18_⟩
       clear B346
       clear B351
       clear HB
       clear h0_ h1_ h2_ h3_ h4_ h5_ h6_ h7_ h8_ h9_ h10_ h11_ h12_ h13_ h14_ h15_ h16_ h17_ h18_
       have B346 := n0_
       have B351 := n1_
       have B360 := n2_
       have B361 := n3_
       have GW360 := n4_
       have GE360 := n5_
       have NB346_360 := n6_
       have NB360_346 := n7_
       have NB351_360 := n8_
       have NB360_351 := n9_
       have NB361_360 := n10_
       have NB360_361 := n11_
       have GW361 := n12_
       have GE361 := n13_
       have NB346_361 := n14_
       have NB361_346 := n15_
       have NB351_361 := n16_
       have NB361_351 := n17_
       have HB := n18_
       clear n0_ n1_ n2_ n3_ n4_ n5_ n6_ n7_ n8_ n9_ n10_ n11_ n12_ n13_ n14_ n15_ n16_ n17_ n18_
       have hL : w31.cell? ⟨g346, 0, none⟩ = some (.int .u64 a1_0) ∧ w31.cell? ⟨g346, 1, none⟩ = some (.int .u64 a1_1) ∧ w31.cell? ⟨g346, 2, none⟩ = some (.int .u64 a1_2) ∧ w31.cell? ⟨g346, 3, none⟩ = some (.int .u64 a1_3) := hS_
       refine norm_ (a' := ?_) ?_ ?_
       rotate_left
       ·simp only [putAll, Act.put, List.setIfInBounds_toArray, List.set_cons_zero, List.set_cons_succ]
        rfl
       refine one_ (i := 8) (N := none) z9_16_ rfl rfl (on_ T_) (by decide) (fun K hK => ?_)
       have hs32 : w31.cell? ⟨g360, 0, none⟩ = some (.int .u64 0) := bq_ B360 0
       have hfs32 := blk_frozen B360.out 0
       have hns32_0 := NB346_360.out
       have hns32_1 := NB351_360.out
       have hns32_3 := NB361_360.out
       have hms32_0 := NB360_346.out
       have hms32_1 := NB360_351.out
       have hms32_3 := NB360_361.out
       have hs33 : w31.cell? ⟨g360, 1, none⟩ = some (.int .u64 0) := bq_ B360 1
       have hfs33 := blk_frozen B360.out 1
       have hns33_0 := NB346_360.out
       have hns33_1 := NB351_360.out
       have hns33_3 := NB361_360.out
       have hms33_0 := NB360_346.out
       have hms33_1 := NB360_351.out
       have hms33_3 := NB360_361.out
       have hs34 : w31.cell? ⟨g360, 2, none⟩ = some (.int .u64 0) := bq_ B360 2
       have hfs34 := blk_frozen B360.out 2
       have hns34_0 := NB346_360.out
       have hns34_1 := NB351_360.out
       have hns34_3 := NB361_360.out
       have hms34_0 := NB360_346.out
       have hms34_1 := NB360_351.out
       have hms34_3 := NB360_361.out
       have hs35 : w31.cell? ⟨g360, 3, none⟩ = some (.int .u64 0) := bq_ B360 3
       have hfs35 := blk_frozen B360.out 3
       have hns35_0 := NB346_360.out
       have hns35_1 := NB351_360.out
       have hns35_3 := NB361_360.out
       have hms35_0 := NB360_346.out
       have hms35_1 := NB360_351.out
       have hms35_3 := NB360_361.out
       refine skip_ (w1 := ?_) (by rfl) rfl ?_ ?_
       rotate_left
       ·go_simp
        rfl
       refine hK.out _ _ ⟨((cell_far (p := ⟨g360, _, none⟩) NB346_360.out _).trans (((cell_far (p := ⟨g360, _, none⟩) NB346_360.out _).trans (((cell_far (p := ⟨g360, _, none⟩) NB346_360.out _).trans (((cell_far (p := ⟨g360, _, none⟩) NB346_360.out _).trans (hL.1)))))))), ((cell_far (p := ⟨g360, _, none⟩) NB346_360.out _).trans (((cell_far (p := ⟨g360, _, none⟩) NB346_360.out _).trans (((cell_far (p := ⟨g360, _, none⟩) NB346_360.out _).trans (((cell_far (p := ⟨g360, _, none⟩) NB346_360.out _).trans (hL.2.1)))))))), ((cell_far (p := ⟨g360, _, none⟩) NB346_360.out _).trans (((cell_far (p := ⟨g360, _, none⟩) NB346_360.out _).trans (((cell_far (p := ⟨g360, _, none⟩) NB346_360.out _).trans (((cell_far (p := ⟨g360, _, none⟩) NB346_360.out _).trans (hL.2.2.1)))))))), ((cell_far (p := ⟨g360, _, none⟩) NB346_360.out _).trans (((cell_far (p := ⟨g360, _, none⟩) NB346_360.out _).trans (((cell_far (p := ⟨g360, _, none⟩) NB346_360.out _).trans (((cell_far (p := ⟨g360, _, none⟩) NB346_360.out _).trans (hL.2.2.2))))))))⟩ (fun hL => ?_)
       clear hK K
       refine one_ (i := 9) (N := none) z9_17_ rfl rfl (on_ T_) (by decide) (fun K hK => ?_)
       have hs36 : w31.cell? ⟨g361, 0, none⟩ = some (.int .u64 0) := bq_ B361 0
       have hfs36 := blk_frozen B361.out 0
       have hns36_0 := NB346_361.out
       have hns36_1 := NB351_361.out
       have hns36_2 := NB360_361.out
       have hms36_0 := NB361_346.out
       have hms36_1 := NB361_351.out
       have hms36_2 := NB361_360.out
       have hs37 : w31.cell? ⟨g361, 1, none⟩ = some (.int .u64 0) := bq_ B361 1
       have hfs37 := blk_frozen B361.out 1
       have hns37_0 := NB346_361.out
       have hns37_1 := NB351_361.out
       have hns37_2 := NB360_361.out
       have hms37_0 := NB361_346.out
       have hms37_1 := NB361_351.out
       have hms37_2 := NB361_360.out
       have hs38 : w31.cell? ⟨g361, 2, none⟩ = some (.int .u64 0) := bq_ B361 2
       have hfs38 := blk_frozen B361.out 2
       have hns38_0 := NB346_361.out
       have hns38_1 := NB351_361.out
       have hns38_2 := NB360_361.out
       have hms38_0 := NB361_346.out
       have hms38_1 := NB361_351.out
       have hms38_2 := NB361_360.out
       have hs39 : w31.cell? ⟨g361, 3, none⟩ = some (.int .u64 0) := bq_ B361 3
       have hfs39 := blk_frozen B361.out 3
       have hns39_0 := NB346_361.out
       have hns39_1 := NB351_361.out
       have hns39_2 := NB360_361.out
       have hms39_0 := NB361_346.out
       have hms39_1 := NB361_351.out
       have hms39_2 := NB361_360.out
       refine skip_ (w1 := ?_) (by rfl) rfl ?_ ?_
       rotate_left
       ·go_simp
        rfl
       refine hK.out _ _ ⟨((cell_far (p := ⟨g361, _, none⟩) NB346_361.out _).trans (((cell_far (p := ⟨g361, _, none⟩) NB346_361.out _).trans (((cell_far (p := ⟨g361, _, none⟩) NB346_361.out _).trans (((cell_far (p := ⟨g361, _, none⟩) NB346_361.out _).trans (hL.1)))))))), ((cell_far (p := ⟨g361, _, none⟩) NB346_361.out _).trans (((cell_far (p := ⟨g361, _, none⟩) NB346_361.out _).trans (((cell_far (p := ⟨g361, _, none⟩) NB346_361.out _).trans (((cell_far (p := ⟨g361, _, none⟩) NB346_361.out _).trans (hL.2.1)))))))), ((cell_far (p := ⟨g361, _, none⟩) NB346_361.out _).trans (((cell_far (p := ⟨g361, _, none⟩) NB346_361.out _).trans (((cell_far (p := ⟨g361, _, none⟩) NB346_361.out _).trans (((cell_far (p := ⟨g361, _, none⟩) NB346_361.out _).trans (hL.2.2.1)))))))), ((cell_far (p := ⟨g361, _, none⟩) NB346_361.out _).trans (((cell_far (p := ⟨g361, _, none⟩) NB346_361.out _).trans (((cell_far (p := ⟨g361, _, none⟩) NB346_361.out _).trans (((cell_far (p := ⟨g361, _, none⟩) NB346_361.out _).trans (hL.2.2.2))))))))⟩ (fun hL => ?_)
       clear hK K
       refine done_ (done_of T_.out (by kernel_rfl)) ?_
       try go_wp2
       have n0_ : Aside0 (((((((((w31.setCell ⟨g360, 0, none⟩ (.int .u64 t352)).setCell ⟨g360, 1, none⟩ (.int .u64 t353)).setCell ⟨g360, 2, none⟩ (.int .u64 t354)).setCell ⟨g360, 3, none⟩ (.int .u64 t355)).setCell ⟨g361, 0, none⟩ (.int .u64 t356)).setCell ⟨g361, 1, none⟩ (.int .u64 t357)).setCell ⟨g361, 2, none⟩ (.int .u64 t358)).setCell ⟨g361, 3, none⟩ (.int .u64 t359)).heap[g346]? = some (.cells #[.int .u64 a1_0, .int .u64 a1_1, .int .u64 a1_2, .int .u64 a1_3] 23 (0, 0))) := ⟨by (with_reducible repeat first | refine blk_drewN ?_ _ | refine blk_drew ?_ | refine blk_alloc ?_ _); refine blk_far ?_ NB346_361.out _; (with_reducible repeat first | refine blk_drewN ?_ _ | refine blk_drew ?_ | refine blk_alloc ?_ _); refine blk_far ?_ NB346_361.out _; (with_reducible repeat first | refine blk_drewN ?_ _ | refine blk_drew ?_ | refine blk_alloc ?_ _); refine blk_far ?_ NB346_361.out _; (with_reducible repeat first | refine blk_drewN ?_ _ | refine blk_drew ?_ | refine blk_alloc ?_ _); refine blk_far ?_ NB346_361.out _; (with_reducible repeat first | refine blk_drewN ?_ _ | refine blk_drew ?_ | refine blk_alloc ?_ _); refine blk_far ?_ NB346_360.out _; (with_reducible repeat first | refine blk_drewN ?_ _ | refine blk_drew ?_ | refine blk_alloc ?_ _); refine blk_far ?_ NB346_360.out _; (with_reducible repeat first | refine blk_drewN ?_ _ | refine blk_drew ?_ | refine blk_alloc ?_ _); refine blk_far ?_ NB346_360.out _; (with_reducible repeat first | refine blk_drewN ?_ _ | refine blk_drew ?_ | refine blk_alloc ?_ _); refine blk_far ?_ NB346_360.out _; (with_reducible repeat first | refine blk_drewN ?_ _ | refine blk_drew ?_ | refine blk_alloc ?_ _); exact B346.out⟩
       have n1_ : Aside0 (((((((((w31.setCell ⟨g360, 0, none⟩ (.int .u64 t352)).setCell ⟨g360, 1, none⟩ (.int .u64 t353)).setCell ⟨g360, 2, none⟩ (.int .u64 t354)).setCell ⟨g360, 3, none⟩ (.int .u64 t355)).setCell ⟨g361, 0, none⟩ (.int .u64 t356)).setCell ⟨g361, 1, none⟩ (.int .u64 t357)).setCell ⟨g361, 2, none⟩ (.int .u64 t358)).setCell ⟨g361, 3, none⟩ (.int .u64 t359)).heap[g351]? = some (.cells #[.int .u64 t347, .int .u64 t348, .int .u64 t349, .int .u64 t350] 23 (0, 0))) := ⟨by (with_reducible repeat first | refine blk_drewN ?_ _ | refine blk_drew ?_ | refine blk_alloc ?_ _); refine blk_far ?_ NB351_361.out _; (with_reducible repeat first | refine blk_drewN ?_ _ | refine blk_drew ?_ | refine blk_alloc ?_ _); refine blk_far ?_ NB351_361.out _; (with_reducible repeat first | refine blk_drewN ?_ _ | refine blk_drew ?_ | refine blk_alloc ?_ _); refine blk_far ?_ NB351_361.out _; (with_reducible repeat first | refine blk_drewN ?_ _ | refine blk_drew ?_ | refine blk_alloc ?_ _); refine blk_far ?_ NB351_361.out _; (with_reducible repeat first | refine blk_drewN ?_ _ | refine blk_drew ?_ | refine blk_alloc ?_ _); refine blk_far ?_ NB351_360.out _; (with_reducible repeat first | refine blk_drewN ?_ _ | refine blk_drew ?_ | refine blk_alloc ?_ _); refine blk_far ?_ NB351_360.out _; (with_reducible repeat first | refine blk_drewN ?_ _ | refine blk_drew ?_ | refine blk_alloc ?_ _); refine blk_far ?_ NB351_360.out _; (with_reducible repeat first | refine blk_drewN ?_ _ | refine blk_drew ?_ | refine blk_alloc ?_ _); refine blk_far ?_ NB351_360.out _; (with_reducible repeat first | refine blk_drewN ?_ _ | refine blk_drew ?_ | refine blk_alloc ?_ _); exact B351.out⟩
       have n2_ : Aside0 (((((((((w31.setCell ⟨g360, 0, none⟩ (.int .u64 t352)).setCell ⟨g360, 1, none⟩ (.int .u64 t353)).setCell ⟨g360, 2, none⟩ (.int .u64 t354)).setCell ⟨g360, 3, none⟩ (.int .u64 t355)).setCell ⟨g361, 0, none⟩ (.int .u64 t356)).setCell ⟨g361, 1, none⟩ (.int .u64 t357)).setCell ⟨g361, 2, none⟩ (.int .u64 t358)).setCell ⟨g361, 3, none⟩ (.int .u64 t359)).heap[g360]? = some (.cells #[.int .u64 t352, .int .u64 t353, .int .u64 t354, .int .u64 t355] 23 (0, 0))) := ⟨by (with_reducible repeat first | refine blk_drewN ?_ _ | refine blk_drew ?_ | refine blk_alloc ?_ _); refine blk_far ?_ NB360_361.out _; (with_reducible repeat first | refine blk_drewN ?_ _ | refine blk_drew ?_ | refine blk_alloc ?_ _); refine blk_far ?_ NB360_361.out _; (with_reducible repeat first | refine blk_drewN ?_ _ | refine blk_drew ?_ | refine blk_alloc ?_ _); refine blk_far ?_ NB360_361.out _; (with_reducible repeat first | refine blk_drewN ?_ _ | refine blk_drew ?_ | refine blk_alloc ?_ _); refine blk_far ?_ NB360_361.out _; (with_reducible repeat first | refine blk_drewN ?_ _ | refine blk_drew ?_ | refine blk_alloc ?_ _); refine blk_put (cs := #[.int .u64 t352, .int .u64 t353, .int .u64 t354, .int .u64 0]) ?_ 3 _ rfl; (with_reducible repeat first | refine blk_drewN ?_ _ | refine blk_drew ?_ | refine blk_alloc ?_ _); refine blk_put (cs := #[.int .u64 t352, .int .u64 t353, .int .u64 0, .int .u64 0]) ?_ 2 _ rfl; (with_reducible repeat first | refine blk_drewN ?_ _ | refine blk_drew ?_ | refine blk_alloc ?_ _); refine blk_put (cs := #[.int .u64 t352, .int .u64 0, .int .u64 0, .int .u64 0]) ?_ 1 _ rfl; (with_reducible repeat first | refine blk_drewN ?_ _ | refine blk_drew ?_ | refine blk_alloc ?_ _); refine blk_put (cs := #[.int .u64 0, .int .u64 0, .int .u64 0, .int .u64 0]) ?_ 0 _ rfl; (with_reducible repeat first | refine blk_drewN ?_ _ | refine blk_drew ?_ | refine blk_alloc ?_ _); exact B360.out⟩
       have n3_ : Aside0 (((((((((w31.setCell ⟨g360, 0, none⟩ (.int .u64 t352)).setCell ⟨g360, 1, none⟩ (.int .u64 t353)).setCell ⟨g360, 2, none⟩ (.int .u64 t354)).setCell ⟨g360, 3, none⟩ (.int .u64 t355)).setCell ⟨g361, 0, none⟩ (.int .u64 t356)).setCell ⟨g361, 1, none⟩ (.int .u64 t357)).setCell ⟨g361, 2, none⟩ (.int .u64 t358)).setCell ⟨g361, 3, none⟩ (.int .u64 t359)).heap[g361]? = some (.cells #[.int .u64 t356, .int .u64 t357, .int .u64 t358, .int .u64 t359] 23 (0, 0))) := ⟨by (with_reducible repeat first | refine blk_drewN ?_ _ | refine blk_drew ?_ | refine blk_alloc ?_ _); refine blk_put (cs := #[.int .u64 t356, .int .u64 t357, .int .u64 t358, .int .u64 0]) ?_ 3 _ rfl; (with_reducible repeat first | refine blk_drewN ?_ _ | refine blk_drew ?_ | refine blk_alloc ?_ _); refine blk_put (cs := #[.int .u64 t356, .int .u64 t357, .int .u64 0, .int .u64 0]) ?_ 2 _ rfl; (with_reducible repeat first | refine blk_drewN ?_ _ | refine blk_drew ?_ | refine blk_alloc ?_ _); refine blk_put (cs := #[.int .u64 t356, .int .u64 0, .int .u64 0, .int .u64 0]) ?_ 1 _ rfl; (with_reducible repeat first | refine blk_drewN ?_ _ | refine blk_drew ?_ | refine blk_alloc ?_ _); refine blk_put (cs := #[.int .u64 0, .int .u64 0, .int .u64 0, .int .u64 0]) ?_ 0 _ rfl; (with_reducible repeat first | refine blk_drewN ?_ _ | refine blk_drew ?_ | refine blk_alloc ?_ _); refine blk_far ?_ NB361_360.out _; (with_reducible repeat first | refine blk_drewN ?_ _ | refine blk_drew ?_ | refine blk_alloc ?_ _); refine blk_far ?_ NB361_360.out _; (with_reducible repeat first | refine blk_drewN ?_ _ | refine blk_drew ?_ | refine blk_alloc ?_ _); refine blk_far ?_ NB361_360.out _; (with_reducible repeat first | refine blk_drewN ?_ _ | refine blk_drew ?_ | refine blk_alloc ?_ _); refine blk_far ?_ NB361_360.out _; (with_reducible repeat first | refine blk_drewN ?_ _ | refine blk_drew ?_ | refine blk_alloc ?_ _); exact B361.out⟩
       have n4_ : Aside0 (Below w.heap.size w ((((((((w31.setCell ⟨g360, 0, none⟩ (.int .u64 t352)).setCell ⟨g360, 1, none⟩ (.int .u64 t353)).setCell ⟨g360, 2, none⟩ (.int .u64 t354)).setCell ⟨g360, 3, none⟩ (.int .u64 t355)).setCell ⟨g361, 0, none⟩ (.int .u64 t356)).setCell ⟨g361, 1, none⟩ (.int .u64 t357)).setCell ⟨g361, 2, none⟩ (.int .u64 t358)).setCell ⟨g361, 3, none⟩ (.int .u64 t359))) := ⟨by repeat (first | (with_reducible first | exact HB.out | apply below_alloc | apply pw_below_drewN | apply below_drew1 | refine below_set ?_ GE346.out | refine below_set ?_ GE351.out | refine below_set ?_ GE360.out | refine below_set ?_ GE361.out) | exact HB.out)⟩
       (try clear B346)
       (try clear B351)
       (try clear B360)
       (try clear B361)
       (try clear HB)
       generalize ((((((((w31.setCell ⟨g360, 0, none⟩ (.int .u64 t352)).setCell ⟨g360, 1, none⟩ (.int .u64 t353)).setCell ⟨g360, 2, none⟩ (.int .u64 t354)).setCell ⟨g360, 3, none⟩ (.int .u64 t355)).setCell ⟨g361, 0, none⟩ (.int .u64 t356)).setCell ⟨g361, 1, none⟩ (.int .u64 t357)).setCell ⟨g361, 2, none⟩ (.int .u64 t358)).setCell ⟨g361, 3, none⟩ (.int .u64 t359)) = w40 at n0_ n1_ n2_ n3_ n4_ ⊢
       have B346 := n0_
       have B351 := n1_
       have B360 := n2_
       have B361 := n3_
       have HB := n4_
       clear n0_ n1_ n2_ n3_ n4_
       have n0_ := Aside0.mk (blk_drew B346.out)
       have n1_ := Aside0.mk (blk_drew B351.out)
       have n2_ := Aside0.mk (blk_drew B360.out)
       have n3_ := Aside0.mk (blk_drew B361.out)
       have n4_ := Aside0.mk (below_drew1 HB.out)
       clear B346
       clear B351
       clear B360
       clear B361
       clear HB
       have B346 := n0_
       have B351 := n1_
       have B360 := n2_
       have B361 := n3_
       have HB := n4_
       clear n0_ n1_ n2_ n3_ n4_
       refine start_ (n := 40) (S := fun w' => w'.cell? ⟨g360, 0, none⟩ = some (.int .u64 t352) ∧ w'.cell? ⟨g360, 1, none⟩ = some (.int .u64 t353) ∧ w'.cell? ⟨g360, 2, none⟩ = some (.int .u64 t354) ∧ w'.cell? ⟨g360, 3, none⟩ = some (.int .u64 t355) ∧ w'.cell? ⟨g361, 0, none⟩ = some (.int .u64 t356) ∧ w'.cell? ⟨g361, 1, none⟩ = some (.int .u64 t357) ∧ w'.cell? ⟨g361, 2, none⟩ = some (.int .u64 t358) ∧ w'.cell? ⟨g361, 3, none⟩ = some (.int .u64 t359) ∧ w'.cell? ⟨g351, 0, none⟩ = some (.int .u64 t347) ∧ w'.cell? ⟨g351, 1, none⟩ = some (.int .u64 t348) ∧ w'.cell? ⟨g351, 2, none⟩ = some (.int .u64 t349) ∧ w'.cell? ⟨g351, 3, none⟩ = some (.int .u64 t350)) (ds := []) z9_18_ (by kernel_rfl) rfl rfl ⟨bq_ B360 0, bq_ B360 1, bq_ B360 2, bq_ B360 3, bq_ B361 0, bq_ B361 1, bq_ B361 2, bq_ B361 3, bq_ B351 0, bq_ B351 1, bq_ B351 2, bq_ B351 3⟩ (fun hL => ?_); refine with_tabW attestorlaw06_SpongeBack.tab4 attestorlaw06_SpongeBack.bits4 (fun T_ W_ => ?_)
       generalize w40.drew = w41 at B346 B351 B360 B361 HB hL ⊢
       refine pure_ (i := 0) (N := some 21) (v := ?_) (a' := ?_) z9_19_ rfl rfl (an_ T_) (fun _ _ _ h => h) (Or.inl ⟨by rfl, ?_⟩) ?_ ?_
       rotate_left; · intro w'; go_simp; with_reducible rfl
       rotate_left; · simp only [Act.put, sa_, sb_, sc_, i64_w, i32_w]; rfl
       refine take_ (i := 1) (N := some 22) (v := ?_) (a' := ?_) z9_20_ rfl rfl (tk_ T_ W_) (fun _ _ _ h => h) (Or.inl ⟨by rfl, ?_⟩) hL ?_ ?_
       rotate_left
       ·rintro w' ⟨s0, s1, s2, s3, s4, s5, s6, s7, s8, s9, s10, s11⟩
        go_simp
        with_reducible rfl
       rotate_left
       ·simp only [Act.put, sa_, sb_, sc_, i64_w, i32_w]
        rfl
       refine one_ (i := 2) (N := some 23) z9_21_ rfl rfl (on_ T_) (by decide) (fun K hK => ?_)
       refine goes_ Tryd.func20 (by kernel_rfl) rfl #[.int .i64 (wrap64 (Int.tmod a0 4)), .agg #[.int .u64 t352, .int .u64 t353, .int .u64 t354, .int .u64 t355]] (by rfl) rfl rfl (by (try simp only [List.map_toArray, List.map_cons, List.map_nil]); first | done | rfl) ?_
       with_reducible refine (attestorlaw06_within.calls (wrap64 (Int.tmod a0 4)) t352 t353 t354 t355 true _ A6.out).mono ?_
       rintro e w42 ⟨rfl, hb⟩
       refine ⟨_, rfl, ?_⟩
       have n0_ := Aside0.mk (blk_below (g := g346) (o := .cells #[.int .u64 a1_0, .int .u64 a1_1, .int .u64 a1_2, .int .u64 a1_3] 23 (0, 0)) (by (with_reducible repeat first | refine blk_drewN ?_ _ | refine blk_drew ?_ | refine blk_alloc ?_ _); exact B346.out) hb)
       have n1_ := Aside0.mk (blk_below (g := g351) (o := .cells #[.int .u64 t347, .int .u64 t348, .int .u64 t349, .int .u64 t350] 23 (0, 0)) (by (with_reducible repeat first | refine blk_drewN ?_ _ | refine blk_drew ?_ | refine blk_alloc ?_ _); exact B351.out) hb)
       have n2_ := Aside0.mk (blk_below (g := g360) (o := .cells #[.int .u64 t352, .int .u64 t353, .int .u64 t354, .int .u64 t355] 23 (0, 0)) (by (with_reducible repeat first | refine blk_drewN ?_ _ | refine blk_drew ?_ | refine blk_alloc ?_ _); exact B360.out) hb)
       have n3_ := Aside0.mk (blk_below (g := g361) (o := .cells #[.int .u64 t356, .int .u64 t357, .int .u64 t358, .int .u64 t359] 23 (0, 0)) (by (with_reducible repeat first | refine blk_drewN ?_ _ | refine blk_drew ?_ | refine blk_alloc ?_ _); exact B361.out) hb)
       have n4_ := Aside0.mk (below_step (by repeat (first | (with_reducible first | exact HB.out | apply below_alloc | apply pw_below_drewN | apply below_drew1 | refine below_set ?_ GE346.out | refine below_set ?_ GE351.out | refine below_set ?_ GE360.out | refine below_set ?_ GE361.out) | exact HB.out)) hb)
       clear B346
       clear B351
       clear B360
       clear B361
       clear HB
       have B346 := n0_
       have B351 := n1_
       have B360 := n2_
       have B361 := n3_
       have HB := n4_
       clear n0_ n1_ n2_ n3_ n4_
       (try clear hb)
       (try clear hb2)
       (try clear hk)
       (try clear hi)
       refine hK.out _ _ ⟨bq_ B360 0, bq_ B360 1, bq_ B360 2, bq_ B360 3, bq_ B361 0, bq_ B361 1, bq_ B361 2, bq_ B361 3, bq_ B351 0, bq_ B351 1, bq_ B351 2, bq_ B351 3⟩ (fun hL => ?_)
       clear hK K
       refine norm_ (a' := ?_) ?_ ?_
       rotate_left
       ·show Act.put _ (some 23) _ = _
        simp only [Act.put, sa_, sb_, sc_, i64_w, i32_w]
        rfl
       refine pure_ (i := 3) (N := some 24) (v := ?_) (a' := ?_) z9_22_ rfl rfl (an_ T_) (fun _ _ _ h => h) (Or.inl ⟨by rfl, ?_⟩) ?_ ?_
       rotate_left; · intro w'; go_simp; with_reducible rfl
       rotate_left; · simp only [Act.put, sa_, sb_, sc_, i64_w, i32_w]; rfl
       refine pure_ (i := 4) (N := some 25) (v := ?_) (a' := ?_) z9_23_ rfl rfl (an_ T_) (fun _ _ _ h => h) (Or.inl ⟨by rfl, ?_⟩) ?_ ?_
       rotate_left; · intro w'; go_simp; with_reducible rfl
       rotate_left; · simp only [Act.put, sa_, sb_, sc_, i64_w, i32_w]; rfl
       refine take_ (i := 5) (N := some 26) (v := ?_) (a' := ?_) z9_24_ rfl rfl (tk_ T_ W_) (fun _ _ _ h => h) (Or.inl ⟨by rfl, ?_⟩) hL ?_ ?_
       rotate_left
       ·rintro w' ⟨s0, s1, s2, s3, s4, s5, s6, s7, s8, s9, s10, s11⟩
        go_simp
        with_reducible rfl
       rotate_left
       ·simp only [Act.put, sa_, sb_, sc_, i64_w, i32_w]
        rfl
       refine one_ (i := 6) (N := some 27) z9_25_ rfl rfl (on_ T_) (by decide) (fun K hK => ?_)
       refine goes_ Tryd.func20 (by kernel_rfl) rfl #[.int .i64 (wrap64 (Int.tmod a0 4)), .agg #[.int .u64 t356, .int .u64 t357, .int .u64 t358, .int .u64 t359]] (by rfl) rfl rfl (by (try simp only [List.map_toArray, List.map_cons, List.map_nil]); first | done | rfl) ?_
       with_reducible refine (attestorlaw06_within.calls (wrap64 (Int.tmod a0 4)) t356 t357 t358 t359 true _ A8.out).mono ?_
       rintro e w43 ⟨rfl, hb⟩
       refine ⟨_, rfl, ?_⟩
       have n0_ := Aside0.mk (blk_below (g := g346) (o := .cells #[.int .u64 a1_0, .int .u64 a1_1, .int .u64 a1_2, .int .u64 a1_3] 23 (0, 0)) (by (with_reducible repeat first | refine blk_drewN ?_ _ | refine blk_drew ?_ | refine blk_alloc ?_ _); exact B346.out) hb)
       have n1_ := Aside0.mk (blk_below (g := g351) (o := .cells #[.int .u64 t347, .int .u64 t348, .int .u64 t349, .int .u64 t350] 23 (0, 0)) (by (with_reducible repeat first | refine blk_drewN ?_ _ | refine blk_drew ?_ | refine blk_alloc ?_ _); exact B351.out) hb)
       have n2_ := Aside0.mk (blk_below (g := g360) (o := .cells #[.int .u64 t352, .int .u64 t353, .int .u64 t354, .int .u64 t355] 23 (0, 0)) (by (with_reducible repeat first | refine blk_drewN ?_ _ | refine blk_drew ?_ | refine blk_alloc ?_ _); exact B360.out) hb)
       have n3_ := Aside0.mk (blk_below (g := g361) (o := .cells #[.int .u64 t356, .int .u64 t357, .int .u64 t358, .int .u64 t359] 23 (0, 0)) (by (with_reducible repeat first | refine blk_drewN ?_ _ | refine blk_drew ?_ | refine blk_alloc ?_ _); exact B361.out) hb)
       have n4_ := Aside0.mk (below_step (by repeat (first | (with_reducible first | exact HB.out | apply below_alloc | apply pw_below_drewN | apply below_drew1 | refine below_set ?_ GE346.out | refine below_set ?_ GE351.out | refine below_set ?_ GE360.out | refine below_set ?_ GE361.out) | exact HB.out)) hb)
       clear B346
       clear B351
       clear B360
       clear B361
       clear HB
       have B346 := n0_
       have B351 := n1_
       have B360 := n2_
       have B361 := n3_
       have HB := n4_
       clear n0_ n1_ n2_ n3_ n4_
       (try clear hb)
       (try clear hb2)
       (try clear hk)
       (try clear hi)
       refine hK.out _ _ ⟨bq_ B360 0, bq_ B360 1, bq_ B360 2, bq_ B360 3, bq_ B361 0, bq_ B361 1, bq_ B361 2, bq_ B361 3, bq_ B351 0, bq_ B351 1, bq_ B351 2, bq_ B351 3⟩ (fun hL => ?_)
       clear hK K
       refine norm_ (a' := ?_) ?_ ?_
       rotate_left
       ·show Act.put _ (some 27) _ = _
        simp only [Act.put, sa_, sb_, sc_, i64_w, i32_w]
        rfl
       refine pure_ (i := 7) (N := some 28) (v := ?_) (a' := ?_) z9_26_ rfl rfl (an_ T_) (fun _ _ _ h => h) (Or.inl ⟨by rfl, ?_⟩) ?_ ?_
       rotate_left; · intro w'; go_simp; with_reducible rfl
       rotate_left; · simp only [Act.put, sa_, sb_, sc_, i64_w, i32_w]; rfl
       refine pure_ (i := 8) (N := some 29) (v := ?_) (a' := ?_) z9_27_ rfl rfl (an_ T_) (fun _ _ _ h => h) (Or.inl ⟨by rfl, ?_⟩) ?_ ?_
       rotate_left; · intro w'; go_simp; with_reducible rfl
       rotate_left; · simp only [Act.put, sa_, sb_, sc_, i64_w, i32_w]; rfl
       refine pure_ (i := 10) (N := some 31) (v := ?_) (a' := ?_) z9_28_ rfl rfl (an_ T_) (fun _ _ _ h => h) (Or.inl ⟨by rfl, ?_⟩) ?_ ?_
       rotate_left; · intro w'; go_simp; with_reducible rfl
       rotate_left; · simp only [Act.put, sa_, sb_, sc_, i64_w, i32_w]; rfl
       refine take_ (i := 9) (N := some 30) (v := ?_) (a' := ?_) z9_29_ rfl rfl (tk_ T_ W_) (fun _ _ _ h => h) (Or.inl ⟨by rfl, ?_⟩) hL ?_ ?_
       rotate_left
       ·rintro w' ⟨s0, s1, s2, s3, s4, s5, s6, s7, s8, s9, s10, s11⟩
        go_simp
        with_reducible rfl
       rotate_left
       ·simp only [Act.put, sa_, sb_, sc_, i64_w, i32_w]
        rfl
       refine take_ (i := 11) (N := some 32) (v := ?_) (a' := ?_) z9_30_ rfl rfl (tk_ T_ W_) (fun _ _ _ h => h) (Or.inl ⟨by rfl, ?_⟩) hL ?_ ?_
       rotate_left
       ·rintro w' ⟨s0, s1, s2, s3, s4, s5, s6, s7, s8, s9, s10, s11⟩
        go_simp
        with_reducible rfl
       rotate_left
       ·simp only [Act.put, sa_, sb_, sc_, i64_w, i32_w]
        rfl
       refine one_ (i := 12) (N := some 33) z9_31_ rfl rfl (on_ T_) (by decide) (fun K hK => ?_)
       refine goes_ Tryd.func19 (by kernel_rfl) rfl #[.int .i64 (wrap64 (Int.tmod a0 4)), .agg #[.int .u64 t347, .int .u64 t348, .int .u64 t349, .int .u64 t350]] (by rfl) rfl rfl (by (try simp only [List.map_toArray, List.map_cons, List.map_nil]); first | done | rfl) ?_
       with_reducible refine (sponge_Perm.calls (wrap64 (Int.tmod a0 4)) t347 t348 t349 t350 t364 t365 t366 t367 _ ?side1 A10.out).mono ?_
       (case side1 => repeat (first | exact (GL.below HRG.out HB.out) | (with_reducible refine GL.alloc ?_ _) | (with_reducible refine GL.drewN ?_ _) | (with_reducible refine GL.drew ?_)))
       rintro e w44 ⟨rfl, hb⟩
       refine ⟨_, rfl, ?_⟩
       have n0_ := Aside0.mk (blk_below (g := g346) (o := .cells #[.int .u64 a1_0, .int .u64 a1_1, .int .u64 a1_2, .int .u64 a1_3] 23 (0, 0)) (by (with_reducible repeat first | refine blk_drewN ?_ _ | refine blk_drew ?_ | refine blk_alloc ?_ _); exact B346.out) hb)
       have n1_ := Aside0.mk (blk_below (g := g351) (o := .cells #[.int .u64 t347, .int .u64 t348, .int .u64 t349, .int .u64 t350] 23 (0, 0)) (by (with_reducible repeat first | refine blk_drewN ?_ _ | refine blk_drew ?_ | refine blk_alloc ?_ _); exact B351.out) hb)
       have n2_ := Aside0.mk (blk_below (g := g360) (o := .cells #[.int .u64 t352, .int .u64 t353, .int .u64 t354, .int .u64 t355] 23 (0, 0)) (by (with_reducible repeat first | refine blk_drewN ?_ _ | refine blk_drew ?_ | refine blk_alloc ?_ _); exact B360.out) hb)
       have n3_ := Aside0.mk (blk_below (g := g361) (o := .cells #[.int .u64 t356, .int .u64 t357, .int .u64 t358, .int .u64 t359] 23 (0, 0)) (by (with_reducible repeat first | refine blk_drewN ?_ _ | refine blk_drew ?_ | refine blk_alloc ?_ _); exact B361.out) hb)
       have n4_ := Aside0.mk (below_step (by repeat (first | (with_reducible first | exact HB.out | apply below_alloc | apply pw_below_drewN | apply below_drew1 | refine below_set ?_ GE346.out | refine below_set ?_ GE351.out | refine below_set ?_ GE360.out | refine below_set ?_ GE361.out) | exact HB.out)) hb)
       clear B346
       clear B351
       clear B360
       clear B361
       clear HB
       have B346 := n0_
       have B351 := n1_
       have B360 := n2_
       have B361 := n3_
       have HB := n4_
       clear n0_ n1_ n2_ n3_ n4_
       (try clear hb)
       (try clear hb2)
       (try clear hk)
       (try clear hi)
       refine hK.out _ _ ⟨bq_ B360 0, bq_ B360 1, bq_ B360 2, bq_ B360 3, bq_ B361 0, bq_ B361 1, bq_ B361 2, bq_ B361 3, bq_ B351 0, bq_ B351 1, bq_ B351 2, bq_ B351 3⟩ (fun hL => ?_)
       clear hK K
       refine norm_ (a' := ?_) ?_ ?_
       rotate_left
       ·show Act.put _ (some 33) _ = _
        simp only [Act.put, sa_, sb_, sc_, i64_w, i32_w]
        rfl
       refine pure_ (i := 13) (N := some 34) (v := ?_) (a' := ?_) z9_32_ rfl rfl (an_ T_) (fun _ _ _ h => h) (Or.inl ⟨by rfl, ?_⟩) ?_ ?_
       rotate_left; · intro w'; go_simp; with_reducible rfl
       rotate_left; · simp only [Act.put, sa_, sb_, sc_, i64_w, i32_w]; rfl
       refine pure_ (i := 14) (N := some 35) (v := ?_) (a' := ?_) z9_33_ rfl rfl (an_ T_) (fun _ _ _ h => h) (Or.inl ⟨by rfl, ?_⟩) ?_ ?_
       rotate_left; · intro w'; go_simp; with_reducible rfl
       rotate_left; · simp only [Act.put, sa_, sb_, sc_, i64_w, i32_w]; rfl
       refine pure_ (i := 15) (N := some 36) (v := ?_) (a' := ?_) z9_34_ rfl rfl (an_ T_) (fun _ _ _ h => h) (Or.inl ⟨by rfl, ?_⟩) ?_ ?_
       rotate_left; · intro w'; go_simp; with_reducible rfl
       rotate_left; · simp only [Act.put, sa_, sb_, sc_, i64_w, i32_w]; rfl
       refine pure_ (i := 17) (N := some 38) (v := ?_) (a' := ?_) z9_35_ rfl rfl (an_ T_) (fun _ _ _ h => h) (Or.inl ⟨by rfl, ?_⟩) ?_ ?_
       rotate_left; · intro w'; go_simp; with_reducible rfl
       rotate_left; · simp only [Act.put, sa_, sb_, sc_, i64_w, i32_w]; rfl
       refine take_ (i := 16) (N := some 37) (v := ?_) (a' := ?_) z9_36_ rfl rfl (tk_ T_ W_) (fun _ _ _ h => h) (Or.inl ⟨by rfl, ?_⟩) hL ?_ ?_
       rotate_left
       ·rintro w' ⟨s0, s1, s2, s3, s4, s5, s6, s7, s8, s9, s10, s11⟩
        go_simp
        with_reducible rfl
       rotate_left
       ·simp only [Act.put, sa_, sb_, sc_, i64_w, i32_w]
        rfl
       refine take_ (i := 18) (N := some 39) (v := ?_) (a' := ?_) z9_37_ rfl rfl (tk_ T_ W_) (fun _ _ _ h => h) (Or.inl ⟨by rfl, ?_⟩) hL ?_ ?_
       rotate_left
       ·rintro w' ⟨s0, s1, s2, s3, s4, s5, s6, s7, s8, s9, s10, s11⟩
        go_simp
        with_reducible rfl
       rotate_left
       ·simp only [Act.put, sa_, sb_, sc_, i64_w, i32_w]
        rfl
       refine one_ (i := 19) (N := some 40) z9_38_ rfl rfl (on_ T_) (by decide) (fun K hK => ?_)
       refine goes_ Tryd.func25 (by kernel_rfl) rfl #[.int .i64 (wrap64 (Int.tmod a0 4)), .agg #[.int .u64 t347, .int .u64 t348, .int .u64 t349, .int .u64 t350]] (by rfl) rfl rfl (by (try simp only [List.map_toArray, List.map_cons, List.map_nil]); first | done | rfl) ?_
       with_reducible refine (sponge_Inverse.calls k (wrap64 (Int.tmod a0 4)) t347 t348 t349 t350 t368 t369 t370 t371 _ ?side1 A12.out).mono ?_
       (case side1 => repeat (first | exact (GL.below HRG.out HB.out) | (with_reducible refine GL.alloc ?_ _) | (with_reducible refine GL.drewN ?_ _) | (with_reducible refine GL.drew ?_)))
       rintro e w45 ⟨rfl, hb⟩
       refine ⟨_, rfl, ?_⟩
       have n0_ := Aside0.mk (blk_below (g := g346) (o := .cells #[.int .u64 a1_0, .int .u64 a1_1, .int .u64 a1_2, .int .u64 a1_3] 23 (0, 0)) (by (with_reducible repeat first | refine blk_drewN ?_ _ | refine blk_drew ?_ | refine blk_alloc ?_ _); exact B346.out) hb)
       have n1_ := Aside0.mk (blk_below (g := g351) (o := .cells #[.int .u64 t347, .int .u64 t348, .int .u64 t349, .int .u64 t350] 23 (0, 0)) (by (with_reducible repeat first | refine blk_drewN ?_ _ | refine blk_drew ?_ | refine blk_alloc ?_ _); exact B351.out) hb)
       have n2_ := Aside0.mk (blk_below (g := g360) (o := .cells #[.int .u64 t352, .int .u64 t353, .int .u64 t354, .int .u64 t355] 23 (0, 0)) (by (with_reducible repeat first | refine blk_drewN ?_ _ | refine blk_drew ?_ | refine blk_alloc ?_ _); exact B360.out) hb)
       have n3_ := Aside0.mk (blk_below (g := g361) (o := .cells #[.int .u64 t356, .int .u64 t357, .int .u64 t358, .int .u64 t359] 23 (0, 0)) (by (with_reducible repeat first | refine blk_drewN ?_ _ | refine blk_drew ?_ | refine blk_alloc ?_ _); exact B361.out) hb)
       have n4_ := Aside0.mk (below_step (by repeat (first | (with_reducible first | exact HB.out | apply below_alloc | apply pw_below_drewN | apply below_drew1 | refine below_set ?_ GE346.out | refine below_set ?_ GE351.out | refine below_set ?_ GE360.out | refine below_set ?_ GE361.out) | exact HB.out)) hb)
       clear B346
       clear B351
       clear B360
       clear B361
       clear HB
       have B346 := n0_
       have B351 := n1_
       have B360 := n2_
       have B361 := n3_
       have HB := n4_
       clear n0_ n1_ n2_ n3_ n4_
       (try clear hb)
       (try clear hb2)
       (try clear hk)
       (try clear hi)
       refine hK.out _ _ ⟨bq_ B360 0, bq_ B360 1, bq_ B360 2, bq_ B360 3, bq_ B361 0, bq_ B361 1, bq_ B361 2, bq_ B361 3, bq_ B351 0, bq_ B351 1, bq_ B351 2, bq_ B351 3⟩ (fun hL => ?_)
       clear hK K
       refine norm_ (a' := ?_) ?_ ?_
       rotate_left
       ·show Act.put _ (some 40) _ = _
        simp only [Act.put, sa_, sb_, sc_, i64_w, i32_w]
        rfl
       refine pure_ (i := 20) (N := some 41) (v := ?_) (a' := ?_) z9_39_ rfl rfl (an_ T_) (fun _ _ _ h => h) (Or.inl ⟨by rfl, ?_⟩) ?_ ?_
       rotate_left; · intro w'; go_simp; with_reducible rfl
       rotate_left; · simp only [Act.put, sa_, sb_, sc_, i64_w, i32_w]; rfl
       refine pure_ (i := 21) (N := some 42) (v := ?_) (a' := ?_) z9_40_ rfl rfl (an_ T_) (fun _ _ _ h => h) (Or.inl ⟨by rfl, ?_⟩) ?_ ?_
       rotate_left; · intro w'; go_simp; with_reducible rfl
       rotate_left; · simp only [Act.put, sa_, sb_, sc_, i64_w, i32_w]; rfl
       refine pure_ (i := 22) (N := some 43) (v := ?_) (a' := ?_) z9_41_ rfl rfl (an_ T_) (fun _ _ _ h => h) (Or.inl ⟨by rfl, ?_⟩) ?_ ?_
       rotate_left; · intro w'; go_simp; with_reducible rfl
       rotate_left; · simp only [Act.put, sa_, sb_, sc_, i64_w, i32_w]; rfl
       refine pure_ (i := 23) (N := some 44) (v := ?_) (a' := ?_) z9_42_ rfl rfl (an_ T_) (fun _ _ _ h => h) (Or.inl ⟨by rfl, ?_⟩) ?_ ?_
       rotate_left; · intro w'; go_simp; with_reducible rfl
       rotate_left; · simp only [Act.put, sa_, sb_, sc_, i64_w, i32_w]; rfl
       refine take_ (i := 24) (N := some 45) (v := ?_) (a' := ?_) z9_43_ rfl rfl (tk_ T_ W_) (fun _ _ _ h => h) (Or.inl ⟨by rfl, ?_⟩) hL ?_ ?_
       rotate_left
       ·rintro w' ⟨s0, s1, s2, s3, s4, s5, s6, s7, s8, s9, s10, s11⟩
        go_simp
        with_reducible rfl
       rotate_left
       ·simp only [Act.put, sa_, sb_, sc_, i64_w, i32_w]
        rfl
       refine take_ (i := 26) (N := some 47) (v := ?_) (a' := ?_) z9_44_ rfl rfl (tk_ T_ W_) (fun _ _ _ h => h) (Or.inl ⟨by rfl, ?_⟩) hL ?_ ?_
       rotate_left
       ·rintro w' ⟨s0, s1, s2, s3, s4, s5, s6, s7, s8, s9, s10, s11⟩
        go_simp
        with_reducible rfl
       rotate_left
       ·simp only [Act.put, sa_, sb_, sc_, i64_w, i32_w]
        rfl
       refine one_ (i := 25) (N := some 46) z9_45_ rfl rfl (on_ T_) (by decide) (fun K hK => ?_)
       refine goes_ Tryd.func25 (by kernel_rfl) rfl #[.int .i64 (wrap64 (Int.tmod a0 4)), .agg #[.int .u64 t352, .int .u64 t353, .int .u64 t354, .int .u64 t355]] (by rfl) rfl rfl (by (try simp only [List.map_toArray, List.map_cons, List.map_nil]); first | done | rfl) ?_
       with_reducible refine (sponge_Inverse.calls k (wrap64 (Int.tmod a0 4)) t352 t353 t354 t355 t372 t373 t374 t375 _ ?side1 A14.out).mono ?_
       (case side1 => repeat (first | exact (GL.below HRG.out HB.out) | (with_reducible refine GL.alloc ?_ _) | (with_reducible refine GL.drewN ?_ _) | (with_reducible refine GL.drew ?_)))
       rintro e w46 ⟨rfl, hb⟩
       refine ⟨_, rfl, ?_⟩
       have n0_ := Aside0.mk (blk_below (g := g346) (o := .cells #[.int .u64 a1_0, .int .u64 a1_1, .int .u64 a1_2, .int .u64 a1_3] 23 (0, 0)) (by (with_reducible repeat first | refine blk_drewN ?_ _ | refine blk_drew ?_ | refine blk_alloc ?_ _); exact B346.out) hb)
       have n1_ := Aside0.mk (blk_below (g := g351) (o := .cells #[.int .u64 t347, .int .u64 t348, .int .u64 t349, .int .u64 t350] 23 (0, 0)) (by (with_reducible repeat first | refine blk_drewN ?_ _ | refine blk_drew ?_ | refine blk_alloc ?_ _); exact B351.out) hb)
       have n2_ := Aside0.mk (blk_below (g := g360) (o := .cells #[.int .u64 t352, .int .u64 t353, .int .u64 t354, .int .u64 t355] 23 (0, 0)) (by (with_reducible repeat first | refine blk_drewN ?_ _ | refine blk_drew ?_ | refine blk_alloc ?_ _); exact B360.out) hb)
       have n3_ := Aside0.mk (blk_below (g := g361) (o := .cells #[.int .u64 t356, .int .u64 t357, .int .u64 t358, .int .u64 t359] 23 (0, 0)) (by (with_reducible repeat first | refine blk_drewN ?_ _ | refine blk_drew ?_ | refine blk_alloc ?_ _); exact B361.out) hb)
       have n4_ := Aside0.mk (below_step (by repeat (first | (with_reducible first | exact HB.out | apply below_alloc | apply pw_below_drewN | apply below_drew1 | refine below_set ?_ GE346.out | refine below_set ?_ GE351.out | refine below_set ?_ GE360.out | refine below_set ?_ GE361.out) | exact HB.out)) hb)
       clear B346
       clear B351
       clear B360
       clear B361
       clear HB
       have B346 := n0_
       have B351 := n1_
       have B360 := n2_
       have B361 := n3_
       have HB := n4_
       clear n0_ n1_ n2_ n3_ n4_
       (try clear hb)
       (try clear hb2)
       (try clear hk)
       (try clear hi)
       refine hK.out _ _ ⟨bq_ B360 0, bq_ B360 1, bq_ B360 2, bq_ B360 3, bq_ B361 0, bq_ B361 1, bq_ B361 2, bq_ B361 3, bq_ B351 0, bq_ B351 1, bq_ B351 2, bq_ B351 3⟩ (fun hL => ?_)
       clear hK K
       refine norm_ (a' := ?_) ?_ ?_
       rotate_left
       ·show Act.put _ (some 46) _ = _
        simp only [Act.put, sa_, sb_, sc_, i64_w, i32_w]
        rfl
       refine pure_ (i := 27) (N := some 48) (v := ?_) (a' := ?_) z9_46_ rfl rfl (an_ T_) (fun _ _ _ h => h) (Or.inl ⟨by rfl, ?_⟩) ?_ ?_
       rotate_left; · intro w'; go_simp; with_reducible rfl
       rotate_left; · simp only [Act.put, sa_, sb_, sc_, i64_w, i32_w]; rfl
       refine pure_ (i := 28) (N := some 49) (v := ?_) (a' := ?_) z9_47_ rfl rfl (an_ T_) (fun _ _ _ h => h) (Or.inl ⟨by rfl, ?_⟩) ?_ ?_
       rotate_left; · intro w'; go_simp; with_reducible rfl
       rotate_left; · simp only [Act.put, sa_, sb_, sc_, i64_w, i32_w]; rfl
       refine pure_ (i := 29) (N := some 50) (v := ?_) (a' := ?_) z9_48_ rfl rfl (an_ T_) (fun _ _ _ h => h) (Or.inl ⟨by rfl, ?_⟩) ?_ ?_
       rotate_left; · intro w'; go_simp; with_reducible rfl
       rotate_left; · simp only [Act.put, sa_, sb_, sc_, i64_w, i32_w]; rfl
       refine pure_ (i := 30) (N := some 51) (v := ?_) (a' := ?_) z9_49_ rfl rfl (an_ T_) (fun _ _ _ h => h) (Or.inl ⟨by rfl, ?_⟩) ?_ ?_
       rotate_left; · intro w'; go_simp; with_reducible rfl
       rotate_left; · simp only [Act.put, sa_, sb_, sc_, i64_w, i32_w]; rfl
       refine take_ (i := 31) (N := some 52) (v := ?_) (a' := ?_) z9_50_ rfl rfl (tk_ T_ W_) (fun _ _ _ h => h) (Or.inl ⟨by rfl, ?_⟩) hL ?_ ?_
       rotate_left
       ·rintro w' ⟨s0, s1, s2, s3, s4, s5, s6, s7, s8, s9, s10, s11⟩
        go_simp
        with_reducible rfl
       rotate_left
       ·simp only [Act.put, sa_, sb_, sc_, i64_w, i32_w]
        rfl
       refine take_ (i := 33) (N := some 54) (v := ?_) (a' := ?_) z9_51_ rfl rfl (tk_ T_ W_) (fun _ _ _ h => h) (Or.inl ⟨by rfl, ?_⟩) hL ?_ ?_
       rotate_left
       ·rintro w' ⟨s0, s1, s2, s3, s4, s5, s6, s7, s8, s9, s10, s11⟩
        go_simp
        with_reducible rfl
       rotate_left
       ·simp only [Act.put, sa_, sb_, sc_, i64_w, i32_w]
        rfl
       refine one_ (i := 32) (N := some 53) z9_52_ rfl rfl (on_ T_) (by decide) (fun K hK => ?_)
       refine goes_ Tryd.func19 (by kernel_rfl) rfl #[.int .i64 (wrap64 (Int.tmod a0 4)), .agg #[.int .u64 t356, .int .u64 t357, .int .u64 t358, .int .u64 t359]] (by rfl) rfl rfl (by (try simp only [List.map_toArray, List.map_cons, List.map_nil]); first | done | rfl) ?_
       with_reducible refine (sponge_Perm.calls (wrap64 (Int.tmod a0 4)) t356 t357 t358 t359 t376 t377 t378 t379 _ ?side1 A16.out).mono ?_
       (case side1 => repeat (first | exact (GL.below HRG.out HB.out) | (with_reducible refine GL.alloc ?_ _) | (with_reducible refine GL.drewN ?_ _) | (with_reducible refine GL.drew ?_)))
       rintro e w47 ⟨rfl, hb⟩
       refine ⟨_, rfl, ?_⟩
       have n0_ := Aside0.mk (blk_below (g := g346) (o := .cells #[.int .u64 a1_0, .int .u64 a1_1, .int .u64 a1_2, .int .u64 a1_3] 23 (0, 0)) (by (with_reducible repeat first | refine blk_drewN ?_ _ | refine blk_drew ?_ | refine blk_alloc ?_ _); exact B346.out) hb)
       have n1_ := Aside0.mk (blk_below (g := g351) (o := .cells #[.int .u64 t347, .int .u64 t348, .int .u64 t349, .int .u64 t350] 23 (0, 0)) (by (with_reducible repeat first | refine blk_drewN ?_ _ | refine blk_drew ?_ | refine blk_alloc ?_ _); exact B351.out) hb)
       have n2_ := Aside0.mk (blk_below (g := g360) (o := .cells #[.int .u64 t352, .int .u64 t353, .int .u64 t354, .int .u64 t355] 23 (0, 0)) (by (with_reducible repeat first | refine blk_drewN ?_ _ | refine blk_drew ?_ | refine blk_alloc ?_ _); exact B360.out) hb)
       have n3_ := Aside0.mk (blk_below (g := g361) (o := .cells #[.int .u64 t356, .int .u64 t357, .int .u64 t358, .int .u64 t359] 23 (0, 0)) (by (with_reducible repeat first | refine blk_drewN ?_ _ | refine blk_drew ?_ | refine blk_alloc ?_ _); exact B361.out) hb)
       have n4_ := Aside0.mk (below_step (by repeat (first | (with_reducible first | exact HB.out | apply below_alloc | apply pw_below_drewN | apply below_drew1 | refine below_set ?_ GE346.out | refine below_set ?_ GE351.out | refine below_set ?_ GE360.out | refine below_set ?_ GE361.out) | exact HB.out)) hb)
       clear B346
       clear B351
       clear B360
       clear B361
       clear HB
       have B346 := n0_
       have B351 := n1_
       have B360 := n2_
       have B361 := n3_
       have HB := n4_
       clear n0_ n1_ n2_ n3_ n4_
       (try clear hb)
       (try clear hb2)
       (try clear hk)
       (try clear hi)
       refine hK.out _ _ ⟨bq_ B360 0, bq_ B360 1, bq_ B360 2, bq_ B360 3, bq_ B361 0, bq_ B361 1, bq_ B361 2, bq_ B361 3, bq_ B351 0, bq_ B351 1, bq_ B351 2, bq_ B351 3⟩ (fun hL => ?_)
       clear hK K
       refine norm_ (a' := ?_) ?_ ?_
       rotate_left
       ·show Act.put _ (some 53) _ = _
        simp only [Act.put, sa_, sb_, sc_, i64_w, i32_w]
        rfl
       refine pure_ (i := 34) (N := some 55) (v := ?_) (a' := ?_) z9_53_ rfl rfl (an_ T_) (fun _ _ _ h => h) (Or.inl ⟨by rfl, ?_⟩) ?_ ?_
       rotate_left; · intro w'; go_simp; with_reducible rfl
       rotate_left; · simp only [Act.put, sa_, sb_, sc_, i64_w, i32_w]; rfl
       refine pure_ (i := 35) (N := some 56) (v := ?_) (a' := ?_) z9_54_ rfl rfl (an_ T_) (fun _ _ _ h => h) (Or.inl ⟨by rfl, ?_⟩) ?_ ?_
       rotate_left; · intro w'; go_simp; with_reducible rfl
       rotate_left; · simp only [Act.put, sa_, sb_, sc_, i64_w, i32_w]; rfl
       refine pure_ (i := 36) (N := some 57) (v := ?_) (a' := ?_) z9_55_ rfl rfl (an_ T_) (fun _ _ _ h => h) (Or.inl ⟨by rfl, ?_⟩) ?_ ?_
       rotate_left; · intro w'; go_simp; with_reducible rfl
       rotate_left; · simp only [Act.put, sa_, sb_, sc_, i64_w, i32_w]; rfl
       refine one_ (i := 37) (N := some 58) z9_56_ rfl rfl (on_ T_) (by decide) (fun K hK => ?_)
       refine goes_ Tryd.func16 (by kernel_rfl) rfl #[] (by rfl) rfl rfl (by (try simp only [List.map_toArray, List.map_cons, List.map_nil]); first | done | rfl) ?_
       with_reducible refine (attestorlaw06_lives.calls k  t380 _ ?side1 A18.out).mono ?_
       (case side1 => repeat (first | exact (GL.below HRG.out HB.out) | (with_reducible refine GL.alloc ?_ _) | (with_reducible refine GL.drewN ?_ _) | (with_reducible refine GL.drew ?_)))
       rintro e w48 ⟨rfl, hb⟩
       refine ⟨_, rfl, ?_⟩
       have n0_ := Aside0.mk (blk_below (g := g346) (o := .cells #[.int .u64 a1_0, .int .u64 a1_1, .int .u64 a1_2, .int .u64 a1_3] 23 (0, 0)) (by (with_reducible repeat first | refine blk_drewN ?_ _ | refine blk_drew ?_ | refine blk_alloc ?_ _); exact B346.out) hb)
       have n1_ := Aside0.mk (blk_below (g := g351) (o := .cells #[.int .u64 t347, .int .u64 t348, .int .u64 t349, .int .u64 t350] 23 (0, 0)) (by (with_reducible repeat first | refine blk_drewN ?_ _ | refine blk_drew ?_ | refine blk_alloc ?_ _); exact B351.out) hb)
       have n2_ := Aside0.mk (blk_below (g := g360) (o := .cells #[.int .u64 t352, .int .u64 t353, .int .u64 t354, .int .u64 t355] 23 (0, 0)) (by (with_reducible repeat first | refine blk_drewN ?_ _ | refine blk_drew ?_ | refine blk_alloc ?_ _); exact B360.out) hb)
       have n3_ := Aside0.mk (blk_below (g := g361) (o := .cells #[.int .u64 t356, .int .u64 t357, .int .u64 t358, .int .u64 t359] 23 (0, 0)) (by (with_reducible repeat first | refine blk_drewN ?_ _ | refine blk_drew ?_ | refine blk_alloc ?_ _); exact B361.out) hb)
       have n4_ := Aside0.mk (below_step (by repeat (first | (with_reducible first | exact HB.out | apply below_alloc | apply pw_below_drewN | apply below_drew1 | refine below_set ?_ GE346.out | refine below_set ?_ GE351.out | refine below_set ?_ GE360.out | refine below_set ?_ GE361.out) | exact HB.out)) hb)
       clear B346
       clear B351
       clear B360
       clear B361
       clear HB
       have B346 := n0_
       have B351 := n1_
       have B360 := n2_
       have B361 := n3_
       have HB := n4_
       clear n0_ n1_ n2_ n3_ n4_
       (try clear hb)
       (try clear hb2)
       (try clear hk)
       (try clear hi)
       refine hK.out _ _ ⟨bq_ B360 0, bq_ B360 1, bq_ B360 2, bq_ B360 3, bq_ B361 0, bq_ B361 1, bq_ B361 2, bq_ B361 3, bq_ B351 0, bq_ B351 1, bq_ B351 2, bq_ B351 3⟩ (fun hL => ?_)
       clear hK K
       refine norm_ (a' := ?_) ?_ ?_
       rotate_left
       ·show Act.put _ (some 58) _ = _
        simp only [Act.put, sa_, sb_, sc_, i64_w, i32_w]
        rfl
       refine pure_ (i := 38) (N := some 59) (v := ?_) (a' := ?_) z9_57_ rfl rfl (an_ T_) (fun _ _ _ h => h) (Or.inl ⟨by rfl, ?_⟩) ?_ ?_
       rotate_left; · intro w'; go_simp; with_reducible rfl
       rotate_left; · simp only [Act.put, sa_, sb_, sc_, i64_w, i32_w]; rfl
       refine pure_ (i := 39) (N := some 4) (v := ?_) (a' := ?_) z9_58_ rfl rfl (an_ T_) (fun _ _ _ h => h) (Or.inl ⟨by rfl, ?_⟩) ?_ ?_
       rotate_left; · intro w'; go_simp; with_reducible rfl
       rotate_left; · simp only [Act.put, sa_, sb_, sc_, i64_w, i32_w]; rfl
       refine done_ (done_of T_.out (by kernel_rfl)) ?_
       try go_wp2
       go_ret
       exact ⟨by first | rfl | (simp [errW_none, errW_some] <;> rfl) | (simp [*, errW_none, errW_some] <;> rfl), by repeat (first | (with_reducible first | exact HB.out | apply below_alloc | apply pw_below_drewN | apply below_drew1 | refine below_set ?_ GE346.out | refine below_set ?_ GE351.out | refine below_set ?_ GE360.out | refine below_set ?_ GE361.out) | exact HB.out)⟩
      ·rw [if_neg c17] at H
       exact absurd H (by simp)
     ·rw [if_neg c15] at H
      exact absurd H (by simp)
    ·rw [if_neg c13] at H
     exact absurd H (by simp)
   ·rw [if_neg c11] at H
    exact absurd H (by simp)
  ·replace c9 := Bool.eq_false_iff.mpr c9
   subst c9
   have H1 : (none) = some r := by rw [if_neg (show ¬ (false = true) by decide)] at H; exact H
   clear H
   have H := H1
   clear H1
   exact absurd H (by simp)
 ·replace c7 := Bool.eq_false_iff.mpr c7
  subst c7
  have H1 : (none) = some r := by rw [if_neg (show ¬ (false = true) by decide)] at H; exact H
  clear H
  have H := H1
  clear H1
  exact absurd H (by simp)

end Go.Proofs.YtjfekjblnoagkaaDoor.Q
end
section
namespace Go.Proofs.YtjfekjblnoagkaaDoor.Q
open Go.RowKit Go.Proofs.YtjfekjblnoagkaaDoorW.PrintWords Go.Proofs.YtjfekjblnoagkaaDoorW.PrintLast Go.Proofs.YtjfekjblnoagkaaDoorW.PrintMore
open Go.Proofs.YtjfekjblnoagkaaDoor.Num
set_option linter.unusedVariables false
set_option linter.unusedSimpArgs false

theorem within_f {f : Int} {p g e : Nat} (D : Fd f p g e) (s : S4) (hs : s.lt p) : attestorlaw06_within.f f s.a s.b s.c s.d = some true := by
  unfold attestorlaw06_within.f
  refine bnd (reduced_f D s) ?_
  rw [red_id hs]
  simp only [S4.o, beq_self_eq_true, Bool.and_self]
theorem back_true (w a b c d : Int) (hw : 0 ≤ w ∧ w < 256) (ha : 0 ≤ a) (hb : 0 ≤ b) (hc : 0 ≤ c) (hd : 0 ≤ d) : ∃ k, attestorlaw06_SpongeBack.f k w a b c d = some true := by
  obtain ⟨s, rfl, rfl, rfl, rfl⟩ := nat4 ha hb hc hd
  obtain ⟨h0, h1⟩ := which_f w hw
  refine ⟨1073742000, ?_⟩
  unfold attestorlaw06_SpongeBack.f
  generalize wrap64 (Int.tmod w 4) = f at *
  obtain ⟨p, g, e, D⟩ := fd_of h0 h1
  obtain ⟨d, hx, hf⟩ := ex_of D
  have lt := red_lt D.pos s
  have ltu := prm_lt D.pos g e _ lt 8
  have ltv := inv_lt D.pos g d _ lt 8
  have I : ∀ s, sponge_Inverse.f 1073742000 f s.a s.b s.c s.d = some (inv p g d 8 s).o := fun s => Inverse_f D hf s _ (by omega)
  have iu := I (prm p g e 8 (red p s))
  rw [inv_of_prm hx g _ lt] at iu
  have ir := I (red p s)
  have is := I s
  have e7 : inv p g d 8 (red p s) = inv p g d 8 s := inv_red hx g s 7
  rw [← e7] at is
  have pt := Perm_f D (red p s)
  rw [red_red] at pt
  have pv := Perm_f D (inv p g d 8 (red p s))
  rw [red_id ltv, prm_of_inv hx g _ lt] at pv
  refine bnd (reduced_f D s) (bnd (Perm_f D s) (bnd is (bnd (within_f D _ ltu) ?_)))
  rw [if_pos rfl]
  refine bnd (within_f D _ ltv) ?_
  rw [if_pos rfl]
  refine bnd pt ?_
  rw [if_pos (by simp)]
  refine bnd ir ?_
  rw [if_pos (by simp)]
  refine bnd iu ?_
  rw [if_pos (by simp)]
  refine bnd pv ?_
  rw [if_pos (by simp)]
  exact bnd (lives_true _ (by omega)) rfl
end Go.Proofs.YtjfekjblnoagkaaDoor.Q
end
section
namespace Go.Proofs.YtjfekjblnoagkaaDoor.Q
open Go.ChangeShapes Go.WideShapes Go.ChangeAt Go.WideMaps Go.WideElems Go.RowKit
open Go.Proofs.YtjfekjblnoagkaaDoorW.PrintWords Go.Proofs.YtjfekjblnoagkaaDoorW.PrintLast Go.Proofs.YtjfekjblnoagkaaDoorW.PrintMore
open Go.Proofs.YtjfekjblnoagkaaDoor.Opn
set_option linter.unusedVariables false

theorem okWide_array_ {P : Program} {w : World} {r : Reach} {base : Nat} {t : TypeId} {v : Value} {n : Nat} {e : TypeId} (ht : P.underlying t = some (.array n e)) (h : Value.okWide P w r base t v) : ∃ cs, v = .agg cs ∧ cs.size = P.cellsOf t := by
  simp only [Value.okWide, ht] at h
  obtain ⟨cs, h1, h2, _⟩ := h
  exact ⟨cs, h1, h2⟩
set_option maxRecDepth 100000 in
theorem spongeBack_lifted (os : Os) (started : os.Started) (H : Type) (enc : TypeId × Value → H) :
    ReturnsInHanded {} Tryd.checked os 9 .any (fun w args => (Rows.spongeBackSpec.pre enc Tryd.prog Tryd.f9 [] false w args ∧ laidMetH Tryd.prog laid1 w) ∧ sizedMet enc Tryd.prog Tryd.f9 (OpenSpec.ofChange Rows.spongeBackSpec) false w args)
      (Rows.spongeBackSpec.post enc Tryd.prog Tryd.f9 false true false false) := by
  refine returnsInHanded_of_change_and (C := Tryd.checked) (X := (fun w _ => laidMetH Tryd.prog laid1 w)) (fun _ _ _ hh h => h.of_heap hh) own started (by kernel_rfl) Tryd.func9
    (ChangeSpec.witness_shaped (enc := enc) (C := Tryd.checked) (os := os) (X := (fun w _ => laidMetH Tryd.prog laid1 w)) false (World.doorLaid Tryd.prog 400 os) #[.int .u8 0, .agg #[.int .u64 0, .int .u64 0, .int .u64 0, .int .u64 0]] 8 rfl (World.shaped_of_RefB (by kernel_rfl) (by kernel_rfl)) (by kernel_rfl) (by kernel_rfl) (by kernel_rfl) (door_met os _)) ?_
  intro W base args ds gs before hval0 hW _ _ hL _
  have hval : ∀ (j : Nat) t v, Tryd.f9.params[j]? = some t → args[j]? = some v → Value.okWide Tryd.prog W .any base t v := hval0
  have hW' := hW
  obtain ⟨p, q, hA0, hV, rfl, hfz, hnd⟩ := hW
  have hA : DataW.TrodAll enc Tryd.prog W 0 (fun _ => true) true Tryd.f9.params.toList args.toList ds p := hA0
  rw [Tryd.params9] at hA hval
  obtain ⟨v0, vs0, d0, ds0, p0, q0, hargs, rfl, rfl, h0, r0⟩ := trodAll_cons hA
  obtain ⟨v1, vs1, d1, ds1, p1, q1, rfl, rfl, rfl, h1, r1⟩ := trodAll_cons r0
  obtain ⟨rfl, rfl, rfl⟩ := trodAll_nil r1
  obtain rfl : args = #[v0, v1] := by cases args; simp_all
  obtain ⟨rfl, rfl⟩ := trodVars_none hV
  obtain ⟨a0, rfl, rfl, rfl, w0⟩ := open_int Tryd.underlying5 (hval 0 5 v0 rfl rfl) h0
  have k1 := h1
  have lt1 : ∀ x ∈ p1, x.block < W.heap.size := by obtain ⟨m, hm⟩ := k1; exact DataW.trod_lt m _ _ _ hm
  obtain ⟨cs1, rfl, _⟩ := okWide_array_ Tryd.underlying23 (hval 1 23 v1 rfl rfl)
  obtain ⟨m1, hm1⟩ := h1
  obtain ⟨a1_0, a1_1, a1_2, a1_3, hcs1, w1_0, w1_1, w1_2, w1_3⟩ := flat23 m1 _ _ hm1
  obtain rfl : cs1 = #[.int .u64 a1_0, .int .u64 a1_1, .int .u64 a1_2, .int .u64 a1_3] := by cases cs1; simp only [Value.cells] at hcs1; subst hcs1; rfl
  clear hA0 hval0
  refine (attestorlaw06_SpongeBack.calls _ a0 a1_0 a1_1 a1_2 a1_3 true W (gl_of_laid hL) (back_true a0 a1_0 a1_1 a1_2 a1_3 (wf_u8 w0) (wf_u64 w1_0).1 (wf_u64 w1_1).1 (wf_u64 w1_2).1 (wf_u64 w1_3).1).choose_spec).mono fun e W' ⟨he, bel⟩ => ?_
  subst he
  exact ⟨_, rfl, _, _, _, [], _, [], hW', trodAll_mk1 (shut_bool Tryd.underlying4 _), (trodAll_cons_mk (shut_int Tryd.underlying5 w0) (trodAll_cons_mk (Below.trod laidOut (by kernel_rfl) (of_decide_eq_true (by kernel_rfl)) k1 bel lt1) trodAll_mk0)), rfl, bel.frame _, fun h => by cases h⟩
theorem spongeBack_row : Rows.SpongeBackSaid :=
  OpenClaim.holds_of_wide 9 Tryd.f9 rfl rfl rfl rfl rfl rfl rfl ⟨rfl, rfl, rfl, rfl, rfl⟩ rfl rfl rfl rfl rfl (by kernel_rfl) Tryd.func9 (by kernel_rfl)
    (of_decide_eq_true (by kernel_rfl)) (by unfold Func.isWrapper; first | (rw [if_pos (by decide +kernel)]; kernel_rfl) | (rw [if_neg (by decide +kernel)]; exact ⟨rfl, rfl⟩))
    (fun os started H enc _ => spongeBack_lifted os started H enc)
theorem spongeBack_card : Rows.SpongeBackCardSaid :=
  Claim7.holds_tied_plain_at .later [] [.widerDeep, .data] true Rows.spongeBackCard.stood.harness false
    spongeBack_row (fun _ h => by cases h) (by kernel_rfl) (fun _ h => by cases h) spongeBack_row_tie rfl ⟨rfl, rfl⟩ (by kernel_rfl) rfl
    (fun f fn hf hfn => by
      obtain rfl : f = 9 := Option.some.inj ((show Tryd.prog.funcNamed "attestor/attestorlaw06.SpongeBack" = some 9 by kernel_rfl).symm.trans hf) |>.symm
      obtain rfl : fn = Tryd.f9 := (Option.some.inj (Tryd.func9.symm.trans hfn)).symm
      exact ⟨by kernel_rfl, fun j t ht => by
        rw [Tryd.params9] at ht
        have hm : t ∈ [5, 23] := by simpa using Array.mem_of_getElem? ht
        have hall : ([5, 23].all fun u => !Tryd.prog.wantsStandIn u) = true := by kernel_rfl
        exact (show Tryd.prog.wantsStandIn t = false by simpa using List.all_eq_true.1 hall t hm)⟩)
    (by kernel_rfl)
end Go.Proofs.YtjfekjblnoagkaaDoor.Q
namespace Go.Proofs.YtjfekjblnoagkaaDoor
/-- Under a short name, for the claim. -/
theorem spongeBack_holds : Rows.SpongeBackCardSaid := Q.spongeBack_card
end Go.Proofs.YtjfekjblnoagkaaDoor
#print axioms Go.Proofs.YtjfekjblnoagkaaDoor.spongeBack_holds
end
