/- Several texts in one, in build order. What they prove, each by its own first remark:
Written by our own copy of a printing program (a twelfth state) out of the translation. Not trusted: Lean checks it.
SpongeSteps's plain law: Hash is made of Perm, two elements at a time; Node is Perm, and the left digest added.
For all fields, lists and digests attestorlaw06.SpongeSteps returns true and leaves its arguments as they were, where the variable 'fields' holds what the program's text lays (the card ties that): no other condition. -/
import Derived.Test.YtjfekjblnoagkaaDoorM2
import Derived.Test.YtjfekjblnoagkaaDoorM3
import Derived.Test.YtjfekjblnoagkaaDoorM4
import Derived.Test.YtjfekjblnoagkaaDoorCards
import Derived.Test.YtjfekjblnoagkaaDoorTie
import Derived.SevenTiedAt
import Derived.SizedLaws
import Derived.ShutString
import Derived.ChangeOld
import Derived.ProofKit
import Derived.Below
import Derived.OpenShut
section
namespace Go.Proofs.YtjfekjblnoagkaaDoor.Q
open Go.RowKit Go.Proofs.YtjfekjblnoagkaaDoorW.PrintWords Go.Proofs.YtjfekjblnoagkaaDoorW.PrintLast Go.Proofs.YtjfekjblnoagkaaDoorW.PrintMore
attribute [local go_sem] max2_int min2_int max_two min_two max_three min_three max_four min_four   -- for this text's walks alone
set_option linter.unusedVariables false
set_option linter.unusedSimpArgs false

attribute [local go_sem high] eqA30
abbrev z7_0_ : Array Bool := #[false, false, false, false, false, false, false, false, false, false, false, false, false, false]
abbrev z7_1_ : Array Bool := #[true, false, false, false, false, false, false, false, false, false, false, false, false, false]
abbrev z7_2_ : Array Bool := #[true, true, false, false, false, false, false, false, false, false, false, false, false, false]
abbrev z7_3_ : Array Bool := #[true, true, true, false, false, false, false, false, false, false, false, false, false, false]
abbrev z7_4_ : Array Bool := #[true, true, true, true, false, false, false, false, false, false, false, false, false, false]
abbrev z7_5_ : Array Bool := #[true, true, true, true, true, false, false, false, false, false, false, false, false, false]
abbrev z7_6_ : Array Bool := #[true, true, true, true, true, true, false, false, false, false, false, false, false, false]
abbrev z7_7_ : Array Bool := #[true, true, true, true, true, true, false, true, false, false, false, false, false, false]
abbrev z7_8_ : Array Bool := #[true, true, true, true, true, true, false, true, true, false, false, false, false, false]
abbrev z7_9_ : Array Bool := #[true, true, true, true, true, true, false, true, true, true, false, false, false, false]
abbrev z7_10_ : Array Bool := #[true, true, true, true, true, true, true, true, true, true, false, false, false, false]
abbrev z7_11_ : Array Bool := #[true, true, true, true, true, true, true, true, true, true, true, false, false, false]
abbrev z7_12_ : Array Bool := #[true, true, true, true, true, true, true, true, true, true, true, true, false, false]
abbrev z7_13_ : Array Bool := #[true, true, true, true, true, true, true, true, true, true, true, true, true, false]
abbrev z7_14_ : Array Bool := #[true, true, true, true, true, true, true, true, true, true, true, true, true, true]
abbrev z7_15_ : Array Bool := #[false, false, false, false, false, false, false, false, false, false, false, false, false, false, false, false, false, false, false, false, false, false, false, false, false, false, false, false, false, false, false, false, false, false, false, false, false, false, false, false, false, false]
abbrev z7_16_ : Array Bool := #[true, false, false, false, false, false, false, false, false, false, false, false, false, false, false, false, false, false, false, false, false, false, false, false, false, false, false, false, false, false, false, false, false, false, false, false, false, false, false, false, false, false]
abbrev z7_17_ : Array Bool := #[true, true, false, false, false, false, false, false, false, false, false, false, false, false, false, false, false, false, false, false, false, false, false, false, false, false, false, false, false, false, false, false, false, false, false, false, false, false, false, false, false, false]
abbrev z7_18_ : Array Bool := #[true, true, false, true, false, false, false, false, false, false, false, false, false, false, false, false, false, false, false, false, false, false, false, false, false, false, false, false, false, false, false, false, false, false, false, false, false, false, false, false, false, false]
abbrev z7_19_ : Array Bool := #[true, true, false, true, false, true, false, false, false, false, false, false, false, false, false, false, false, false, false, false, false, false, false, false, false, false, false, false, false, false, false, false, false, false, false, false, false, false, false, false, false, false]
abbrev z7_20_ : Array Bool := #[true, true, false, true, true, true, false, false, false, false, false, false, false, false, false, false, false, false, false, false, false, false, false, false, false, false, false, false, false, false, false, false, false, false, false, false, false, false, false, false, false, false]
abbrev z7_21_ : Array Bool := #[true, true, false, true, true, true, true, false, false, false, false, false, false, false, false, false, false, false, false, false, false, false, false, false, false, false, false, false, false, false, false, false, false, false, false, false, false, false, false, false, false, false]
abbrev z7_22_ : Array Bool := #[true, true, false, true, true, true, true, true, false, false, false, false, false, false, false, false, false, false, false, false, false, false, false, false, false, false, false, false, false, false, false, false, false, false, false, false, false, false, false, false, false, false]
abbrev z7_23_ : Array Bool := #[true, true, true, true, true, true, true, true, false, false, false, false, false, false, false, false, false, false, false, false, false, false, false, false, false, false, false, false, false, false, false, false, false, false, false, false, false, false, false, false, false, false]
abbrev z7_24_ : Array Bool := #[true, true, true, true, true, true, true, true, true, false, false, false, false, false, false, false, false, false, false, false, false, false, false, false, false, false, false, false, false, false, false, false, false, false, false, false, false, false, false, false, false, false]
abbrev z7_25_ : Array Bool := #[true, true, true, true, true, true, true, true, true, true, false, false, false, false, false, false, false, false, false, false, false, false, false, false, false, false, false, false, false, false, false, false, false, false, false, false, false, false, false, false, false, false]
abbrev z7_26_ : Array Bool := #[true, true, true, true, true, true, true, true, true, true, true, false, false, false, false, false, false, false, false, false, false, false, false, false, false, false, false, false, false, false, false, false, false, false, false, false, false, false, false, false, false, false]
abbrev z7_27_ : Array Bool := #[true, true, true, true, true, true, true, true, true, true, true, false, false, false, true, false, false, false, false, false, false, false, false, false, false, false, false, false, false, false, false, false, false, false, false, false, false, false, false, false, false, false]
abbrev z7_28_ : Array Bool := #[true, true, true, true, true, true, true, true, true, true, true, false, false, false, true, true, false, false, false, false, false, false, false, false, false, false, false, false, false, false, false, false, false, false, false, false, false, false, false, false, false, false]
abbrev z7_29_ : Array Bool := #[true, true, true, true, true, true, true, true, true, true, true, false, false, false, true, true, false, true, false, false, false, false, false, false, false, false, false, false, false, false, false, false, false, false, false, false, false, false, false, false, false, false]
abbrev z7_30_ : Array Bool := #[true, true, true, true, true, true, true, true, true, true, true, false, false, false, true, true, false, true, false, false, true, false, false, false, false, false, false, false, false, false, false, false, false, false, false, false, false, false, false, false, false, false]
abbrev z7_31_ : Array Bool := #[true, true, true, true, true, true, true, true, true, true, true, false, false, false, true, true, false, true, false, false, true, true, false, false, false, false, false, false, false, false, false, false, false, false, false, false, false, false, false, false, false, false]
abbrev z7_32_ : Array Bool := #[true, true, true, true, true, true, true, true, true, true, true, false, false, false, true, true, false, true, false, false, true, true, false, true, false, false, false, false, false, false, false, false, false, false, false, false, false, false, false, false, false, false]
abbrev z7_33_ : Array Bool := #[true, true, true, true, true, true, true, true, true, true, true, true, false, false, true, true, false, true, false, false, true, true, false, true, false, false, false, false, false, false, false, false, false, false, false, false, false, false, false, false, false, false]
abbrev z7_34_ : Array Bool := #[true, true, true, true, true, true, true, true, true, true, true, true, true, false, true, true, false, true, false, false, true, true, false, true, false, false, false, false, false, false, false, false, false, false, false, false, false, false, false, false, false, false]
abbrev z7_35_ : Array Bool := #[true, true, true, true, true, true, true, true, true, true, true, true, true, false, true, true, true, true, false, false, true, true, false, true, false, false, false, false, false, false, false, false, false, false, false, false, false, false, false, false, false, false]
abbrev z7_36_ : Array Bool := #[true, true, true, true, true, true, true, true, true, true, true, true, true, false, true, true, true, true, true, false, true, true, false, true, false, false, false, false, false, false, false, false, false, false, false, false, false, false, false, false, false, false]
abbrev z7_37_ : Array Bool := #[true, true, true, true, true, true, true, true, true, true, true, true, true, false, true, true, true, true, true, false, true, true, true, true, false, false, false, false, false, false, false, false, false, false, false, false, false, false, false, false, false, false]
abbrev z7_38_ : Array Bool := #[true, true, true, true, true, true, true, true, true, true, true, true, true, false, true, true, true, true, true, false, true, true, true, true, true, false, false, false, false, false, false, false, false, false, false, false, false, false, false, false, false, false]
abbrev z7_39_ : Array Bool := #[true, true, true, true, true, true, true, true, true, true, true, true, true, true, true, true, true, true, true, false, true, true, true, true, true, false, false, false, false, false, false, false, false, false, false, false, false, false, false, false, false, false]
abbrev z7_40_ : Array Bool := #[true, true, true, true, true, true, true, true, true, true, true, true, true, true, true, true, true, true, true, true, true, true, true, true, true, false, false, false, false, false, false, false, false, false, false, false, false, false, false, false, false, false]
abbrev z7_41_ : Array Bool := #[true, true, true, true, true, true, true, true, true, true, true, true, true, true, true, true, true, true, true, true, true, true, true, true, true, true, false, false, false, false, false, false, false, false, false, false, false, false, false, false, false, false]
abbrev z7_42_ : Array Bool := #[true, true, true, true, true, true, true, true, true, true, true, true, true, true, true, true, true, true, true, true, true, true, true, true, true, true, true, false, false, false, false, false, false, false, false, false, false, false, false, false, false, false]
abbrev z7_43_ : Array Bool := #[true, true, true, true, true, true, true, true, true, true, true, true, true, true, true, true, true, true, true, true, true, true, true, true, true, true, true, true, false, false, false, false, false, false, false, false, false, false, false, false, false, false]
abbrev z7_44_ : Array Bool := #[true, true, true, true, true, true, true, true, true, true, true, true, true, true, true, true, true, true, true, true, true, true, true, true, true, true, true, true, true, false, false, false, false, false, false, false, false, false, false, false, false, false]
abbrev z7_45_ : Array Bool := #[true, true, true, true, true, true, true, true, true, true, true, true, true, true, true, true, true, true, true, true, true, true, true, true, true, true, true, true, true, true, false, false, false, false, false, false, false, false, false, false, false, false]
abbrev z7_46_ : Array Bool := #[true, true, true, true, true, true, true, true, true, true, true, true, true, true, true, true, true, true, true, true, true, true, true, true, true, true, true, true, true, true, true, false, false, false, false, false, false, false, false, false, false, false]
abbrev z7_47_ : Array Bool := #[true, true, true, true, true, true, true, true, true, true, true, true, true, true, true, true, true, true, true, true, true, true, true, true, true, true, true, true, true, true, true, false, true, false, false, false, false, false, false, false, false, false]
abbrev z7_48_ : Array Bool := #[true, true, true, true, true, true, true, true, true, true, true, true, true, true, true, true, true, true, true, true, true, true, true, true, true, true, true, true, true, true, true, false, true, true, false, false, false, false, false, false, false, false]
abbrev z7_49_ : Array Bool := #[true, true, true, true, true, true, true, true, true, true, true, true, true, true, true, true, true, true, true, true, true, true, true, true, true, true, true, true, true, true, true, false, true, true, true, false, false, false, false, false, false, false]
abbrev z7_50_ : Array Bool := #[true, true, true, true, true, true, true, true, true, true, true, true, true, true, true, true, true, true, true, true, true, true, true, true, true, true, true, true, true, true, true, true, true, true, true, false, false, false, false, false, false, false]
abbrev z7_51_ : Array Bool := #[true, true, true, true, true, true, true, true, true, true, true, true, true, true, true, true, true, true, true, true, true, true, true, true, true, true, true, true, true, true, true, true, true, true, true, true, false, false, false, false, false, false]
abbrev z7_52_ : Array Bool := #[true, true, true, true, true, true, true, true, true, true, true, true, true, true, true, true, true, true, true, true, true, true, true, true, true, true, true, true, true, true, true, true, true, true, true, true, true, false, false, false, false, false]
abbrev z7_53_ : Array Bool := #[true, true, true, true, true, true, true, true, true, true, true, true, true, true, true, true, true, true, true, true, true, true, true, true, true, true, true, true, true, true, true, true, true, true, true, true, true, true, false, false, false, false]
abbrev z7_54_ : Array Bool := #[true, true, true, true, true, true, true, true, true, true, true, true, true, true, true, true, true, true, true, true, true, true, true, true, true, true, true, true, true, true, true, true, true, true, true, true, true, true, true, false, false, false]
abbrev z7_55_ : Array Bool := #[true, true, true, true, true, true, true, true, true, true, true, true, true, true, true, true, true, true, true, true, true, true, true, true, true, true, true, true, true, true, true, true, true, true, true, true, true, true, true, true, false, false]
abbrev z7_56_ : Array Bool := #[true, true, true, true, true, true, true, true, true, true, true, true, true, true, true, true, true, true, true, true, true, true, true, true, true, true, true, true, true, true, true, true, true, true, true, true, true, true, true, true, true, false]
abbrev z7_57_ : Array Bool := #[true, true, true, true, true, true, true, true, true, true, true, true, true, true, true, true, true, true, true, true, true, true, true, true, true, true, true, true, true, true, true, true, true, true, true, true, true, true, true, true, true, true]
/-! ### attestorlaw06_SpongeSteps: function 7 -/
mutual
def attestorlaw06_SpongeSteps.j0 : Nat → List Int → Int → Int → Int → Int → Int → Int → Int → Int → Int → Option (Bool)
  | 0, _, _, _, _, _, _, _, _, _, _ => none
  | k + 1, x1, x9, x475000, x475001, x476000, x476001, x482000, x482001, x482002, x482003 => attestorlaw06_SpongeSteps.l0 k x1 x9 0 x475000 x475001 x476000 x476001 x482000 x482001 x482002 x482003
def attestorlaw06_SpongeSteps.l0 : Nat → List Int → Int → Int → Int → Int → Int → Int → Int → Int → Int → Int → Option (Bool)
  | 0, _, _, _, _, _, _, _, _, _, _, _ => none
  | k + 1, x1, x9, x11, x475000, x475001, x476000, x476001, x482000, x482001, x482002, x482003 => if x11 < (x1.length : Int) then (if 0 ≤ (Int.tmod x11 2) then (if (Int.tmod x11 2) = 0 then (if 0 ≤ x11 then ((field_Add.f x9 x482000 (rd x1 x11)).bind fun t487 => (if (Int.tmod x11 2) = 1 then ((sponge_Perm.f x9 t487 x482001 x482002 x482003).bind fun bt488 => (attestorlaw06_SpongeSteps.l0 k x1 x9 (wrap64 (x11 + 1)) x475000 x475001 x476000 x476001 bt488.1 bt488.2.1 bt488.2.2.1 bt488.2.2.2)) else (if (wrap64 (x11 + 1)) = (x1.length : Int) then ((sponge_Perm.f x9 t487 x482001 x482002 x482003).bind fun bt492 => (attestorlaw06_SpongeSteps.l0 k x1 x9 (wrap64 (x11 + 1)) x475000 x475001 x476000 x476001 bt492.1 bt492.2.1 bt492.2.2.1 bt492.2.2.2)) else (attestorlaw06_SpongeSteps.l0 k x1 x9 (wrap64 (x11 + 1)) x475000 x475001 x476000 x476001 t487 x482001 x482002 x482003)))) else (none)) else (if (Int.tmod x11 2) = 1 then (if 0 ≤ x11 then ((field_Add.f x9 x482001 (rd x1 x11)).bind fun t497 => ((sponge_Perm.f x9 x482000 t497 x482002 x482003).bind fun bt498 => (attestorlaw06_SpongeSteps.l0 k x1 x9 (wrap64 (x11 + 1)) x475000 x475001 x476000 x476001 bt498.1 bt498.2.1 bt498.2.2.1 bt498.2.2.2))) else (none)) else (if (Int.tmod x11 2) = 2 then (if 0 ≤ x11 then ((field_Add.f x9 x482002 (rd x1 x11)).bind fun t503 => (if (wrap64 (x11 + 1)) = (x1.length : Int) then ((sponge_Perm.f x9 x482000 x482001 t503 x482003).bind fun bt504 => (attestorlaw06_SpongeSteps.l0 k x1 x9 (wrap64 (x11 + 1)) x475000 x475001 x476000 x476001 bt504.1 bt504.2.1 bt504.2.2.1 bt504.2.2.2)) else (attestorlaw06_SpongeSteps.l0 k x1 x9 (wrap64 (x11 + 1)) x475000 x475001 x476000 x476001 x482000 x482001 t503 x482003))) else (none)) else (if (Int.tmod x11 2) = 3 then (if 0 ≤ x11 then ((field_Add.f x9 x482003 (rd x1 x11)).bind fun t509 => (if (wrap64 (x11 + 1)) = (x1.length : Int) then ((sponge_Perm.f x9 x482000 x482001 x482002 t509).bind fun bt510 => (attestorlaw06_SpongeSteps.l0 k x1 x9 (wrap64 (x11 + 1)) x475000 x475001 x476000 x476001 bt510.1 bt510.2.1 bt510.2.2.1 bt510.2.2.2)) else (attestorlaw06_SpongeSteps.l0 k x1 x9 (wrap64 (x11 + 1)) x475000 x475001 x476000 x476001 x482000 x482001 x482002 t509))) else (none)) else (none))))) else (none)) else ((sponge_Perm.f x9 x475000 x475001 x476000 x476001).bind fun bt514 => ((sponge_Hash.f k x9 x1).bind fun bt519 => (if (bt519.1 == x482000 && (bt519.2 == x482001)) = true then ((sponge_Node.f x9 x475000 x475001 x476000 x476001).bind fun bt521 => ((field_Add.f x9 bt514.1 x475000).bind fun t523 => ((field_Add.f x9 bt514.2.1 x475001).bind fun t524 => (if (bt521.1 == t523 && (bt521.2 == t524)) = true then ((sponge_Hash.f k x9 ([] : List Int)).bind fun bt525 => ((sponge_Node.f x9 0 0 0 0).bind fun bt527 => (if (bt525.1 == bt527.1 && (bt525.2 == bt527.2)) = true then ((attestorlaw06_lives.f k).bind fun t529 => (some t529)) else (none)))) else (none))))) else (none))))
end
def attestorlaw06_SpongeSteps.f (k : Nat) (a0 : Int) (l1 : List Int) (a2_0 : Int) (a2_1 : Int) (a3_0 : Int) (a3_1 : Int) : Option (Bool) := if 0 ≤ (mn (l1.length : Int) 100) then (if (mn (l1.length : Int) 100) ≤ (l1.length : Int) then ((some (l1.take ((mn (l1.length : Int) 100) : Int).toNat : List Int)).bind fun y476 => ((field_Add.f (wrap64 (Int.tmod a0 4)) (IntKind.u64.wrap ((y476.length : Int))) 0).bind fun t480 => (if (y476.length : Int) = 0 then ((sponge_Perm.f (wrap64 (Int.tmod a0 4)) 0 0 t480 0).bind fun bt482 => (attestorlaw06_SpongeSteps.j0 k y476 (wrap64 (Int.tmod a0 4)) a2_0 a2_1 a3_0 a3_1 bt482.1 bt482.2.1 bt482.2.2.1 bt482.2.2.2)) else (attestorlaw06_SpongeSteps.j0 k y476 (wrap64 (Int.tmod a0 4)) a2_0 a2_1 a3_0 a3_1 0 0 t480 0)))) else (none)) else (none)
theorem attestorlaw06_SpongeSteps.mono_l : ∀ k, (∀ y0 y1 y2 y3 y4 y5 y6 y7 y8 y9, LeO (attestorlaw06_SpongeSteps.j0 k y0 y1 y2 y3 y4 y5 y6 y7 y8 y9) (attestorlaw06_SpongeSteps.j0 (k + 1) y0 y1 y2 y3 y4 y5 y6 y7 y8 y9)) ∧ (∀ y0 y1 y2 y3 y4 y5 y6 y7 y8 y9 y10, LeO (attestorlaw06_SpongeSteps.l0 k y0 y1 y2 y3 y4 y5 y6 y7 y8 y9 y10) (attestorlaw06_SpongeSteps.l0 (k + 1) y0 y1 y2 y3 y4 y5 y6 y7 y8 y9 y10))
  | 0 => ⟨fun _ _ _ _ _ _ _ _ _ _ r h => by simp [attestorlaw06_SpongeSteps.j0] at h, fun _ _ _ _ _ _ _ _ _ _ _ r h => by simp [attestorlaw06_SpongeSteps.l0] at h⟩
  | k + 1 => by
    obtain ⟨ih0, ih1⟩ := attestorlaw06_SpongeSteps.mono_l k
    refine ⟨?_, ?_⟩
    · intro y0 y1 y2 y3 y4 y5 y6 y7 y8 y9
      unfold attestorlaw06_SpongeSteps.j0
      repeat' first
      | (with_reducible exact ih0 _ _ _ _ _ _ _ _ _ _)
      | (with_reducible exact ih1 _ _ _ _ _ _ _ _ _ _ _)
      | (with_reducible exact attestorlaw06_lives.mono _)
      | (with_reducible exact sponge_Hash.mono _ _ _)
      | (with_reducible exact LeO.refl _)
      | (with_reducible exact LeO.none _)
      | (with_reducible refine LeO.ite ?_ ?_)
      | (with_reducible refine LeO.bind ?_ (fun _ => ?_))
      | exact ih0 _ _ _ _ _ _ _ _ _ _
      | exact ih1 _ _ _ _ _ _ _ _ _ _ _
      | exact attestorlaw06_lives.mono _
      | exact sponge_Hash.mono _ _ _
      | exact LeO.none _
      | refine LeO.ite ?_ ?_
      | refine LeO.bind ?_ (fun _ => ?_)
    · intro y0 y1 y2 y3 y4 y5 y6 y7 y8 y9 y10
      unfold attestorlaw06_SpongeSteps.l0
      repeat' first
      | (with_reducible exact ih0 _ _ _ _ _ _ _ _ _ _)
      | (with_reducible exact ih1 _ _ _ _ _ _ _ _ _ _ _)
      | (with_reducible exact attestorlaw06_lives.mono _)
      | (with_reducible exact sponge_Hash.mono _ _ _)
      | (with_reducible exact LeO.refl _)
      | (with_reducible exact LeO.none _)
      | (with_reducible refine LeO.ite ?_ ?_)
      | (with_reducible refine LeO.bind ?_ (fun _ => ?_))
      | exact ih0 _ _ _ _ _ _ _ _ _ _
      | exact ih1 _ _ _ _ _ _ _ _ _ _ _
      | exact attestorlaw06_lives.mono _
      | exact sponge_Hash.mono _ _ _
      | exact LeO.none _
      | refine LeO.ite ?_ ?_
      | refine LeO.bind ?_ (fun _ => ?_)
theorem attestorlaw06_SpongeSteps.mono : ∀ a0 a1 a2 a3 a4 a5 k, LeO (attestorlaw06_SpongeSteps.f k a0 a1 a2 a3 a4 a5) (attestorlaw06_SpongeSteps.f (k + 1) a0 a1 a2 a3 a4 a5) := by
  intro a0 a1 a2 a3 a4 a5 k
  obtain ⟨ih0, ih1⟩ := attestorlaw06_SpongeSteps.mono_l k
  unfold attestorlaw06_SpongeSteps.f
  repeat' first
      | (with_reducible exact ih0 _ _ _ _ _ _ _ _ _ _)
      | (with_reducible exact ih1 _ _ _ _ _ _ _ _ _ _ _)
      | (with_reducible exact attestorlaw06_lives.mono _)
      | (with_reducible exact sponge_Hash.mono _ _ _)
      | (with_reducible exact LeO.refl _)
      | (with_reducible exact LeO.none _)
      | (with_reducible refine LeO.ite ?_ ?_)
      | (with_reducible refine LeO.bind ?_ (fun _ => ?_))
      | exact ih0 _ _ _ _ _ _ _ _ _ _
      | exact ih1 _ _ _ _ _ _ _ _ _ _ _
      | exact attestorlaw06_lives.mono _
      | exact sponge_Hash.mono _ _ _
      | exact LeO.none _
      | refine LeO.ite ?_ ?_
      | refine LeO.bind ?_ (fun _ => ?_)
def attestorlaw06_SpongeSteps.T9 : Bool × List (List Nat × List Nat) := (true, [([], []), ([0], [0]), ([], []), ([], []), ([3], [3]), ([4], [4]), ([5], [5]), ([], []), ([], []), ([7, 8], [7, 8]), ([9], [9]), ([2, 6, 10], [2, 6, 10]), ([1, 0, 1, 2, 3, 4, 5, 6, 7, 8, 9, 10, 11], [1]), ([12, 11, 11, 0, 1, 2, 3, 4, 5, 6, 7, 8, 9, 10, 11], [11, 12])])
def attestorlaw06_SpongeSteps.B9 : List Nat := [0, 1, 0, 0, 8, 24, 56, 0, 0, 384, 896, 2044, 4095, 8191]
theorem attestorlaw06_SpongeSteps.tab9 : rtab .any (opsOf Tryd.f7 9) = attestorlaw06_SpongeSteps.T9 := by kernel_rfl
theorem attestorlaw06_SpongeSteps.bits9 : waitsOk attestorlaw06_SpongeSteps.T9.2 attestorlaw06_SpongeSteps.B9 = true := by kernel_rfl
def attestorlaw06_SpongeSteps.T13 : Bool × List (List Nat × List Nat) := (true, [([], []), ([], []), ([0, 1], [0, 1]), ([], []), ([3], [3]), ([], []), ([5], [5]), ([4, 6], [4, 6]), ([2, 7], [2, 7]), ([8, 2], [8]), ([9], [9]), ([9], [9]), ([9], [9]), ([10, 11, 12, 9, 9], [9, 10, 11, 12]), ([9], [9]), ([9], [9]), ([15, 9], [9, 15]), ([9], [9]), ([17, 9], [9, 17]), ([14, 16, 18, 13, 9], [9, 14, 16, 18]), ([9], [9]), ([9], [9]), ([21, 9], [9, 21]), ([9], [9]), ([23, 9], [9, 23]), ([20, 22, 24, 19, 9], [9, 20, 22, 24]), ([19, 25, 9], [9, 19, 25]), ([13, 26, 9], [9, 13, 26]), ([9, 27], [9, 27]), ([28, 25], [28]), ([29], [29]), ([30, 29, 29], [29, 30]), ([29], [29]), ([29], [29]), ([29], [29]), ([32, 33, 34, 31, 29], [29, 32, 33, 34]), ([31, 35, 29], [29, 31, 35]), ([29, 36], [29, 36]), ([37, 35], [37]), ([38, 38], [38]), ([38, 39], [38, 39]), ([40, 39, 0, 1, 2, 3, 4, 5, 6, 7, 8, 9, 10, 11, 12, 13, 14, 15, 16, 17, 18, 19, 20, 21, 22, 23, 24, 25, 26, 27, 28, 29, 30, 31, 32, 33, 34, 35, 36, 37, 38, 39, 40], [40])])
def attestorlaw06_SpongeSteps.B13 : List Nat := [0, 0, 3, 0, 8, 0, 32, 120, 255, 511, 1023, 1023, 1023, 8191, 1023, 1023, 33791, 1023, 132095, 524287, 1023, 1023, 2098175, 1023, 8389631, 33554431, 67108863, 134217727, 268435455, 536870911, 1073741823, 2147483647, 1073741823, 1073741823, 1073741823, 34359738367, 68719476735, 137438953471, 274877906943, 549755813887, 1099511627775, 2199023255551]
theorem attestorlaw06_SpongeSteps.tab13 : rtab .any (opsOf Tryd.f7 13) = attestorlaw06_SpongeSteps.T13 := by kernel_rfl
theorem attestorlaw06_SpongeSteps.bits13 : waitsOk attestorlaw06_SpongeSteps.T13.2 attestorlaw06_SpongeSteps.B13 = true := by kernel_rfl
set_option maxHeartbeats 8000000 in
set_option maxRecDepth 100000 in
theorem attestorlaw06_SpongeSteps.calls (k : Nat) (a0 : Int) (A1 : Option Addr) (c1 : Nat) (l1 : List Int) (a2_0 : Int) (a2_1 : Int) (a3_0 : Int) (a3_1 : Int) (r : Bool) (w : World) (hr1 : Kd.C (Kd.int .u64) w A1 l1.length l1) (hc1 : l1.length ≤ c1) (hrG : GL w) (h : attestorlaw06_SpongeSteps.f k a0 l1 a2_0 a2_1 a3_0 a3_1 = some r) :
  Calls Tryd.prog 7 #[.int .u8 a0, .slice A1 l1.length c1, .agg #[.int .u64 a2_0, .int .u64 a2_1], .agg #[.int .u64 a3_0, .int .u64 a3_1]] w fun e w' => e = .returned (.bool r) ∧ Below w.heap.size w w' := by
 have hu30 := Tryd.underlying30
 have hu23 := Tryd.underlying23
 have HRG := Aside0.mk hrG
 clear hrG
 have HR1 := Aside0.mk hr1
 have HC1 := Aside0.mk hc1
 clear hr1 hc1
 have HB := Aside0.mk (Below.refl w.heap.size w)
 have H : (if 0 ≤ (mn (l1.length : Int) 100) then (if (mn (l1.length : Int) 100) ≤ (l1.length : Int) then ((some (l1.take ((mn (l1.length : Int) 100) : Int).toNat : List Int)).bind fun y476 => ((field_Add.f (wrap64 (Int.tmod a0 4)) (IntKind.u64.wrap ((y476.length : Int))) 0).bind fun t480 => (if (y476.length : Int) = 0 then ((sponge_Perm.f (wrap64 (Int.tmod a0 4)) 0 0 t480 0).bind fun bt482 => (attestorlaw06_SpongeSteps.j0 k y476 (wrap64 (Int.tmod a0 4)) a2_0 a2_1 a3_0 a3_1 bt482.1 bt482.2.1 bt482.2.2.1 bt482.2.2.2)) else (attestorlaw06_SpongeSteps.j0 k y476 (wrap64 (Int.tmod a0 4)) a2_0 a2_1 a3_0 a3_1 0 0 t480 0)))) else (none)) else (none)) = some r := h
 clear h
 obtain ⟨ji5, hji5⟩ : ∃ j_ : Int, (mn (l1.length : Int) 100) = j_ := ⟨_, rfl⟩
 replace H : (if 0 ≤ (ji5) then (if (ji5) ≤ (l1.length : Int) then ((some (l1.take ((ji5) : Int).toNat : List Int)).bind fun y476 => ((field_Add.f (wrap64 (Int.tmod a0 4)) (IntKind.u64.wrap ((y476.length : Int))) 0).bind fun t480 => (if (y476.length : Int) = 0 then ((sponge_Perm.f (wrap64 (Int.tmod a0 4)) 0 0 t480 0).bind fun bt482 => (attestorlaw06_SpongeSteps.j0 k y476 (wrap64 (Int.tmod a0 4)) a2_0 a2_1 a3_0 a3_1 bt482.1 bt482.2.1 bt482.2.2.1 bt482.2.2.2)) else (attestorlaw06_SpongeSteps.j0 k y476 (wrap64 (Int.tmod a0 4)) a2_0 a2_1 a3_0 a3_1 0 0 t480 0)))) else (none)) else (none)) = some r := by first | (rw [hji5] at H; exact H) | (simp only [hji5] at H ⊢; exact H)
 (try (have hji5h : ji5 ≤ 100 := by (rw [← hji5]; unfold mn; (repeat' split) <;> omega)))
 (try (have hji5g : ji5 ≤ 64 := by omega))
 (try (have hji5l : 0 ≤ ji5 := by (rw [← hji5]; unfold mn; (repeat' split) <;> omega)))
 (try (have hji5m : 0 ≤ ji5 := by omega))
 have hji5_ : (if 100 < (l1.length : Int) then 100 else (l1.length : Int)) = ji5 := hji5
 by_cases c6 : 0 ≤ (ji5)
 ·rw [if_pos c6] at H
  have c6b0 := eq_true c6
  have c6b1 : decide (0 ≤ (ji5)) = true := decide_eq_true c6
  clear c6
  by_cases c7 : (ji5) ≤ (l1.length : Int)
  ·rw [if_pos c7] at H
   have c7b0 := eq_true c7
   have c7b1 : decide ((ji5) ≤ (l1.length : Int)) = true := decide_eq_true c7
   clear c7
   obtain ⟨y476, hy476⟩ : ∃ y_ : List Int, y_ = (l1.take ((ji5) : Int).toNat) := ⟨_, rfl⟩
   replace H : ((field_Add.f (wrap64 (Int.tmod a0 4)) (IntKind.u64.wrap ((y476.length : Int))) 0).bind fun t480 => (if (y476.length : Int) = 0 then ((sponge_Perm.f (wrap64 (Int.tmod a0 4)) 0 0 t480 0).bind fun bt482 => (attestorlaw06_SpongeSteps.j0 k y476 (wrap64 (Int.tmod a0 4)) a2_0 a2_1 a3_0 a3_1 bt482.1 bt482.2.1 bt482.2.2.1 bt482.2.2.2)) else (attestorlaw06_SpongeSteps.j0 k y476 (wrap64 (Int.tmod a0 4)) a2_0 a2_1 a3_0 a3_1 0 0 t480 0))) = some r := by first | (rw [hy476]; with_reducible exact H) | (have H2_ := (Option.bind_some _ _).symm.trans H; rw [hy476]; with_reducible exact H2_) | (have H2_ := (Option.bind_some _ _).symm.trans H; with_reducible exact H2_) | with_reducible exact H | (rw [hy476]; exact H) | exact H
   have Ny476 := Aside0.mk hy476
   clear hy476
   replace H := Option.bind_eq_some_iff.mp H
   obtain ⟨t480, A80, H⟩ := H
   replace H : (if (y476.length : Int) = 0 then ((sponge_Perm.f (wrap64 (Int.tmod a0 4)) 0 0 t480 0).bind fun bt482 => (attestorlaw06_SpongeSteps.j0 k y476 (wrap64 (Int.tmod a0 4)) a2_0 a2_1 a3_0 a3_1 bt482.1 bt482.2.1 bt482.2.2.1 bt482.2.2.2)) else (attestorlaw06_SpongeSteps.j0 k y476 (wrap64 (Int.tmod a0 4)) a2_0 a2_1 a3_0 a3_1 0 0 t480 0)) = some r := H
   have A8 := Aside0.mk A80
   clear A80
   have HC9 := Aside0.mk H
   clear H
   go_enter Tryd.func7, Tryd.ntmps7
   go_upto_if 29 with (first | ((with_reducible refine gate_dst (N := 6) rfl ?_); (try (refine gate_guard (by rfl) ?_; dsimp only)); refine box_event ?hg (N := 6) ?hd (cs := #[.int .u64 a2_0, .int .u64 a2_1]) (t := 30) ?hr ?_; (case hd => rfl); (case hg => rfl); (case hr => first | (go_simp; done) | (go_simp; rfl)); intro g474 hg w10 hbox hb; have n0_ := Aside0.mk (below_step (by repeat (first | (with_reducible first | exact HB.out | apply below_alloc | apply pw_below_drewN | apply below_drew1) | exact HB.out)) hb); have n1_ := Aside0.mk (hbox); have n2_ := Aside0.mk ((by rw [hg]; exact (below_size (by repeat (first | (with_reducible first | exact HB.out | apply below_alloc | apply pw_below_drewN | apply below_drew1) | exact HB.out))) : w.heap.size ≤ g474)); have n3_ := Aside0.mk ((by rw [hg]; exact (below_size (by repeat (first | (with_reducible first | exact HB.out | apply below_alloc | apply pw_below_drewN | apply below_drew1) | exact HB.out))) : w.heap.size ≤ g474)); clear HB; have HB := n0_; have B474 := n1_; have GW474 := n2_; have GE474 := n3_; clear n0_ n1_ n2_ n3_; clear hb hbox hg) | ((with_reducible refine gate_dst (N := 7) rfl ?_); (try (refine gate_guard (by rfl) ?_; dsimp only)); refine box_event ?hg (N := 7) ?hd (cs := #[.int .u64 a3_0, .int .u64 a3_1]) (t := 30) ?hr ?_; (case hd => rfl); (case hg => rfl); (case hr => first | (go_simp; done) | (go_simp; rfl)); intro g475 hg w11 hbox hb; have n0_ := Aside0.mk (blk_below (g := g474) (o := .cells #[.int .u64 a2_0, .int .u64 a2_1] 30 (0, 0)) (by (with_reducible repeat first | refine blk_drewN ?_ _ | refine blk_drew ?_ | refine blk_alloc ?_ _); exact B474.out) hb); have n1_ := Aside0.mk (below_step (by repeat (first | (with_reducible first | exact HB.out | apply below_alloc | apply pw_below_drewN | apply below_drew1 | refine below_set ?_ GE474.out) | exact HB.out)) hb); have n2_ := Aside0.mk (hbox); have n3_ := Aside0.mk ((by rw [hg]; exact (below_size (by repeat (first | (with_reducible first | exact HB.out | apply below_alloc | apply pw_below_drewN | apply below_drew1 | refine below_set ?_ GE474.out) | exact HB.out))) : w.heap.size ≤ g475)); have n4_ := Aside0.mk ((by rw [hg]; exact (below_size (by repeat (first | (with_reducible first | exact HB.out | apply below_alloc | apply pw_below_drewN | apply below_drew1 | refine below_set ?_ GE474.out) | exact HB.out))) : w.heap.size ≤ g475)); have n5_ := Aside0.mk ((by rw [hg]; exact Nat.ne_of_lt (blk_lt (g := g474) (o := .cells #[.int .u64 a2_0, .int .u64 a2_1] 30 (0, 0)) (by (with_reducible repeat first | refine blk_drewN ?_ _ | refine blk_drew ?_ | refine blk_alloc ?_ _); exact B474.out)) : g474 ≠ g475)); have n6_ := Aside0.mk ((by rw [hg]; exact Nat.ne_of_gt (blk_lt (g := g474) (o := .cells #[.int .u64 a2_0, .int .u64 a2_1] 30 (0, 0)) (by (with_reducible repeat first | refine blk_drewN ?_ _ | refine blk_drew ?_ | refine blk_alloc ?_ _); exact B474.out)) : g475 ≠ g474)); clear B474; clear HB; have B474 := n0_; have HB := n1_; have B475 := n2_; have GW475 := n3_; have GE475 := n4_; have NB474_475 := n5_; have NB475_474 := n6_; clear n0_ n1_ n2_ n3_ n4_ n5_ n6_; clear hb hbox hg; have q12 : ((ji5) : Int) ≤ ((l1.length : Int) : Int) := of_decide_eq_true (by first | (with_reducible assumption) | assumption); obtain ⟨i012, hi012, _, hsz12, _⟩ := info_parts info22; have hroom12 : l1.length ≤ c1 := HC1.out; have hC12 : Kd.C (Kd.int .u64) _ A1 l1.length l1 := HR1.out; have hcut12 := cut_to (P := Tryd.prog) 28 22 .i64 Tryd.underlying28 hi012 A1 l1.length c1 (ji5) (of_decide_eq_true (by first | (with_reducible assumption) | assumption)) q12 hroom12; have hr12 := Kd.C_take (m := ((ji5) : Int).toNat) hC12 (by omega); have hy12 : y476.length = ((ji5) : Int).toNat := (by rw [Ny476.out, List.length_take]; omega); rw [← Ny476.out] at hr12; rw [← hy12] at hcut12; have HR479 := Aside0.mk hr12; have HC479 := Aside0.mk (show y476.length ≤ c1 from by omega); clear hr12 hC12 hroom12 hi012 hsz12; have KY12 := Aside0.mk hy12; clear hy12; replace q12 := eq_true q12) | ((with_reducible refine gate_callee (f := 23) rfl ?_); refine goesL_ (some 25) rfl rfl Tryd.func23 (by kernel_rfl) rfl #[.int .i64 (wrap64 (Int.tmod a0 4)), .int .u64 (IntKind.u64.wrap ((y476.length : Int))), .int .u64 0] rfl (by (try simp only [List.map_toArray, List.map_cons, List.map_nil]); first | done | rfl) ?_; (with_reducible refine (field_Add.calls (wrap64 (Int.tmod a0 4)) (IntKind.u64.wrap ((y476.length : Int))) 0 t480 _ ?side1 A8.out).mono ?_); (case side1 => repeat (first | exact (GL.below HRG.out HB.out) | (with_reducible refine GL.alloc ?_ _) | (with_reducible refine GL.drewN ?_ _) | (with_reducible refine GL.drew ?_))); rintro e w13 ⟨rfl, hb⟩; refine ⟨_, rfl, ?_⟩; have n0_ := Aside0.mk (blk_below (g := g474) (o := .cells #[.int .u64 a2_0, .int .u64 a2_1] 30 (0, 0)) (by (with_reducible repeat first | refine blk_drewN ?_ _ | refine blk_drew ?_ | refine blk_alloc ?_ _); exact B474.out) hb); have n1_ := Aside0.mk (blk_below (g := g475) (o := .cells #[.int .u64 a3_0, .int .u64 a3_1] 30 (0, 0)) (by (with_reducible repeat first | refine blk_drewN ?_ _ | refine blk_drew ?_ | refine blk_alloc ?_ _); exact B475.out) hb); have n2_ := Aside0.mk (below_step (by repeat (first | (with_reducible first | exact HB.out | apply below_alloc | apply pw_below_drewN | apply below_drew1 | refine below_set ?_ GE474.out | refine below_set ?_ GE475.out) | exact HB.out)) hb); clear B474; clear B475; clear HB; have B474 := n0_; have B475 := n1_; have HB := n2_; clear n0_ n1_ n2_; (try clear hb); (try clear hb2); (try clear hk); (try clear hi)) | ((with_reducible refine gate_dst (N := 10) rfl ?_); (try (refine gate_guard (by rfl) ?_; dsimp only)); refine box_event ?hg (N := 10) ?hd (cs := #[.int .u64 0, .int .u64 0, .int .u64 0, .int .u64 0]) (t := 23) ?hr ?_; (case hd => rfl); (case hg => rfl); (case hr => first | (go_simp; done) | (go_simp; rfl)); intro g481 hg w14 hbox hb; have n0_ := Aside0.mk (blk_below (g := g474) (o := .cells #[.int .u64 a2_0, .int .u64 a2_1] 30 (0, 0)) (by (with_reducible repeat first | refine blk_drewN ?_ _ | refine blk_drew ?_ | refine blk_alloc ?_ _); exact B474.out) hb); have n1_ := Aside0.mk (blk_below (g := g475) (o := .cells #[.int .u64 a3_0, .int .u64 a3_1] 30 (0, 0)) (by (with_reducible repeat first | refine blk_drewN ?_ _ | refine blk_drew ?_ | refine blk_alloc ?_ _); exact B475.out) hb); have n2_ := Aside0.mk (below_step (by repeat (first | (with_reducible first | exact HB.out | apply below_alloc | apply pw_below_drewN | apply below_drew1 | refine below_set ?_ GE474.out | refine below_set ?_ GE475.out) | exact HB.out)) hb); have n3_ := Aside0.mk (hbox); have n4_ := Aside0.mk ((by rw [hg]; exact (below_size (by repeat (first | (with_reducible first | exact HB.out | apply below_alloc | apply pw_below_drewN | apply below_drew1 | refine below_set ?_ GE474.out | refine below_set ?_ GE475.out) | exact HB.out))) : w.heap.size ≤ g481)); have n5_ := Aside0.mk ((by rw [hg]; exact (below_size (by repeat (first | (with_reducible first | exact HB.out | apply below_alloc | apply pw_below_drewN | apply below_drew1 | refine below_set ?_ GE474.out | refine below_set ?_ GE475.out) | exact HB.out))) : w.heap.size ≤ g481)); have n6_ := Aside0.mk ((by rw [hg]; exact Nat.ne_of_lt (blk_lt (g := g474) (o := .cells #[.int .u64 a2_0, .int .u64 a2_1] 30 (0, 0)) (by (with_reducible repeat first | refine blk_drewN ?_ _ | refine blk_drew ?_ | refine blk_alloc ?_ _); exact B474.out)) : g474 ≠ g481)); have n7_ := Aside0.mk ((by rw [hg]; exact Nat.ne_of_gt (blk_lt (g := g474) (o := .cells #[.int .u64 a2_0, .int .u64 a2_1] 30 (0, 0)) (by (with_reducible repeat first | refine blk_drewN ?_ _ | refine blk_drew ?_ | refine blk_alloc ?_ _); exact B474.out)) : g481 ≠ g474)); have n8_ := Aside0.mk ((by rw [hg]; exact Nat.ne_of_lt (blk_lt (g := g475) (o := .cells #[.int .u64 a3_0, .int .u64 a3_1] 30 (0, 0)) (by (with_reducible repeat first | refine blk_drewN ?_ _ | refine blk_drew ?_ | refine blk_alloc ?_ _); exact B475.out)) : g475 ≠ g481)); have n9_ := Aside0.mk ((by rw [hg]; exact Nat.ne_of_gt (blk_lt (g := g475) (o := .cells #[.int .u64 a3_0, .int .u64 a3_1] 30 (0, 0)) (by (with_reducible repeat first | refine blk_drewN ?_ _ | refine blk_drew ?_ | refine blk_alloc ?_ _); exact B475.out)) : g481 ≠ g475)); clear B474; clear B475; clear HB; have B474 := n0_; have B475 := n1_; have HB := n2_; have B481 := n3_; have GW481 := n4_; have GE481 := n5_; have NB474_481 := n6_; have NB481_474 := n7_; have NB475_481 := n8_; have NB481_475 := n9_; clear n0_ n1_ n2_ n3_ n4_ n5_ n6_ n7_ n8_ n9_; clear hb hbox hg; have hnb15 := NB481_474.out; have hnc15 := NB474_481.out; have hnb16 := NB481_475.out; have hnc16 := NB475_481.out; have hcz17_0 : w14.cell? ⟨g481, 0, none⟩ = some (.int .u64 0) := bq_ B481 0; have hcz17_1 : w14.cell? ⟨g481, 1, none⟩ = some (.int .u64 0) := bq_ B481 1; have hcz17_2 : w14.cell? ⟨g481, 2, none⟩ = some (.int .u64 0) := bq_ B481 2; have hcz17_3 : w14.cell? ⟨g481, 3, none⟩ = some (.int .u64 0) := bq_ B481 3; have hfz17_0 := blk_frozen B481.out 0; have hfz17_1 := blk_frozen B481.out 1; have hfz17_2 := blk_frozen B481.out 2; have hfz17_3 := blk_frozen B481.out 3))
   (try simp only [Act.put, sa_, sb_, sc_])
   go_cut [] (fun wc => ∃ (kq : Nat) (x482000_8 : Int) (x482001_8 : Int) (x482002_8 : Int) (x482003_8 : Int), Aside0 (attestorlaw06_SpongeSteps.j0 kq y476 (wrap64 (Int.tmod a0 4)) a2_0 a2_1 a3_0 a3_1 x482000_8 x482001_8 x482002_8 x482003_8 = some r) ∧ Aside0 (kq ≤ k) ∧ Aside0 (wc.heap[g474]? = some (.cells #[.int .u64 a2_0, .int .u64 a2_1] 30 (0, 0))) ∧ Aside0 (wc.heap[g475]? = some (.cells #[.int .u64 a3_0, .int .u64 a3_1] 30 (0, 0))) ∧ Aside0 (wc.heap[g481]? = some (.cells #[.int .u64 x482000_8, .int .u64 x482001_8, .int .u64 x482002_8, .int .u64 x482003_8] 23 (0, 0))) ∧ Aside0 (Below w.heap.size w wc))
   case first =>
    have H := HC9.out
    clear HC9
    by_cases c18 : (y476.length : Int) = 0
    ·rw [if_pos c18] at H
     have c18b0 : ((y476.length : Int) == 0) = true := beq_iff_eq.mpr c18
     have c18b1 : ((y476.length : Int) != 0) = false := bne_eq_false_iff_eq.mpr c18
     clear c18
     (first | rw [c18b0] | (simp only [i64_w, i32_w]; rw [c18b0]) | skip)
     replace H := Option.bind_eq_some_iff.mp H
     obtain ⟨⟨t482, t483, t484, t485⟩, A190, H⟩ := H
     replace H : (attestorlaw06_SpongeSteps.j0 k y476 (wrap64 (Int.tmod a0 4)) a2_0 a2_1 a3_0 a3_1 t482 t483 t484 t485) = some r := H
     have A19 := Aside0.mk A190
     clear A190
     have H' := Aside0.mk H
     clear H
     have hnb20 := NB481_474.out
     have hnc20 := NB474_481.out
     have hnb21 := NB481_475.out
     have hnc21 := NB475_481.out
     have hcz22_0 : w14.cell? ⟨g481, 0, none⟩ = some (.int .u64 0) := bq_ B481 0
     have hcz22_1 : w14.cell? ⟨g481, 1, none⟩ = some (.int .u64 0) := bq_ B481 1
     have hcz22_2 : w14.cell? ⟨g481, 2, none⟩ = some (.int .u64 0) := bq_ B481 2
     have hcz22_3 : w14.cell? ⟨g481, 3, none⟩ = some (.int .u64 0) := bq_ B481 3
     have hfz22_0 := blk_frozen B481.out 0
     have hfz22_1 := blk_frozen B481.out 1
     have hfz22_2 := blk_frozen B481.out 2
     have hfz22_3 := blk_frozen B481.out 3
     go_wp2_with (first | ((with_reducible refine gate_callee (f := 19) rfl ?_); refine goesL_ (some 32) rfl rfl Tryd.func19 (by kernel_rfl) rfl #[.int .i64 (wrap64 (Int.tmod a0 4)), .agg #[.int .u64 0, .int .u64 0, .int .u64 t480, .int .u64 0]] rfl (by (try simp only [List.map_toArray, List.map_cons, List.map_nil]); first | done | rfl) ?_; (with_reducible refine (sponge_Perm.calls (wrap64 (Int.tmod a0 4)) 0 0 t480 0 t482 t483 t484 t485 _ ?side1 A19.out).mono ?_); (case side1 => exact GL.below HRG.out (by repeat (first | (with_reducible first | exact HB.out | apply below_alloc | apply pw_below_drewN | apply below_drew1 | refine below_set ?_ GE474.out | refine below_set ?_ GE475.out | refine below_set ?_ GE481.out) | exact HB.out))); rintro e w23 ⟨rfl, hb⟩; refine ⟨_, rfl, ?_⟩; have n0_ := Aside0.mk (blk_below (g := g474) (o := .cells #[.int .u64 a2_0, .int .u64 a2_1] 30 (0, 0)) (by (with_reducible repeat first | refine blk_drewN ?_ _ | refine blk_drew ?_ | refine blk_alloc ?_ _); refine blk_far ?_ NB474_481.out _; (with_reducible repeat first | refine blk_drewN ?_ _ | refine blk_drew ?_ | refine blk_alloc ?_ _); refine blk_far ?_ NB474_481.out _; (with_reducible repeat first | refine blk_drewN ?_ _ | refine blk_drew ?_ | refine blk_alloc ?_ _); refine blk_far ?_ NB474_481.out _; (with_reducible repeat first | refine blk_drewN ?_ _ | refine blk_drew ?_ | refine blk_alloc ?_ _); refine blk_far ?_ NB474_481.out _; (with_reducible repeat first | refine blk_drewN ?_ _ | refine blk_drew ?_ | refine blk_alloc ?_ _); exact B474.out) hb); have n1_ := Aside0.mk (blk_below (g := g475) (o := .cells #[.int .u64 a3_0, .int .u64 a3_1] 30 (0, 0)) (by (with_reducible repeat first | refine blk_drewN ?_ _ | refine blk_drew ?_ | refine blk_alloc ?_ _); refine blk_far ?_ NB475_481.out _; (with_reducible repeat first | refine blk_drewN ?_ _ | refine blk_drew ?_ | refine blk_alloc ?_ _); refine blk_far ?_ NB475_481.out _; (with_reducible repeat first | refine blk_drewN ?_ _ | refine blk_drew ?_ | refine blk_alloc ?_ _); refine blk_far ?_ NB475_481.out _; (with_reducible repeat first | refine blk_drewN ?_ _ | refine blk_drew ?_ | refine blk_alloc ?_ _); refine blk_far ?_ NB475_481.out _; (with_reducible repeat first | refine blk_drewN ?_ _ | refine blk_drew ?_ | refine blk_alloc ?_ _); exact B475.out) hb); have n2_ := Aside0.mk (blk_below (g := g481) (o := .cells #[.int .u64 0, .int .u64 0, .int .u64 t480, .int .u64 0] 23 (0, 0)) (by (with_reducible repeat first | refine blk_drewN ?_ _ | refine blk_drew ?_ | refine blk_alloc ?_ _); refine blk_put (cs := #[.int .u64 0, .int .u64 0, .int .u64 t480, .int .u64 0]) ?_ 3 _ rfl; (with_reducible repeat first | refine blk_drewN ?_ _ | refine blk_drew ?_ | refine blk_alloc ?_ _); refine blk_put (cs := #[.int .u64 0, .int .u64 0, .int .u64 0, .int .u64 0]) ?_ 2 _ rfl; (with_reducible repeat first | refine blk_drewN ?_ _ | refine blk_drew ?_ | refine blk_alloc ?_ _); refine blk_put (cs := #[.int .u64 0, .int .u64 0, .int .u64 0, .int .u64 0]) ?_ 1 _ rfl; (with_reducible repeat first | refine blk_drewN ?_ _ | refine blk_drew ?_ | refine blk_alloc ?_ _); refine blk_put (cs := #[.int .u64 0, .int .u64 0, .int .u64 0, .int .u64 0]) ?_ 0 _ rfl; (with_reducible repeat first | refine blk_drewN ?_ _ | refine blk_drew ?_ | refine blk_alloc ?_ _); exact B481.out) hb); have n3_ := Aside0.mk (below_step (by repeat (first | (with_reducible first | exact HB.out | apply below_alloc | apply pw_below_drewN | apply below_drew1 | refine below_set ?_ GE474.out | refine below_set ?_ GE475.out | refine below_set ?_ GE481.out) | exact HB.out)) hb); clear B474; clear B475; clear B481; clear HB; have B474 := n0_; have B475 := n1_; have B481 := n2_; have HB := n3_; clear n0_ n1_ n2_ n3_; (try clear hb); (try clear hb2); (try clear hk); (try clear hi); have hcz24_0 : w23.cell? ⟨g481, 0, none⟩ = some (.int .u64 0) := bq_ B481 0; have hcz24_1 : w23.cell? ⟨g481, 1, none⟩ = some (.int .u64 0) := bq_ B481 1; have hcz24_2 : w23.cell? ⟨g481, 2, none⟩ = some (.int .u64 t480) := bq_ B481 2; have hcz24_3 : w23.cell? ⟨g481, 3, none⟩ = some (.int .u64 0) := bq_ B481 3; have hfz24_0 := blk_frozen B481.out 0; have hfz24_1 := blk_frozen B481.out 1; have hfz24_2 := blk_frozen B481.out 2; have hfz24_3 := blk_frozen B481.out 3))
     go_meet
     case rel => exact ⟨_, (t482), (t483), (t484), (t485), H', ⟨by first | omega | exact Nat.le_refl _⟩, ⟨by (with_reducible repeat first | refine blk_drewN ?_ _ | refine blk_drew ?_ | refine blk_alloc ?_ _); refine blk_far ?_ NB474_481.out _; (with_reducible repeat first | refine blk_drewN ?_ _ | refine blk_drew ?_ | refine blk_alloc ?_ _); refine blk_far ?_ NB474_481.out _; (with_reducible repeat first | refine blk_drewN ?_ _ | refine blk_drew ?_ | refine blk_alloc ?_ _); refine blk_far ?_ NB474_481.out _; (with_reducible repeat first | refine blk_drewN ?_ _ | refine blk_drew ?_ | refine blk_alloc ?_ _); refine blk_far ?_ NB474_481.out _; (with_reducible repeat first | refine blk_drewN ?_ _ | refine blk_drew ?_ | refine blk_alloc ?_ _); exact B474.out⟩, ⟨by (with_reducible repeat first | refine blk_drewN ?_ _ | refine blk_drew ?_ | refine blk_alloc ?_ _); refine blk_far ?_ NB475_481.out _; (with_reducible repeat first | refine blk_drewN ?_ _ | refine blk_drew ?_ | refine blk_alloc ?_ _); refine blk_far ?_ NB475_481.out _; (with_reducible repeat first | refine blk_drewN ?_ _ | refine blk_drew ?_ | refine blk_alloc ?_ _); refine blk_far ?_ NB475_481.out _; (with_reducible repeat first | refine blk_drewN ?_ _ | refine blk_drew ?_ | refine blk_alloc ?_ _); refine blk_far ?_ NB475_481.out _; (with_reducible repeat first | refine blk_drewN ?_ _ | refine blk_drew ?_ | refine blk_alloc ?_ _); exact B475.out⟩, ⟨by (with_reducible repeat first | refine blk_drewN ?_ _ | refine blk_drew ?_ | refine blk_alloc ?_ _); refine blk_put (cs := #[.int .u64 t482, .int .u64 t483, .int .u64 t484, .int .u64 0]) ?_ 3 _ rfl; (with_reducible repeat first | refine blk_drewN ?_ _ | refine blk_drew ?_ | refine blk_alloc ?_ _); refine blk_put (cs := #[.int .u64 t482, .int .u64 t483, .int .u64 t480, .int .u64 0]) ?_ 2 _ rfl; (with_reducible repeat first | refine blk_drewN ?_ _ | refine blk_drew ?_ | refine blk_alloc ?_ _); refine blk_put (cs := #[.int .u64 t482, .int .u64 0, .int .u64 t480, .int .u64 0]) ?_ 1 _ rfl; (with_reducible repeat first | refine blk_drewN ?_ _ | refine blk_drew ?_ | refine blk_alloc ?_ _); refine blk_put (cs := #[.int .u64 0, .int .u64 0, .int .u64 t480, .int .u64 0]) ?_ 0 _ rfl; (with_reducible repeat first | refine blk_drewN ?_ _ | refine blk_drew ?_ | refine blk_alloc ?_ _); exact B481.out⟩, ⟨by repeat (first | (with_reducible first | exact HB.out | apply below_alloc | apply pw_below_drewN | apply below_drew1 | refine below_set ?_ GE474.out | refine below_set ?_ GE475.out | refine below_set ?_ GE481.out) | exact HB.out)⟩⟩
    ·rw [if_neg c18] at H
     have c18b0 : ((y476.length : Int) == 0) = false := beq_eq_false_iff_ne.mpr c18
     have c18b1 : ((y476.length : Int) != 0) = true := bne_iff_ne.mpr c18
     have c18b2 : ¬ (y476 = []) := fun h_ => c18 (by rw [h_]; rfl)
     (first | rw [c18b0] | (simp only [i64_w, i32_w]; rw [c18b0]) | skip)
     have H' := Aside0.mk H
     clear H
     go_wp2
     go_meet
     case rel => exact ⟨_, (0), (0), (t480), (0), H', ⟨by first | omega | exact Nat.le_refl _⟩, ⟨by (with_reducible repeat first | refine blk_drewN ?_ _ | refine blk_drew ?_ | refine blk_alloc ?_ _); refine blk_far ?_ NB474_481.out _; (with_reducible repeat first | refine blk_drewN ?_ _ | refine blk_drew ?_ | refine blk_alloc ?_ _); refine blk_far ?_ NB474_481.out _; (with_reducible repeat first | refine blk_drewN ?_ _ | refine blk_drew ?_ | refine blk_alloc ?_ _); refine blk_far ?_ NB474_481.out _; (with_reducible repeat first | refine blk_drewN ?_ _ | refine blk_drew ?_ | refine blk_alloc ?_ _); refine blk_far ?_ NB474_481.out _; (with_reducible repeat first | refine blk_drewN ?_ _ | refine blk_drew ?_ | refine blk_alloc ?_ _); exact B474.out⟩, ⟨by (with_reducible repeat first | refine blk_drewN ?_ _ | refine blk_drew ?_ | refine blk_alloc ?_ _); refine blk_far ?_ NB475_481.out _; (with_reducible repeat first | refine blk_drewN ?_ _ | refine blk_drew ?_ | refine blk_alloc ?_ _); refine blk_far ?_ NB475_481.out _; (with_reducible repeat first | refine blk_drewN ?_ _ | refine blk_drew ?_ | refine blk_alloc ?_ _); refine blk_far ?_ NB475_481.out _; (with_reducible repeat first | refine blk_drewN ?_ _ | refine blk_drew ?_ | refine blk_alloc ?_ _); refine blk_far ?_ NB475_481.out _; (with_reducible repeat first | refine blk_drewN ?_ _ | refine blk_drew ?_ | refine blk_alloc ?_ _); exact B475.out⟩, ⟨by (with_reducible repeat first | refine blk_drewN ?_ _ | refine blk_drew ?_ | refine blk_alloc ?_ _); refine blk_put (cs := #[.int .u64 0, .int .u64 0, .int .u64 t480, .int .u64 0]) ?_ 3 _ rfl; (with_reducible repeat first | refine blk_drewN ?_ _ | refine blk_drew ?_ | refine blk_alloc ?_ _); refine blk_put (cs := #[.int .u64 0, .int .u64 0, .int .u64 0, .int .u64 0]) ?_ 2 _ rfl; (with_reducible repeat first | refine blk_drewN ?_ _ | refine blk_drew ?_ | refine blk_alloc ?_ _); refine blk_put (cs := #[.int .u64 0, .int .u64 0, .int .u64 0, .int .u64 0]) ?_ 1 _ rfl; (with_reducible repeat first | refine blk_drewN ?_ _ | refine blk_drew ?_ | refine blk_alloc ?_ _); refine blk_put (cs := #[.int .u64 0, .int .u64 0, .int .u64 0, .int .u64 0]) ?_ 0 _ rfl; (with_reducible repeat first | refine blk_drewN ?_ _ | refine blk_drew ?_ | refine blk_alloc ?_ _); exact B481.out⟩, ⟨by repeat (first | (with_reducible first | exact HB.out | apply below_alloc | apply pw_below_drewN | apply below_drew1 | refine below_set ?_ GE474.out | refine below_set ?_ GE475.out | refine below_set ?_ GE481.out) | exact HB.out)⟩⟩
   case rest =>
    clear HC9
    try clear c1
    try clear q1
    try clear c2
    try clear p2
    try clear c6
    try clear c6b0
    try clear c6b1
    try clear p6
    try clear c7
    try clear c7b0
    try clear c7b1
    try clear q12
    try clear c15
    try clear c16
    try clear c18
    try clear c18b0
    try clear c18b1
    try clear c18b2
    try clear c19
    try clear c20
    try clear c21
    try clear c23
    try clear hcz17_0
    try clear hcz17_1
    try clear hcz17_2
    try clear hcz17_3
    try clear hcz22_0
    try clear hcz22_1
    try clear hcz22_2
    try clear hcz22_3
    try clear hcz24_0
    try clear hcz24_1
    try clear hcz24_2
    try clear hcz24_3
    try clear hfz17_0
    try clear hfz17_1
    try clear hfz17_2
    try clear hfz17_3
    try clear hfz22_0
    try clear hfz22_1
    try clear hfz22_2
    try clear hfz22_3
    try clear hfz24_0
    try clear hfz24_1
    try clear hfz24_2
    try clear hfz24_3
    try clear q12
    obtain ⟨kq, x482000_8, x482001_8, x482002_8, x482003_8, HA, HJ8, B474, B475, B481, HB⟩ := hcut
    cases kq with
    | zero => exact absurd HA.out (by simp [attestorlaw06_SpongeSteps.j0])
    | succ kj8 =>
     have H := HA.out
     clear HA
     simp only [attestorlaw06_SpongeSteps.j0] at H
     have H' := Aside0.mk H
     clear H
     go_wp2
     go_loopg [11] kj8 (fun kq v11 w' => ∃ (x11_2 : Int) (x482000_2 : Int) (x482001_2 : Int) (x482002_2 : Int) (x482003_2 : Int), v11 = .int .i64 x11_2 ∧ Aside0 (attestorlaw06_SpongeSteps.l0 kq y476 (wrap64 (Int.tmod a0 4)) x11_2 a2_0 a2_1 a3_0 a3_1 x482000_2 x482001_2 x482002_2 x482003_2 = some r) ∧ Aside0 (kq ≤ kj8) ∧ Aside0 (w'.heap[g474]? = some (.cells #[.int .u64 a2_0, .int .u64 a2_1] 30 (0, 0))) ∧ Aside0 (w'.heap[g475]? = some (.cells #[.int .u64 a3_0, .int .u64 a3_1] 30 (0, 0))) ∧ Aside0 (w'.heap[g481]? = some (.cells #[.int .u64 x482000_2, .int .u64 x482001_2, .int .u64 x482002_2, .int .u64 x482003_2] 23 (0, 0))) ∧ Aside0 (Below w.heap.size w w'))
     case atStart => exact ⟨(0), (x482000_8), (x482001_8), (x482002_8), (x482003_8), (by first | rfl | (simp; done) | (simp [*]; done) | (simp; rfl) | (simp; decide +kernel)), H', ⟨Nat.le_refl _⟩, ⟨by (with_reducible repeat first | refine blk_drewN ?_ _ | refine blk_drew ?_ | refine blk_alloc ?_ _); exact B474.out⟩, ⟨by (with_reducible repeat first | refine blk_drewN ?_ _ | refine blk_drew ?_ | refine blk_alloc ?_ _); exact B475.out⟩, ⟨by (with_reducible repeat first | refine blk_drewN ?_ _ | refine blk_drew ?_ | refine blk_alloc ?_ _); exact B481.out⟩, ⟨by repeat (first | (with_reducible first | exact HB.out | apply below_alloc | apply pw_below_drewN | apply below_drew1 | refine below_set ?_ GE474.out | refine below_set ?_ GE475.out | refine below_set ?_ GE481.out) | exact HB.out)⟩⟩
     case round =>
      clear H'
      try clear c1
      try clear q1
      try clear c2
      try clear p2
      try clear c6
      try clear c6b0
      try clear c6b1
      try clear p6
      try clear c7
      try clear c7b0
      try clear c7b1
      try clear q12
      try clear c15
      try clear c16
      try clear c18
      try clear c18b0
      try clear c18b1
      try clear c18b2
      try clear c19
      try clear c20
      try clear c21
      try clear c23
      try clear hcz17_0
      try clear hcz17_1
      try clear hcz17_2
      try clear hcz17_3
      try clear hcz22_0
      try clear hcz22_1
      try clear hcz22_2
      try clear hcz22_3
      try clear hcz24_0
      try clear hcz24_1
      try clear hcz24_2
      try clear hcz24_3
      try clear hfz17_0
      try clear hfz17_1
      try clear hfz17_2
      try clear hfz17_3
      try clear hfz22_0
      try clear hfz22_1
      try clear hfz22_2
      try clear hfz22_3
      try clear hfz24_0
      try clear hfz24_1
      try clear hfz24_2
      try clear hfz24_3
      try clear p2
      try clear p6
      try clear q1
      try clear q12
      obtain ⟨x11_2, x482000_2, x482001_2, x482002_2, x482003_2, rfl, HA, HK2, B474, B475, B481, HB⟩ := hrel
      cases gk with
      | zero => exact absurd HA.out (by simp [attestorlaw06_SpongeSteps.l0])
      | succ k2 =>
       have H := HA.out
       clear HA
       simp only [attestorlaw06_SpongeSteps.l0] at H
       by_cases c25 : x11_2 < (y476.length : Int)
       ·rw [if_pos c25] at H
        have c25b0 : decide (x11_2 < (y476.length : Int)) = true := decide_eq_true c25
        clear c25
        obtain ⟨ji26, hji26⟩ : ∃ j_ : Int, (Int.tmod x11_2 2) = j_ := ⟨_, rfl⟩
        (first | rw [hji26] at H | simp only [hji26] at H)
        by_cases c27 : 0 ≤ (ji26)
        ·rw [if_pos c27] at H
         have c27b0 : decide (0 ≤ (ji26)) = true := decide_eq_true c27
         clear c27
         by_cases c28 : (ji26) = 0
         ·rw [if_pos c28] at H
          subst c28
          by_cases c29 : 0 ≤ x11_2
          ·rw [if_pos c29] at H
           have c29b0 : decide (0 ≤ x11_2) = true := decide_eq_true c29
           clear c29
           replace H := Option.bind_eq_some_iff.mp H
           obtain ⟨t487, A300, H⟩ := H
           replace H : (if (0) = 1 then ((sponge_Perm.f (wrap64 (Int.tmod a0 4)) t487 x482001_2 x482002_2 x482003_2).bind fun bt488 => (attestorlaw06_SpongeSteps.l0 k2 y476 (wrap64 (Int.tmod a0 4)) (wrap64 (x11_2 + 1)) a2_0 a2_1 a3_0 a3_1 bt488.1 bt488.2.1 bt488.2.2.1 bt488.2.2.2)) else (if (wrap64 (x11_2 + 1)) = (y476.length : Int) then ((sponge_Perm.f (wrap64 (Int.tmod a0 4)) t487 x482001_2 x482002_2 x482003_2).bind fun bt492 => (attestorlaw06_SpongeSteps.l0 k2 y476 (wrap64 (Int.tmod a0 4)) (wrap64 (x11_2 + 1)) a2_0 a2_1 a3_0 a3_1 bt492.1 bt492.2.1 bt492.2.2.1 bt492.2.2.2)) else (attestorlaw06_SpongeSteps.l0 k2 y476 (wrap64 (Int.tmod a0 4)) (wrap64 (x11_2 + 1)) a2_0 a2_1 a3_0 a3_1 t487 x482001_2 x482002_2 x482003_2))) = some r := H
           have A30 := Aside0.mk A300
           clear A300
           by_cases c31 : (0) = 1
           ·exact absurd c31 (by decide)
           ·rw [if_neg c31] at H
            have c31b0 : ((0) == 1) = false := beq_eq_false_iff_ne.mpr c31
            have c31b1 : ((0) != 1) = true := bne_iff_ne.mpr c31
            by_cases c32 : (wrap64 (x11_2 + 1)) = (y476.length : Int)
            ·rw [if_pos c32] at H
             have c32b0 : ((wrap64 (x11_2 + 1)) == (y476.length : Int)) = true := beq_iff_eq.mpr c32
             have c32b1 : ((wrap64 (x11_2 + 1)) != (y476.length : Int)) = false := bne_eq_false_iff_eq.mpr c32
             clear c32
             replace H := Option.bind_eq_some_iff.mp H
             obtain ⟨⟨t492, t493, t494, t495⟩, A330, H⟩ := H
             replace H : (attestorlaw06_SpongeSteps.l0 k2 y476 (wrap64 (Int.tmod a0 4)) (wrap64 (x11_2 + 1)) a2_0 a2_1 a3_0 a3_1 t492 t493 t494 t495) = some r := H
             have A33 := Aside0.mk A330
             clear A330
             have H' := Aside0.mk H
             clear H
             try go_wp2
             have n0_ := Aside0.mk (blk_drew B474.out)
             have n1_ := Aside0.mk (blk_drew B475.out)
             have n2_ := Aside0.mk (blk_drew B481.out)
             have n3_ := Aside0.mk (below_drew1 HB.out)
             clear B474
             clear B475
             clear B481
             clear HB
             have B474 := n0_
             have B475 := n1_
             have B481 := n2_
             have HB := n3_
             clear n0_ n1_ n2_ n3_
             have p486 : 0 ≤ (x11_2 : Int) := of_decide_eq_true (by first | (with_reducible assumption) | assumption)
             have q486 : x11_2 < (y476.length : Int) := of_decide_eq_true (by first | (with_reducible assumption) | assumption)
             obtain ⟨ad486, e486, hx486_0⟩ := Kd.at_int HR479.out x11_2 p486 q486
             have hw486_0 := hx486_0
             cases e486
             replace hx486_0 := (HB.out.cell (World.block_lt_of_cell? w _ hx486_0)).trans hx486_0
             replace p486 := eq_true p486
             replace q486 := eq_true q486
             refine start_ (n := 14) (S := fun w' => w'.cell? ⟨g481, 0, none⟩ = some (.int .u64 x482000_2) ∧ w'.cell? ⟨g481, 1, none⟩ = some (.int .u64 x482001_2) ∧ w'.cell? ⟨g481, 2, none⟩ = some (.int .u64 x482002_2) ∧ w'.cell? ⟨g481, 3, none⟩ = some (.int .u64 x482003_2) ∧ w'.cell? (ad486.add (x11_2).toNat) = some (.int .u64 (rd y476 x11_2))) (ds := [13]) z7_0_ (by kernel_rfl) rfl rfl ⟨bq_ B481 0, bq_ B481 1, bq_ B481 2, bq_ B481 3, ((HB.out.cell (World.block_lt_of_cell? w _ hw486_0)).trans hw486_0)⟩ (fun hL => ?_); refine with_tabW attestorlaw06_SpongeSteps.tab9 attestorlaw06_SpongeSteps.bits9 (fun T_ W_ => ?_)
             generalize wr.drew = w34 at B474 B475 B481 HB hx486_0 hL ⊢
             refine pure_ (i := 0) (N := some 39) (v := ?_) (a' := ?_) z7_1_ rfl rfl (any_of T_.out (by kernel_rfl)) (fun _ _ _ h => h) (Or.inl ⟨by rfl, ?_⟩) ?_ ?_
             rotate_left; · intro w'; go_simp; with_reducible rfl
             rotate_left; · simp only [Act.put, sa_, sb_, sc_, i64_w, i32_w]; rfl
             refine pure_ (i := 1) (N := some 40) (v := ?_) (a' := ?_) z7_2_ rfl rfl (any_of T_.out (by kernel_rfl)) (fun _ _ _ h => h) (Or.inl ⟨by rfl, ?_⟩) ?_ ?_
             rotate_left; · intro w'; go_simp; with_reducible rfl
             rotate_left; · simp only [Act.put, sa_, sb_, sc_, i64_w, i32_w]; rfl
             refine pure_ (i := 2) (N := some 41) (v := ?_) (a' := ?_) z7_3_ rfl rfl (any_of T_.out (by kernel_rfl)) (fun _ _ _ h => h) (Or.inl ⟨by rfl, ?_⟩) ?_ ?_
             rotate_left; · intro w'; go_simp; with_reducible rfl
             rotate_left; · simp only [Act.put, sa_, sb_, sc_, i64_w, i32_w]; rfl
             refine pure_ (i := 3) (N := some 42) (v := ?_) (a' := ?_) z7_4_ rfl rfl (any_of T_.out (by kernel_rfl)) (fun _ _ _ h => h) (Or.inl ⟨by rfl, ?_⟩) ?_ ?_
             rotate_left; · intro w'; go_simp; with_reducible rfl
             rotate_left; · simp only [Act.put, sa_, sb_, sc_, i64_w, i32_w]; rfl
             refine pure_ (i := 4) (N := some 43) (v := ?_) (a' := ?_) z7_5_ rfl rfl (any_of T_.out (by kernel_rfl)) (fun _ _ _ h => h) (Or.inl ⟨by rfl, ?_⟩) ?_ ?_
             rotate_left; · intro w'; go_simp; with_reducible rfl
             rotate_left; · simp only [Act.put, sa_, sb_, sc_, i64_w, i32_w]; rfl
             refine pure_ (i := 5) (N := some 44) (v := ?_) (a' := ?_) z7_6_ rfl rfl (any_of T_.out (by kernel_rfl)) (fun _ _ _ h => h) (Or.inl ⟨by rfl, ?_⟩) ?_ ?_
             rotate_left; · intro w'; go_simp; with_reducible rfl
             rotate_left; · simp only [Act.put, sa_, sb_, sc_, i64_w, i32_w]; rfl
             refine pure_ (i := 7) (N := some 46) (v := ?_) (a' := ?_) z7_7_ rfl rfl (any_of T_.out (by kernel_rfl)) (fun _ _ _ h => h) (Or.inl ⟨by rfl, ?_⟩) ?_ ?_
             rotate_left; · intro w'; go_simp; with_reducible rfl
             rotate_left; · simp only [Act.put, sa_, sb_, sc_, i64_w, i32_w]; rfl
             refine pure_ (i := 8) (N := some 47) (v := ?_) (a' := ?_) z7_8_ rfl rfl (any_of T_.out (by kernel_rfl)) (fun _ _ _ h => h) (Or.inl ⟨by rfl, ?_⟩) ?_ ?_
             rotate_left; · intro w'; go_simp; with_reducible rfl
             rotate_left; · simp only [Act.put, sa_, sb_, sc_, i64_w, i32_w]; rfl
             refine pure_ (i := 9) (N := some 48) (v := ?_) (a' := ?_) z7_9_ rfl rfl (any_of T_.out (by kernel_rfl)) (fun _ _ _ h => h) (Or.inl ⟨by rfl, ?_⟩) ?_ ?_
             rotate_left; · intro w'; go_simp; with_reducible rfl
             rotate_left; · simp only [Act.put, sa_, sb_, sc_, i64_w, i32_w]; rfl
             refine take_ (i := 6) (N := some 45) (v := ?_) (a' := ?_) z7_10_ rfl rfl (take_ofW T_.out W_.out (by kernel_rfl)) (fun _ _ _ h => h) (Or.inl ⟨by rfl, ?_⟩) hL ?_ ?_
             rotate_left
             ·rintro w' ⟨s0, s1, s2, s3, s4⟩
              go_simp
              with_reducible rfl
             rotate_left
             ·simp only [Act.put, sa_, sb_, sc_, i64_w, i32_w]
              rfl
             refine take_ (i := 10) (N := some 49) (v := ?_) (a' := ?_) z7_11_ rfl rfl (take_ofW T_.out W_.out (by kernel_rfl)) (fun _ _ _ h => h) (Or.inl ⟨by rfl, ?_⟩) hL ?_ ?_
             rotate_left
             ·rintro w' ⟨s0, s1, s2, s3, s4⟩
              go_simp
              with_reducible rfl
             rotate_left
             ·simp only [Act.put, sa_, sb_, sc_, i64_w, i32_w]
              rfl
             refine one_ (i := 11) (N := some 50) z7_12_ rfl rfl (one_of T_.out (by kernel_rfl)) (by decide) (fun K hK => ?_)
             refine goes_ Tryd.func23 (by kernel_rfl) rfl #[.int .i64 (wrap64 (Int.tmod a0 4)), .int .u64 x482000_2, .int .u64 (rd y476 x11_2)] (by rfl) rfl rfl (by (try simp only [List.map_toArray, List.map_cons, List.map_nil]); first | done | rfl) ?_
             with_reducible refine (field_Add.calls (wrap64 (Int.tmod a0 4)) x482000_2 (rd y476 x11_2) t487 _ ?side1 A30.out).mono ?_
             (case side1 => repeat (first | exact (GL.below HRG.out HB.out) | (with_reducible refine GL.alloc ?_ _) | (with_reducible refine GL.drewN ?_ _) | (with_reducible refine GL.drew ?_)))
             rintro e w35 ⟨rfl, hb⟩
             refine ⟨_, rfl, ?_⟩
             have n0_ := Aside0.mk (blk_below (g := g474) (o := .cells #[.int .u64 a2_0, .int .u64 a2_1] 30 (0, 0)) (by (with_reducible repeat first | refine blk_drewN ?_ _ | refine blk_drew ?_ | refine blk_alloc ?_ _); exact B474.out) hb)
             have n1_ := Aside0.mk (blk_below (g := g475) (o := .cells #[.int .u64 a3_0, .int .u64 a3_1] 30 (0, 0)) (by (with_reducible repeat first | refine blk_drewN ?_ _ | refine blk_drew ?_ | refine blk_alloc ?_ _); exact B475.out) hb)
             have n2_ := Aside0.mk (blk_below (g := g481) (o := .cells #[.int .u64 x482000_2, .int .u64 x482001_2, .int .u64 x482002_2, .int .u64 x482003_2] 23 (0, 0)) (by (with_reducible repeat first | refine blk_drewN ?_ _ | refine blk_drew ?_ | refine blk_alloc ?_ _); exact B481.out) hb)
             have n3_ := Aside0.mk (below_step (by repeat (first | (with_reducible first | exact HB.out | apply below_alloc | apply pw_below_drewN | apply below_drew1 | refine below_set ?_ GE474.out | refine below_set ?_ GE475.out | refine below_set ?_ GE481.out) | exact HB.out)) hb)
             clear B474
             clear B475
             clear B481
             clear HB
             have B474 := n0_
             have B475 := n1_
             have B481 := n2_
             have HB := n3_
             clear n0_ n1_ n2_ n3_
             (try clear hb)
             (try clear hb2)
             (try clear hk)
             (try clear hi)
             refine hK.out _ _ ⟨bq_ B481 0, bq_ B481 1, bq_ B481 2, bq_ B481 3, ((HB.out.cell (World.block_lt_of_cell? w _ hw486_0)).trans hw486_0)⟩ (fun hL => ?_)
             clear hK K
             refine norm_ (a' := ?_) ?_ ?_
             rotate_left
             ·show Act.put _ (some 50) _ = _
              simp only [Act.put, sa_, sb_, sc_, i64_w, i32_w]
              rfl
             refine pure_ (i := 12) (N := some 51) (v := ?_) (a' := ?_) z7_13_ rfl rfl (any_of T_.out (by kernel_rfl)) (fun _ _ _ h => h) (Or.inl ⟨by rfl, ?_⟩) ?_ ?_
             rotate_left; · intro w'; go_simp; with_reducible rfl
             rotate_left; · simp only [Act.put, sa_, sb_, sc_, i64_w, i32_w]; rfl
             refine last_ (i := 13) (N := none) z7_14_ rfl rfl (one_of T_.out (by kernel_rfl)) (by decide) (fun K hK => ?_)
             have hs36 : w35.cell? ⟨g481, 0, none⟩ = some (.int .u64 x482000_2) := bq_ B481 0
             have hfs36 := blk_frozen B481.out 0
             have hns36_0 := NB474_481.out
             have hns36_1 := NB475_481.out
             have hms36_0 := NB481_474.out
             have hms36_1 := NB481_475.out
             refine skip_ (w1 := ?_) (by rfl) rfl ?_ ?_
             rotate_left
             ·go_simp
              rfl
             refine hK.out _ _ ?_
             clear hK K
             refine done_ (done_of T_.out (by kernel_rfl)) ?_
             have hnb37 := NB481_474.out
             have hnc37 := NB474_481.out
             have hnb38 := NB481_475.out
             have hnc38 := NB475_481.out
             have hcz39_0 : w35.cell? ⟨g481, 0, none⟩ = some (.int .u64 x482000_2) := bq_ B481 0
             have hcz39_1 : w35.cell? ⟨g481, 1, none⟩ = some (.int .u64 x482001_2) := bq_ B481 1
             have hcz39_2 : w35.cell? ⟨g481, 2, none⟩ = some (.int .u64 x482002_2) := bq_ B481 2
             have hcz39_3 : w35.cell? ⟨g481, 3, none⟩ = some (.int .u64 x482003_2) := bq_ B481 3
             have hfz39_0 := blk_frozen B481.out 0
             have hfz39_1 := blk_frozen B481.out 1
             have hfz39_2 := blk_frozen B481.out 2
             have hfz39_3 := blk_frozen B481.out 3
             try go_wp2_with (first | ((with_reducible refine gate_callee (f := 19) rfl ?_); refine goesL_ (some 64) rfl rfl Tryd.func19 (by kernel_rfl) rfl #[.int .i64 (wrap64 (Int.tmod a0 4)), .agg #[.int .u64 t487, .int .u64 x482001_2, .int .u64 x482002_2, .int .u64 x482003_2]] rfl (by (try simp only [List.map_toArray, List.map_cons, List.map_nil]); first | done | rfl) ?_; (with_reducible refine (sponge_Perm.calls (wrap64 (Int.tmod a0 4)) t487 x482001_2 x482002_2 x482003_2 t492 t493 t494 t495 _ ?side1 A33.out).mono ?_); (case side1 => exact GL.below HRG.out (by repeat (first | (with_reducible first | exact HB.out | apply below_alloc | apply pw_below_drewN | apply below_drew1 | refine below_set ?_ GE474.out | refine below_set ?_ GE475.out | refine below_set ?_ GE481.out) | exact HB.out))); rintro e w40 ⟨rfl, hb⟩; refine ⟨_, rfl, ?_⟩; have n0_ := Aside0.mk (blk_below (g := g474) (o := .cells #[.int .u64 a2_0, .int .u64 a2_1] 30 (0, 0)) (by (with_reducible repeat first | refine blk_drewN ?_ _ | refine blk_drew ?_ | refine blk_alloc ?_ _); refine blk_far ?_ NB474_481.out _; (with_reducible repeat first | refine blk_drewN ?_ _ | refine blk_drew ?_ | refine blk_alloc ?_ _); exact B474.out) hb); have n1_ := Aside0.mk (blk_below (g := g475) (o := .cells #[.int .u64 a3_0, .int .u64 a3_1] 30 (0, 0)) (by (with_reducible repeat first | refine blk_drewN ?_ _ | refine blk_drew ?_ | refine blk_alloc ?_ _); refine blk_far ?_ NB475_481.out _; (with_reducible repeat first | refine blk_drewN ?_ _ | refine blk_drew ?_ | refine blk_alloc ?_ _); exact B475.out) hb); have n2_ := Aside0.mk (blk_below (g := g481) (o := .cells #[.int .u64 t487, .int .u64 x482001_2, .int .u64 x482002_2, .int .u64 x482003_2] 23 (0, 0)) (by (with_reducible repeat first | refine blk_drewN ?_ _ | refine blk_drew ?_ | refine blk_alloc ?_ _); refine blk_put (cs := #[.int .u64 x482000_2, .int .u64 x482001_2, .int .u64 x482002_2, .int .u64 x482003_2]) ?_ 0 _ rfl; (with_reducible repeat first | refine blk_drewN ?_ _ | refine blk_drew ?_ | refine blk_alloc ?_ _); exact B481.out) hb); have n3_ := Aside0.mk (below_step (by repeat (first | (with_reducible first | exact HB.out | apply below_alloc | apply pw_below_drewN | apply below_drew1 | refine below_set ?_ GE474.out | refine below_set ?_ GE475.out | refine below_set ?_ GE481.out) | exact HB.out)) hb); clear B474; clear B475; clear B481; clear HB; have B474 := n0_; have B475 := n1_; have B481 := n2_; have HB := n3_; clear n0_ n1_ n2_ n3_; (try clear hb); (try clear hb2); (try clear hk); (try clear hi); have hcz41_0 : w40.cell? ⟨g481, 0, none⟩ = some (.int .u64 t487) := bq_ B481 0; have hcz41_1 : w40.cell? ⟨g481, 1, none⟩ = some (.int .u64 x482001_2) := bq_ B481 1; have hcz41_2 : w40.cell? ⟨g481, 2, none⟩ = some (.int .u64 x482002_2) := bq_ B481 2; have hcz41_3 : w40.cell? ⟨g481, 3, none⟩ = some (.int .u64 x482003_2) := bq_ B481 3; have hfz41_0 := blk_frozen B481.out 0; have hfz41_1 := blk_frozen B481.out 1; have hfz41_2 := blk_frozen B481.out 2; have hfz41_3 := blk_frozen B481.out 3))
             go_roundg k2
             case measure => have := HJ8.out; have := HK2.out; omega
             case rel => exact ⟨(wrap64 (x11_2 + 1)), (t492), (t493), (t494), (t495), (by first | rfl | (simp; done) | (simp [*]; done) | (simp; rfl) | (simp; decide +kernel)), H', ⟨by have := HJ8.out; have := HK2.out; omega⟩, ⟨by (with_reducible repeat first | refine blk_drewN ?_ _ | refine blk_drew ?_ | refine blk_alloc ?_ _); refine blk_far ?_ NB474_481.out _; (with_reducible repeat first | refine blk_drewN ?_ _ | refine blk_drew ?_ | refine blk_alloc ?_ _); refine blk_far ?_ NB474_481.out _; (with_reducible repeat first | refine blk_drewN ?_ _ | refine blk_drew ?_ | refine blk_alloc ?_ _); refine blk_far ?_ NB474_481.out _; (with_reducible repeat first | refine blk_drewN ?_ _ | refine blk_drew ?_ | refine blk_alloc ?_ _); refine blk_far ?_ NB474_481.out _; (with_reducible repeat first | refine blk_drewN ?_ _ | refine blk_drew ?_ | refine blk_alloc ?_ _); exact B474.out⟩, ⟨by (with_reducible repeat first | refine blk_drewN ?_ _ | refine blk_drew ?_ | refine blk_alloc ?_ _); refine blk_far ?_ NB475_481.out _; (with_reducible repeat first | refine blk_drewN ?_ _ | refine blk_drew ?_ | refine blk_alloc ?_ _); refine blk_far ?_ NB475_481.out _; (with_reducible repeat first | refine blk_drewN ?_ _ | refine blk_drew ?_ | refine blk_alloc ?_ _); refine blk_far ?_ NB475_481.out _; (with_reducible repeat first | refine blk_drewN ?_ _ | refine blk_drew ?_ | refine blk_alloc ?_ _); refine blk_far ?_ NB475_481.out _; (with_reducible repeat first | refine blk_drewN ?_ _ | refine blk_drew ?_ | refine blk_alloc ?_ _); exact B475.out⟩, ⟨by (with_reducible repeat first | refine blk_drewN ?_ _ | refine blk_drew ?_ | refine blk_alloc ?_ _); refine blk_put (cs := #[.int .u64 t492, .int .u64 t493, .int .u64 t494, .int .u64 x482003_2]) ?_ 3 _ rfl; (with_reducible repeat first | refine blk_drewN ?_ _ | refine blk_drew ?_ | refine blk_alloc ?_ _); refine blk_put (cs := #[.int .u64 t492, .int .u64 t493, .int .u64 x482002_2, .int .u64 x482003_2]) ?_ 2 _ rfl; (with_reducible repeat first | refine blk_drewN ?_ _ | refine blk_drew ?_ | refine blk_alloc ?_ _); refine blk_put (cs := #[.int .u64 t492, .int .u64 x482001_2, .int .u64 x482002_2, .int .u64 x482003_2]) ?_ 1 _ rfl; (with_reducible repeat first | refine blk_drewN ?_ _ | refine blk_drew ?_ | refine blk_alloc ?_ _); refine blk_put (cs := #[.int .u64 t487, .int .u64 x482001_2, .int .u64 x482002_2, .int .u64 x482003_2]) ?_ 0 _ rfl; (with_reducible repeat first | refine blk_drewN ?_ _ | refine blk_drew ?_ | refine blk_alloc ?_ _); exact B481.out⟩, ⟨by repeat (first | (with_reducible first | exact HB.out | apply below_alloc | apply pw_below_drewN | apply below_drew1 | refine below_set ?_ GE474.out | refine below_set ?_ GE475.out | refine below_set ?_ GE481.out) | exact HB.out)⟩⟩
            ·rw [if_neg c32] at H
             have c32b0 : ((wrap64 (x11_2 + 1)) == (y476.length : Int)) = false := beq_eq_false_iff_ne.mpr c32
             have c32b1 : ((wrap64 (x11_2 + 1)) != (y476.length : Int)) = true := bne_iff_ne.mpr c32
             have H' := Aside0.mk H
             clear H
             try go_wp2
             have n0_ := Aside0.mk (blk_drew B474.out)
             have n1_ := Aside0.mk (blk_drew B475.out)
             have n2_ := Aside0.mk (blk_drew B481.out)
             have n3_ := Aside0.mk (below_drew1 HB.out)
             clear B474
             clear B475
             clear B481
             clear HB
             have B474 := n0_
             have B475 := n1_
             have B481 := n2_
             have HB := n3_
             clear n0_ n1_ n2_ n3_
             have p486 : 0 ≤ (x11_2 : Int) := of_decide_eq_true (by first | (with_reducible assumption) | assumption)
             have q486 : x11_2 < (y476.length : Int) := of_decide_eq_true (by first | (with_reducible assumption) | assumption)
             obtain ⟨ad486, e486, hx486_0⟩ := Kd.at_int HR479.out x11_2 p486 q486
             have hw486_0 := hx486_0
             cases e486
             replace hx486_0 := (HB.out.cell (World.block_lt_of_cell? w _ hx486_0)).trans hx486_0
             replace p486 := eq_true p486
             replace q486 := eq_true q486
             refine start_ (n := 14) (S := fun w' => w'.cell? ⟨g481, 0, none⟩ = some (.int .u64 x482000_2) ∧ w'.cell? ⟨g481, 1, none⟩ = some (.int .u64 x482001_2) ∧ w'.cell? ⟨g481, 2, none⟩ = some (.int .u64 x482002_2) ∧ w'.cell? ⟨g481, 3, none⟩ = some (.int .u64 x482003_2) ∧ w'.cell? (ad486.add (x11_2).toNat) = some (.int .u64 (rd y476 x11_2))) (ds := [13]) z7_0_ (by kernel_rfl) rfl rfl ⟨bq_ B481 0, bq_ B481 1, bq_ B481 2, bq_ B481 3, ((HB.out.cell (World.block_lt_of_cell? w _ hw486_0)).trans hw486_0)⟩ (fun hL => ?_); refine with_tabW attestorlaw06_SpongeSteps.tab9 attestorlaw06_SpongeSteps.bits9 (fun T_ W_ => ?_)
             generalize wr.drew = w42 at B474 B475 B481 HB hx486_0 hL ⊢
             refine pure_ (i := 0) (N := some 39) (v := ?_) (a' := ?_) z7_1_ rfl rfl (any_of T_.out (by kernel_rfl)) (fun _ _ _ h => h) (Or.inl ⟨by rfl, ?_⟩) ?_ ?_
             rotate_left; · intro w'; go_simp; with_reducible rfl
             rotate_left; · simp only [Act.put, sa_, sb_, sc_, i64_w, i32_w]; rfl
             refine pure_ (i := 1) (N := some 40) (v := ?_) (a' := ?_) z7_2_ rfl rfl (any_of T_.out (by kernel_rfl)) (fun _ _ _ h => h) (Or.inl ⟨by rfl, ?_⟩) ?_ ?_
             rotate_left; · intro w'; go_simp; with_reducible rfl
             rotate_left; · simp only [Act.put, sa_, sb_, sc_, i64_w, i32_w]; rfl
             refine pure_ (i := 2) (N := some 41) (v := ?_) (a' := ?_) z7_3_ rfl rfl (any_of T_.out (by kernel_rfl)) (fun _ _ _ h => h) (Or.inl ⟨by rfl, ?_⟩) ?_ ?_
             rotate_left; · intro w'; go_simp; with_reducible rfl
             rotate_left; · simp only [Act.put, sa_, sb_, sc_, i64_w, i32_w]; rfl
             refine pure_ (i := 3) (N := some 42) (v := ?_) (a' := ?_) z7_4_ rfl rfl (any_of T_.out (by kernel_rfl)) (fun _ _ _ h => h) (Or.inl ⟨by rfl, ?_⟩) ?_ ?_
             rotate_left; · intro w'; go_simp; with_reducible rfl
             rotate_left; · simp only [Act.put, sa_, sb_, sc_, i64_w, i32_w]; rfl
             refine pure_ (i := 4) (N := some 43) (v := ?_) (a' := ?_) z7_5_ rfl rfl (any_of T_.out (by kernel_rfl)) (fun _ _ _ h => h) (Or.inl ⟨by rfl, ?_⟩) ?_ ?_
             rotate_left; · intro w'; go_simp; with_reducible rfl
             rotate_left; · simp only [Act.put, sa_, sb_, sc_, i64_w, i32_w]; rfl
             refine pure_ (i := 5) (N := some 44) (v := ?_) (a' := ?_) z7_6_ rfl rfl (any_of T_.out (by kernel_rfl)) (fun _ _ _ h => h) (Or.inl ⟨by rfl, ?_⟩) ?_ ?_
             rotate_left; · intro w'; go_simp; with_reducible rfl
             rotate_left; · simp only [Act.put, sa_, sb_, sc_, i64_w, i32_w]; rfl
             refine pure_ (i := 7) (N := some 46) (v := ?_) (a' := ?_) z7_7_ rfl rfl (any_of T_.out (by kernel_rfl)) (fun _ _ _ h => h) (Or.inl ⟨by rfl, ?_⟩) ?_ ?_
             rotate_left; · intro w'; go_simp; with_reducible rfl
             rotate_left; · simp only [Act.put, sa_, sb_, sc_, i64_w, i32_w]; rfl
             refine pure_ (i := 8) (N := some 47) (v := ?_) (a' := ?_) z7_8_ rfl rfl (any_of T_.out (by kernel_rfl)) (fun _ _ _ h => h) (Or.inl ⟨by rfl, ?_⟩) ?_ ?_
             rotate_left; · intro w'; go_simp; with_reducible rfl
             rotate_left; · simp only [Act.put, sa_, sb_, sc_, i64_w, i32_w]; rfl
             refine pure_ (i := 9) (N := some 48) (v := ?_) (a' := ?_) z7_9_ rfl rfl (any_of T_.out (by kernel_rfl)) (fun _ _ _ h => h) (Or.inl ⟨by rfl, ?_⟩) ?_ ?_
             rotate_left; · intro w'; go_simp; with_reducible rfl
             rotate_left; · simp only [Act.put, sa_, sb_, sc_, i64_w, i32_w]; rfl
             refine take_ (i := 6) (N := some 45) (v := ?_) (a' := ?_) z7_10_ rfl rfl (take_ofW T_.out W_.out (by kernel_rfl)) (fun _ _ _ h => h) (Or.inl ⟨by rfl, ?_⟩) hL ?_ ?_
             rotate_left
             ·rintro w' ⟨s0, s1, s2, s3, s4⟩
              go_simp
              with_reducible rfl
             rotate_left
             ·simp only [Act.put, sa_, sb_, sc_, i64_w, i32_w]
              rfl
             refine take_ (i := 10) (N := some 49) (v := ?_) (a' := ?_) z7_11_ rfl rfl (take_ofW T_.out W_.out (by kernel_rfl)) (fun _ _ _ h => h) (Or.inl ⟨by rfl, ?_⟩) hL ?_ ?_
             rotate_left
             ·rintro w' ⟨s0, s1, s2, s3, s4⟩
              go_simp
              with_reducible rfl
             rotate_left
             ·simp only [Act.put, sa_, sb_, sc_, i64_w, i32_w]
              rfl
             refine one_ (i := 11) (N := some 50) z7_12_ rfl rfl (one_of T_.out (by kernel_rfl)) (by decide) (fun K hK => ?_)
             refine goes_ Tryd.func23 (by kernel_rfl) rfl #[.int .i64 (wrap64 (Int.tmod a0 4)), .int .u64 x482000_2, .int .u64 (rd y476 x11_2)] (by rfl) rfl rfl (by (try simp only [List.map_toArray, List.map_cons, List.map_nil]); first | done | rfl) ?_
             with_reducible refine (field_Add.calls (wrap64 (Int.tmod a0 4)) x482000_2 (rd y476 x11_2) t487 _ ?side1 A30.out).mono ?_
             (case side1 => repeat (first | exact (GL.below HRG.out HB.out) | (with_reducible refine GL.alloc ?_ _) | (with_reducible refine GL.drewN ?_ _) | (with_reducible refine GL.drew ?_)))
             rintro e w43 ⟨rfl, hb⟩
             refine ⟨_, rfl, ?_⟩
             have n0_ := Aside0.mk (blk_below (g := g474) (o := .cells #[.int .u64 a2_0, .int .u64 a2_1] 30 (0, 0)) (by (with_reducible repeat first | refine blk_drewN ?_ _ | refine blk_drew ?_ | refine blk_alloc ?_ _); exact B474.out) hb)
             have n1_ := Aside0.mk (blk_below (g := g475) (o := .cells #[.int .u64 a3_0, .int .u64 a3_1] 30 (0, 0)) (by (with_reducible repeat first | refine blk_drewN ?_ _ | refine blk_drew ?_ | refine blk_alloc ?_ _); exact B475.out) hb)
             have n2_ := Aside0.mk (blk_below (g := g481) (o := .cells #[.int .u64 x482000_2, .int .u64 x482001_2, .int .u64 x482002_2, .int .u64 x482003_2] 23 (0, 0)) (by (with_reducible repeat first | refine blk_drewN ?_ _ | refine blk_drew ?_ | refine blk_alloc ?_ _); exact B481.out) hb)
             have n3_ := Aside0.mk (below_step (by repeat (first | (with_reducible first | exact HB.out | apply below_alloc | apply pw_below_drewN | apply below_drew1 | refine below_set ?_ GE474.out | refine below_set ?_ GE475.out | refine below_set ?_ GE481.out) | exact HB.out)) hb)
             clear B474
             clear B475
             clear B481
             clear HB
             have B474 := n0_
             have B475 := n1_
             have B481 := n2_
             have HB := n3_
             clear n0_ n1_ n2_ n3_
             (try clear hb)
             (try clear hb2)
             (try clear hk)
             (try clear hi)
             refine hK.out _ _ ⟨bq_ B481 0, bq_ B481 1, bq_ B481 2, bq_ B481 3, ((HB.out.cell (World.block_lt_of_cell? w _ hw486_0)).trans hw486_0)⟩ (fun hL => ?_)
             clear hK K
             refine norm_ (a' := ?_) ?_ ?_
             rotate_left
             ·show Act.put _ (some 50) _ = _
              simp only [Act.put, sa_, sb_, sc_, i64_w, i32_w]
              rfl
             refine pure_ (i := 12) (N := some 51) (v := ?_) (a' := ?_) z7_13_ rfl rfl (any_of T_.out (by kernel_rfl)) (fun _ _ _ h => h) (Or.inl ⟨by rfl, ?_⟩) ?_ ?_
             rotate_left; · intro w'; go_simp; with_reducible rfl
             rotate_left; · simp only [Act.put, sa_, sb_, sc_, i64_w, i32_w]; rfl
             refine last_ (i := 13) (N := none) z7_14_ rfl rfl (one_of T_.out (by kernel_rfl)) (by decide) (fun K hK => ?_)
             have hs44 : w43.cell? ⟨g481, 0, none⟩ = some (.int .u64 x482000_2) := bq_ B481 0
             have hfs44 := blk_frozen B481.out 0
             have hns44_0 := NB474_481.out
             have hns44_1 := NB475_481.out
             have hms44_0 := NB481_474.out
             have hms44_1 := NB481_475.out
             refine skip_ (w1 := ?_) (by rfl) rfl ?_ ?_
             rotate_left
             ·go_simp
              rfl
             refine hK.out _ _ ?_
             clear hK K
             refine done_ (done_of T_.out (by kernel_rfl)) ?_
             try go_wp2
             go_roundg k2
             case measure => have := HJ8.out; have := HK2.out; omega
             case rel => exact ⟨(wrap64 (x11_2 + 1)), (t487), (x482001_2), (x482002_2), (x482003_2), (by first | rfl | (simp; done) | (simp [*]; done) | (simp; rfl) | (simp; decide +kernel)), H', ⟨by have := HJ8.out; have := HK2.out; omega⟩, ⟨by (with_reducible repeat first | refine blk_drewN ?_ _ | refine blk_drew ?_ | refine blk_alloc ?_ _); refine blk_far ?_ NB474_481.out _; (with_reducible repeat first | refine blk_drewN ?_ _ | refine blk_drew ?_ | refine blk_alloc ?_ _); exact B474.out⟩, ⟨by (with_reducible repeat first | refine blk_drewN ?_ _ | refine blk_drew ?_ | refine blk_alloc ?_ _); refine blk_far ?_ NB475_481.out _; (with_reducible repeat first | refine blk_drewN ?_ _ | refine blk_drew ?_ | refine blk_alloc ?_ _); exact B475.out⟩, ⟨by (with_reducible repeat first | refine blk_drewN ?_ _ | refine blk_drew ?_ | refine blk_alloc ?_ _); refine blk_put (cs := #[.int .u64 x482000_2, .int .u64 x482001_2, .int .u64 x482002_2, .int .u64 x482003_2]) ?_ 0 _ rfl; (with_reducible repeat first | refine blk_drewN ?_ _ | refine blk_drew ?_ | refine blk_alloc ?_ _); exact B481.out⟩, ⟨by repeat (first | (with_reducible first | exact HB.out | apply below_alloc | apply pw_below_drewN | apply below_drew1 | refine below_set ?_ GE474.out | refine below_set ?_ GE475.out | refine below_set ?_ GE481.out) | exact HB.out)⟩⟩
          ·rw [if_neg c29] at H
           exact absurd H (by simp)
         ·rw [if_neg c28] at H
          by_cases c45 : (ji26) = 1
          ·rw [if_pos c45] at H
           subst c45
           by_cases c46 : 0 ≤ x11_2
           ·rw [if_pos c46] at H
            have c46b0 : decide (0 ≤ x11_2) = true := decide_eq_true c46
            clear c46
            replace H := Option.bind_eq_some_iff.mp H
            obtain ⟨t497, A470, H⟩ := H
            replace H : ((sponge_Perm.f (wrap64 (Int.tmod a0 4)) x482000_2 t497 x482002_2 x482003_2).bind fun bt498 => (attestorlaw06_SpongeSteps.l0 k2 y476 (wrap64 (Int.tmod a0 4)) (wrap64 (x11_2 + 1)) a2_0 a2_1 a3_0 a3_1 bt498.1 bt498.2.1 bt498.2.2.1 bt498.2.2.2)) = some r := H
            have A47 := Aside0.mk A470
            clear A470
            replace H := Option.bind_eq_some_iff.mp H
            obtain ⟨⟨t498, t499, t500, t501⟩, A480, H⟩ := H
            replace H : (attestorlaw06_SpongeSteps.l0 k2 y476 (wrap64 (Int.tmod a0 4)) (wrap64 (x11_2 + 1)) a2_0 a2_1 a3_0 a3_1 t498 t499 t500 t501) = some r := H
            have A48 := Aside0.mk A480
            clear A480
            have H' := Aside0.mk H
            clear H
            try go_wp2
            have n0_ := Aside0.mk (blk_drew B474.out)
            have n1_ := Aside0.mk (blk_drew B475.out)
            have n2_ := Aside0.mk (blk_drew B481.out)
            have n3_ := Aside0.mk (below_drew1 HB.out)
            clear B474
            clear B475
            clear B481
            clear HB
            have B474 := n0_
            have B475 := n1_
            have B481 := n2_
            have HB := n3_
            clear n0_ n1_ n2_ n3_
            have p496 : 0 ≤ (x11_2 : Int) := of_decide_eq_true (by first | (with_reducible assumption) | assumption)
            have q496 : x11_2 < (y476.length : Int) := of_decide_eq_true (by first | (with_reducible assumption) | assumption)
            obtain ⟨ad496, e496, hx496_0⟩ := Kd.at_int HR479.out x11_2 p496 q496
            have hw496_0 := hx496_0
            cases e496
            replace hx496_0 := (HB.out.cell (World.block_lt_of_cell? w _ hx496_0)).trans hx496_0
            replace p496 := eq_true p496
            replace q496 := eq_true q496
            refine start_ (n := 14) (S := fun w' => w'.cell? ⟨g481, 0, none⟩ = some (.int .u64 x482000_2) ∧ w'.cell? ⟨g481, 1, none⟩ = some (.int .u64 x482001_2) ∧ w'.cell? ⟨g481, 2, none⟩ = some (.int .u64 x482002_2) ∧ w'.cell? ⟨g481, 3, none⟩ = some (.int .u64 x482003_2) ∧ w'.cell? (ad496.add (x11_2).toNat) = some (.int .u64 (rd y476 x11_2))) (ds := [13]) z7_0_ (by kernel_rfl) rfl rfl ⟨bq_ B481 0, bq_ B481 1, bq_ B481 2, bq_ B481 3, ((HB.out.cell (World.block_lt_of_cell? w _ hw496_0)).trans hw496_0)⟩ (fun hL => ?_); refine with_tabW attestorlaw06_SpongeSteps.tab9 attestorlaw06_SpongeSteps.bits9 (fun T_ W_ => ?_)
            generalize wr.drew = w49 at B474 B475 B481 HB hx496_0 hL ⊢
            refine pure_ (i := 0) (N := some 39) (v := ?_) (a' := ?_) z7_1_ rfl rfl (any_of T_.out (by kernel_rfl)) (fun _ _ _ h => h) (Or.inl ⟨by rfl, ?_⟩) ?_ ?_
            rotate_left; · intro w'; go_simp; with_reducible rfl
            rotate_left; · simp only [Act.put, sa_, sb_, sc_, i64_w, i32_w]; rfl
            refine pure_ (i := 1) (N := some 40) (v := ?_) (a' := ?_) z7_2_ rfl rfl (any_of T_.out (by kernel_rfl)) (fun _ _ _ h => h) (Or.inl ⟨by rfl, ?_⟩) ?_ ?_
            rotate_left; · intro w'; go_simp; with_reducible rfl
            rotate_left; · simp only [Act.put, sa_, sb_, sc_, i64_w, i32_w]; rfl
            refine pure_ (i := 2) (N := some 41) (v := ?_) (a' := ?_) z7_3_ rfl rfl (any_of T_.out (by kernel_rfl)) (fun _ _ _ h => h) (Or.inl ⟨by rfl, ?_⟩) ?_ ?_
            rotate_left; · intro w'; go_simp; with_reducible rfl
            rotate_left; · simp only [Act.put, sa_, sb_, sc_, i64_w, i32_w]; rfl
            refine pure_ (i := 3) (N := some 42) (v := ?_) (a' := ?_) z7_4_ rfl rfl (any_of T_.out (by kernel_rfl)) (fun _ _ _ h => h) (Or.inl ⟨by rfl, ?_⟩) ?_ ?_
            rotate_left; · intro w'; go_simp; with_reducible rfl
            rotate_left; · simp only [Act.put, sa_, sb_, sc_, i64_w, i32_w]; rfl
            refine pure_ (i := 4) (N := some 43) (v := ?_) (a' := ?_) z7_5_ rfl rfl (any_of T_.out (by kernel_rfl)) (fun _ _ _ h => h) (Or.inl ⟨by rfl, ?_⟩) ?_ ?_
            rotate_left; · intro w'; go_simp; with_reducible rfl
            rotate_left; · simp only [Act.put, sa_, sb_, sc_, i64_w, i32_w]; rfl
            refine pure_ (i := 5) (N := some 44) (v := ?_) (a' := ?_) z7_6_ rfl rfl (any_of T_.out (by kernel_rfl)) (fun _ _ _ h => h) (Or.inl ⟨by rfl, ?_⟩) ?_ ?_
            rotate_left; · intro w'; go_simp; with_reducible rfl
            rotate_left; · simp only [Act.put, sa_, sb_, sc_, i64_w, i32_w]; rfl
            refine pure_ (i := 7) (N := some 46) (v := ?_) (a' := ?_) z7_7_ rfl rfl (any_of T_.out (by kernel_rfl)) (fun _ _ _ h => h) (Or.inl ⟨by rfl, ?_⟩) ?_ ?_
            rotate_left; · intro w'; go_simp; with_reducible rfl
            rotate_left; · simp only [Act.put, sa_, sb_, sc_, i64_w, i32_w]; rfl
            refine pure_ (i := 8) (N := some 47) (v := ?_) (a' := ?_) z7_8_ rfl rfl (any_of T_.out (by kernel_rfl)) (fun _ _ _ h => h) (Or.inl ⟨by rfl, ?_⟩) ?_ ?_
            rotate_left; · intro w'; go_simp; with_reducible rfl
            rotate_left; · simp only [Act.put, sa_, sb_, sc_, i64_w, i32_w]; rfl
            refine pure_ (i := 9) (N := some 48) (v := ?_) (a' := ?_) z7_9_ rfl rfl (any_of T_.out (by kernel_rfl)) (fun _ _ _ h => h) (Or.inl ⟨by rfl, ?_⟩) ?_ ?_
            rotate_left; · intro w'; go_simp; with_reducible rfl
            rotate_left; · simp only [Act.put, sa_, sb_, sc_, i64_w, i32_w]; rfl
            refine take_ (i := 6) (N := some 45) (v := ?_) (a' := ?_) z7_10_ rfl rfl (take_ofW T_.out W_.out (by kernel_rfl)) (fun _ _ _ h => h) (Or.inl ⟨by rfl, ?_⟩) hL ?_ ?_
            rotate_left
            ·rintro w' ⟨s0, s1, s2, s3, s4⟩
             go_simp
             with_reducible rfl
            rotate_left
            ·simp only [Act.put, sa_, sb_, sc_, i64_w, i32_w]
             rfl
            refine take_ (i := 10) (N := some 49) (v := ?_) (a' := ?_) z7_11_ rfl rfl (take_ofW T_.out W_.out (by kernel_rfl)) (fun _ _ _ h => h) (Or.inl ⟨by rfl, ?_⟩) hL ?_ ?_
            rotate_left
            ·rintro w' ⟨s0, s1, s2, s3, s4⟩
             go_simp
             with_reducible rfl
            rotate_left
            ·simp only [Act.put, sa_, sb_, sc_, i64_w, i32_w]
             rfl
            refine one_ (i := 11) (N := some 50) z7_12_ rfl rfl (one_of T_.out (by kernel_rfl)) (by decide) (fun K hK => ?_)
            refine goes_ Tryd.func23 (by kernel_rfl) rfl #[.int .i64 (wrap64 (Int.tmod a0 4)), .int .u64 x482001_2, .int .u64 (rd y476 x11_2)] (by rfl) rfl rfl (by (try simp only [List.map_toArray, List.map_cons, List.map_nil]); first | done | rfl) ?_
            with_reducible refine (field_Add.calls (wrap64 (Int.tmod a0 4)) x482001_2 (rd y476 x11_2) t497 _ ?side1 A47.out).mono ?_
            (case side1 => repeat (first | exact (GL.below HRG.out HB.out) | (with_reducible refine GL.alloc ?_ _) | (with_reducible refine GL.drewN ?_ _) | (with_reducible refine GL.drew ?_)))
            rintro e w50 ⟨rfl, hb⟩
            refine ⟨_, rfl, ?_⟩
            have n0_ := Aside0.mk (blk_below (g := g474) (o := .cells #[.int .u64 a2_0, .int .u64 a2_1] 30 (0, 0)) (by (with_reducible repeat first | refine blk_drewN ?_ _ | refine blk_drew ?_ | refine blk_alloc ?_ _); exact B474.out) hb)
            have n1_ := Aside0.mk (blk_below (g := g475) (o := .cells #[.int .u64 a3_0, .int .u64 a3_1] 30 (0, 0)) (by (with_reducible repeat first | refine blk_drewN ?_ _ | refine blk_drew ?_ | refine blk_alloc ?_ _); exact B475.out) hb)
            have n2_ := Aside0.mk (blk_below (g := g481) (o := .cells #[.int .u64 x482000_2, .int .u64 x482001_2, .int .u64 x482002_2, .int .u64 x482003_2] 23 (0, 0)) (by (with_reducible repeat first | refine blk_drewN ?_ _ | refine blk_drew ?_ | refine blk_alloc ?_ _); exact B481.out) hb)
            have n3_ := Aside0.mk (below_step (by repeat (first | (with_reducible first | exact HB.out | apply below_alloc | apply pw_below_drewN | apply below_drew1 | refine below_set ?_ GE474.out | refine below_set ?_ GE475.out | refine below_set ?_ GE481.out) | exact HB.out)) hb)
            clear B474
            clear B475
            clear B481
            clear HB
            have B474 := n0_
            have B475 := n1_
            have B481 := n2_
            have HB := n3_
            clear n0_ n1_ n2_ n3_
            (try clear hb)
            (try clear hb2)
            (try clear hk)
            (try clear hi)
            refine hK.out _ _ ⟨bq_ B481 0, bq_ B481 1, bq_ B481 2, bq_ B481 3, ((HB.out.cell (World.block_lt_of_cell? w _ hw496_0)).trans hw496_0)⟩ (fun hL => ?_)
            clear hK K
            refine norm_ (a' := ?_) ?_ ?_
            rotate_left
            ·show Act.put _ (some 50) _ = _
             simp only [Act.put, sa_, sb_, sc_, i64_w, i32_w]
             rfl
            refine pure_ (i := 12) (N := some 51) (v := ?_) (a' := ?_) z7_13_ rfl rfl (any_of T_.out (by kernel_rfl)) (fun _ _ _ h => h) (Or.inl ⟨by rfl, ?_⟩) ?_ ?_
            rotate_left; · intro w'; go_simp; with_reducible rfl
            rotate_left; · simp only [Act.put, sa_, sb_, sc_, i64_w, i32_w]; rfl
            refine last_ (i := 13) (N := none) z7_14_ rfl rfl (one_of T_.out (by kernel_rfl)) (by decide) (fun K hK => ?_)
            have hs51 : w50.cell? ⟨g481, 1, none⟩ = some (.int .u64 x482001_2) := bq_ B481 1
            have hfs51 := blk_frozen B481.out 1
            have hns51_0 := NB474_481.out
            have hns51_1 := NB475_481.out
            have hms51_0 := NB481_474.out
            have hms51_1 := NB481_475.out
            refine skip_ (w1 := ?_) (by rfl) rfl ?_ ?_
            rotate_left
            ·go_simp
             rfl
            refine hK.out _ _ ?_
            clear hK K
            refine done_ (done_of T_.out (by kernel_rfl)) ?_
            have hnb52 := NB481_474.out
            have hnc52 := NB474_481.out
            have hnb53 := NB481_475.out
            have hnc53 := NB475_481.out
            have hcz54_0 : w50.cell? ⟨g481, 0, none⟩ = some (.int .u64 x482000_2) := bq_ B481 0
            have hcz54_1 : w50.cell? ⟨g481, 1, none⟩ = some (.int .u64 x482001_2) := bq_ B481 1
            have hcz54_2 : w50.cell? ⟨g481, 2, none⟩ = some (.int .u64 x482002_2) := bq_ B481 2
            have hcz54_3 : w50.cell? ⟨g481, 3, none⟩ = some (.int .u64 x482003_2) := bq_ B481 3
            have hfz54_0 := blk_frozen B481.out 0
            have hfz54_1 := blk_frozen B481.out 1
            have hfz54_2 := blk_frozen B481.out 2
            have hfz54_3 := blk_frozen B481.out 3
            try go_wp2_with (first | ((with_reducible refine gate_callee (f := 19) rfl ?_); refine goesL_ (some 64) rfl rfl Tryd.func19 (by kernel_rfl) rfl #[.int .i64 (wrap64 (Int.tmod a0 4)), .agg #[.int .u64 x482000_2, .int .u64 t497, .int .u64 x482002_2, .int .u64 x482003_2]] rfl (by (try simp only [List.map_toArray, List.map_cons, List.map_nil]); first | done | rfl) ?_; (with_reducible refine (sponge_Perm.calls (wrap64 (Int.tmod a0 4)) x482000_2 t497 x482002_2 x482003_2 t498 t499 t500 t501 _ ?side1 A48.out).mono ?_); (case side1 => exact GL.below HRG.out (by repeat (first | (with_reducible first | exact HB.out | apply below_alloc | apply pw_below_drewN | apply below_drew1 | refine below_set ?_ GE474.out | refine below_set ?_ GE475.out | refine below_set ?_ GE481.out) | exact HB.out))); rintro e w55 ⟨rfl, hb⟩; refine ⟨_, rfl, ?_⟩; have n0_ := Aside0.mk (blk_below (g := g474) (o := .cells #[.int .u64 a2_0, .int .u64 a2_1] 30 (0, 0)) (by (with_reducible repeat first | refine blk_drewN ?_ _ | refine blk_drew ?_ | refine blk_alloc ?_ _); refine blk_far ?_ NB474_481.out _; (with_reducible repeat first | refine blk_drewN ?_ _ | refine blk_drew ?_ | refine blk_alloc ?_ _); exact B474.out) hb); have n1_ := Aside0.mk (blk_below (g := g475) (o := .cells #[.int .u64 a3_0, .int .u64 a3_1] 30 (0, 0)) (by (with_reducible repeat first | refine blk_drewN ?_ _ | refine blk_drew ?_ | refine blk_alloc ?_ _); refine blk_far ?_ NB475_481.out _; (with_reducible repeat first | refine blk_drewN ?_ _ | refine blk_drew ?_ | refine blk_alloc ?_ _); exact B475.out) hb); have n2_ := Aside0.mk (blk_below (g := g481) (o := .cells #[.int .u64 x482000_2, .int .u64 t497, .int .u64 x482002_2, .int .u64 x482003_2] 23 (0, 0)) (by (with_reducible repeat first | refine blk_drewN ?_ _ | refine blk_drew ?_ | refine blk_alloc ?_ _); refine blk_put (cs := #[.int .u64 x482000_2, .int .u64 x482001_2, .int .u64 x482002_2, .int .u64 x482003_2]) ?_ 1 _ rfl; (with_reducible repeat first | refine blk_drewN ?_ _ | refine blk_drew ?_ | refine blk_alloc ?_ _); exact B481.out) hb); have n3_ := Aside0.mk (below_step (by repeat (first | (with_reducible first | exact HB.out | apply below_alloc | apply pw_below_drewN | apply below_drew1 | refine below_set ?_ GE474.out | refine below_set ?_ GE475.out | refine below_set ?_ GE481.out) | exact HB.out)) hb); clear B474; clear B475; clear B481; clear HB; have B474 := n0_; have B475 := n1_; have B481 := n2_; have HB := n3_; clear n0_ n1_ n2_ n3_; (try clear hb); (try clear hb2); (try clear hk); (try clear hi); have hcz56_0 : w55.cell? ⟨g481, 0, none⟩ = some (.int .u64 x482000_2) := bq_ B481 0; have hcz56_1 : w55.cell? ⟨g481, 1, none⟩ = some (.int .u64 t497) := bq_ B481 1; have hcz56_2 : w55.cell? ⟨g481, 2, none⟩ = some (.int .u64 x482002_2) := bq_ B481 2; have hcz56_3 : w55.cell? ⟨g481, 3, none⟩ = some (.int .u64 x482003_2) := bq_ B481 3; have hfz56_0 := blk_frozen B481.out 0; have hfz56_1 := blk_frozen B481.out 1; have hfz56_2 := blk_frozen B481.out 2; have hfz56_3 := blk_frozen B481.out 3))
            go_roundg k2
            case measure => have := HJ8.out; have := HK2.out; omega
            case rel => exact ⟨(wrap64 (x11_2 + 1)), (t498), (t499), (t500), (t501), (by first | rfl | (simp; done) | (simp [*]; done) | (simp; rfl) | (simp; decide +kernel)), H', ⟨by have := HJ8.out; have := HK2.out; omega⟩, ⟨by (with_reducible repeat first | refine blk_drewN ?_ _ | refine blk_drew ?_ | refine blk_alloc ?_ _); refine blk_far ?_ NB474_481.out _; (with_reducible repeat first | refine blk_drewN ?_ _ | refine blk_drew ?_ | refine blk_alloc ?_ _); refine blk_far ?_ NB474_481.out _; (with_reducible repeat first | refine blk_drewN ?_ _ | refine blk_drew ?_ | refine blk_alloc ?_ _); refine blk_far ?_ NB474_481.out _; (with_reducible repeat first | refine blk_drewN ?_ _ | refine blk_drew ?_ | refine blk_alloc ?_ _); refine blk_far ?_ NB474_481.out _; (with_reducible repeat first | refine blk_drewN ?_ _ | refine blk_drew ?_ | refine blk_alloc ?_ _); exact B474.out⟩, ⟨by (with_reducible repeat first | refine blk_drewN ?_ _ | refine blk_drew ?_ | refine blk_alloc ?_ _); refine blk_far ?_ NB475_481.out _; (with_reducible repeat first | refine blk_drewN ?_ _ | refine blk_drew ?_ | refine blk_alloc ?_ _); refine blk_far ?_ NB475_481.out _; (with_reducible repeat first | refine blk_drewN ?_ _ | refine blk_drew ?_ | refine blk_alloc ?_ _); refine blk_far ?_ NB475_481.out _; (with_reducible repeat first | refine blk_drewN ?_ _ | refine blk_drew ?_ | refine blk_alloc ?_ _); refine blk_far ?_ NB475_481.out _; (with_reducible repeat first | refine blk_drewN ?_ _ | refine blk_drew ?_ | refine blk_alloc ?_ _); exact B475.out⟩, ⟨by (with_reducible repeat first | refine blk_drewN ?_ _ | refine blk_drew ?_ | refine blk_alloc ?_ _); refine blk_put (cs := #[.int .u64 t498, .int .u64 t499, .int .u64 t500, .int .u64 x482003_2]) ?_ 3 _ rfl; (with_reducible repeat first | refine blk_drewN ?_ _ | refine blk_drew ?_ | refine blk_alloc ?_ _); refine blk_put (cs := #[.int .u64 t498, .int .u64 t499, .int .u64 x482002_2, .int .u64 x482003_2]) ?_ 2 _ rfl; (with_reducible repeat first | refine blk_drewN ?_ _ | refine blk_drew ?_ | refine blk_alloc ?_ _); refine blk_put (cs := #[.int .u64 t498, .int .u64 t497, .int .u64 x482002_2, .int .u64 x482003_2]) ?_ 1 _ rfl; (with_reducible repeat first | refine blk_drewN ?_ _ | refine blk_drew ?_ | refine blk_alloc ?_ _); refine blk_put (cs := #[.int .u64 x482000_2, .int .u64 t497, .int .u64 x482002_2, .int .u64 x482003_2]) ?_ 0 _ rfl; (with_reducible repeat first | refine blk_drewN ?_ _ | refine blk_drew ?_ | refine blk_alloc ?_ _); exact B481.out⟩, ⟨by repeat (first | (with_reducible first | exact HB.out | apply below_alloc | apply pw_below_drewN | apply below_drew1 | refine below_set ?_ GE474.out | refine below_set ?_ GE475.out | refine below_set ?_ GE481.out) | exact HB.out)⟩⟩
           ·rw [if_neg c46] at H
            exact absurd H (by simp)
          ·rw [if_neg c45] at H
           by_cases c57 : (ji26) = 2
           ·rw [if_pos c57] at H
            subst c57
            by_cases c58 : 0 ≤ x11_2
            ·rw [if_pos c58] at H
             have c58b0 : decide (0 ≤ x11_2) = true := decide_eq_true c58
             clear c58
             replace H := Option.bind_eq_some_iff.mp H
             obtain ⟨t503, A590, H⟩ := H
             replace H : (if (wrap64 (x11_2 + 1)) = (y476.length : Int) then ((sponge_Perm.f (wrap64 (Int.tmod a0 4)) x482000_2 x482001_2 t503 x482003_2).bind fun bt504 => (attestorlaw06_SpongeSteps.l0 k2 y476 (wrap64 (Int.tmod a0 4)) (wrap64 (x11_2 + 1)) a2_0 a2_1 a3_0 a3_1 bt504.1 bt504.2.1 bt504.2.2.1 bt504.2.2.2)) else (attestorlaw06_SpongeSteps.l0 k2 y476 (wrap64 (Int.tmod a0 4)) (wrap64 (x11_2 + 1)) a2_0 a2_1 a3_0 a3_1 x482000_2 x482001_2 t503 x482003_2)) = some r := H
             have A59 := Aside0.mk A590
             clear A590
             by_cases c60 : (wrap64 (x11_2 + 1)) = (y476.length : Int)
             ·rw [if_pos c60] at H
              have c60b0 : ((wrap64 (x11_2 + 1)) == (y476.length : Int)) = true := beq_iff_eq.mpr c60
              have c60b1 : ((wrap64 (x11_2 + 1)) != (y476.length : Int)) = false := bne_eq_false_iff_eq.mpr c60
              clear c60
              replace H := Option.bind_eq_some_iff.mp H
              obtain ⟨⟨t504, t505, t506, t507⟩, A610, H⟩ := H
              replace H : (attestorlaw06_SpongeSteps.l0 k2 y476 (wrap64 (Int.tmod a0 4)) (wrap64 (x11_2 + 1)) a2_0 a2_1 a3_0 a3_1 t504 t505 t506 t507) = some r := H
              have A61 := Aside0.mk A610
              clear A610
              have H' := Aside0.mk H
              clear H
              try go_wp2
              have n0_ := Aside0.mk (blk_drew B474.out)
              have n1_ := Aside0.mk (blk_drew B475.out)
              have n2_ := Aside0.mk (blk_drew B481.out)
              have n3_ := Aside0.mk (below_drew1 HB.out)
              clear B474
              clear B475
              clear B481
              clear HB
              have B474 := n0_
              have B475 := n1_
              have B481 := n2_
              have HB := n3_
              clear n0_ n1_ n2_ n3_
              have p502 : 0 ≤ (x11_2 : Int) := of_decide_eq_true (by first | (with_reducible assumption) | assumption)
              have q502 : x11_2 < (y476.length : Int) := of_decide_eq_true (by first | (with_reducible assumption) | assumption)
              obtain ⟨ad502, e502, hx502_0⟩ := Kd.at_int HR479.out x11_2 p502 q502
              have hw502_0 := hx502_0
              cases e502
              replace hx502_0 := (HB.out.cell (World.block_lt_of_cell? w _ hx502_0)).trans hx502_0
              replace p502 := eq_true p502
              replace q502 := eq_true q502
              refine start_ (n := 14) (S := fun w' => w'.cell? ⟨g481, 0, none⟩ = some (.int .u64 x482000_2) ∧ w'.cell? ⟨g481, 1, none⟩ = some (.int .u64 x482001_2) ∧ w'.cell? ⟨g481, 2, none⟩ = some (.int .u64 x482002_2) ∧ w'.cell? ⟨g481, 3, none⟩ = some (.int .u64 x482003_2) ∧ w'.cell? (ad502.add (x11_2).toNat) = some (.int .u64 (rd y476 x11_2))) (ds := [13]) z7_0_ (by kernel_rfl) rfl rfl ⟨bq_ B481 0, bq_ B481 1, bq_ B481 2, bq_ B481 3, ((HB.out.cell (World.block_lt_of_cell? w _ hw502_0)).trans hw502_0)⟩ (fun hL => ?_); refine with_tabW attestorlaw06_SpongeSteps.tab9 attestorlaw06_SpongeSteps.bits9 (fun T_ W_ => ?_)
              generalize wr.drew = w62 at B474 B475 B481 HB hx502_0 hL ⊢
              refine pure_ (i := 0) (N := some 39) (v := ?_) (a' := ?_) z7_1_ rfl rfl (any_of T_.out (by kernel_rfl)) (fun _ _ _ h => h) (Or.inl ⟨by rfl, ?_⟩) ?_ ?_
              rotate_left; · intro w'; go_simp; with_reducible rfl
              rotate_left; · simp only [Act.put, sa_, sb_, sc_, i64_w, i32_w]; rfl
              refine pure_ (i := 1) (N := some 40) (v := ?_) (a' := ?_) z7_2_ rfl rfl (any_of T_.out (by kernel_rfl)) (fun _ _ _ h => h) (Or.inl ⟨by rfl, ?_⟩) ?_ ?_
              rotate_left; · intro w'; go_simp; with_reducible rfl
              rotate_left; · simp only [Act.put, sa_, sb_, sc_, i64_w, i32_w]; rfl
              refine pure_ (i := 2) (N := some 41) (v := ?_) (a' := ?_) z7_3_ rfl rfl (any_of T_.out (by kernel_rfl)) (fun _ _ _ h => h) (Or.inl ⟨by rfl, ?_⟩) ?_ ?_
              rotate_left; · intro w'; go_simp; with_reducible rfl
              rotate_left; · simp only [Act.put, sa_, sb_, sc_, i64_w, i32_w]; rfl
              refine pure_ (i := 3) (N := some 42) (v := ?_) (a' := ?_) z7_4_ rfl rfl (any_of T_.out (by kernel_rfl)) (fun _ _ _ h => h) (Or.inl ⟨by rfl, ?_⟩) ?_ ?_
              rotate_left; · intro w'; go_simp; with_reducible rfl
              rotate_left; · simp only [Act.put, sa_, sb_, sc_, i64_w, i32_w]; rfl
              refine pure_ (i := 4) (N := some 43) (v := ?_) (a' := ?_) z7_5_ rfl rfl (any_of T_.out (by kernel_rfl)) (fun _ _ _ h => h) (Or.inl ⟨by rfl, ?_⟩) ?_ ?_
              rotate_left; · intro w'; go_simp; with_reducible rfl
              rotate_left; · simp only [Act.put, sa_, sb_, sc_, i64_w, i32_w]; rfl
              refine pure_ (i := 5) (N := some 44) (v := ?_) (a' := ?_) z7_6_ rfl rfl (any_of T_.out (by kernel_rfl)) (fun _ _ _ h => h) (Or.inl ⟨by rfl, ?_⟩) ?_ ?_
              rotate_left; · intro w'; go_simp; with_reducible rfl
              rotate_left; · simp only [Act.put, sa_, sb_, sc_, i64_w, i32_w]; rfl
              refine pure_ (i := 7) (N := some 46) (v := ?_) (a' := ?_) z7_7_ rfl rfl (any_of T_.out (by kernel_rfl)) (fun _ _ _ h => h) (Or.inl ⟨by rfl, ?_⟩) ?_ ?_
              rotate_left; · intro w'; go_simp; with_reducible rfl
              rotate_left; · simp only [Act.put, sa_, sb_, sc_, i64_w, i32_w]; rfl
              refine pure_ (i := 8) (N := some 47) (v := ?_) (a' := ?_) z7_8_ rfl rfl (any_of T_.out (by kernel_rfl)) (fun _ _ _ h => h) (Or.inl ⟨by rfl, ?_⟩) ?_ ?_
              rotate_left; · intro w'; go_simp; with_reducible rfl
              rotate_left; · simp only [Act.put, sa_, sb_, sc_, i64_w, i32_w]; rfl
              refine pure_ (i := 9) (N := some 48) (v := ?_) (a' := ?_) z7_9_ rfl rfl (any_of T_.out (by kernel_rfl)) (fun _ _ _ h => h) (Or.inl ⟨by rfl, ?_⟩) ?_ ?_
              rotate_left; · intro w'; go_simp; with_reducible rfl
              rotate_left; · simp only [Act.put, sa_, sb_, sc_, i64_w, i32_w]; rfl
              refine take_ (i := 6) (N := some 45) (v := ?_) (a' := ?_) z7_10_ rfl rfl (take_ofW T_.out W_.out (by kernel_rfl)) (fun _ _ _ h => h) (Or.inl ⟨by rfl, ?_⟩) hL ?_ ?_
              rotate_left
              ·rintro w' ⟨s0, s1, s2, s3, s4⟩
               go_simp
               with_reducible rfl
              rotate_left
              ·simp only [Act.put, sa_, sb_, sc_, i64_w, i32_w]
               rfl
              refine take_ (i := 10) (N := some 49) (v := ?_) (a' := ?_) z7_11_ rfl rfl (take_ofW T_.out W_.out (by kernel_rfl)) (fun _ _ _ h => h) (Or.inl ⟨by rfl, ?_⟩) hL ?_ ?_
              rotate_left
              ·rintro w' ⟨s0, s1, s2, s3, s4⟩
               go_simp
               with_reducible rfl
              rotate_left
              ·simp only [Act.put, sa_, sb_, sc_, i64_w, i32_w]
               rfl
              refine one_ (i := 11) (N := some 50) z7_12_ rfl rfl (one_of T_.out (by kernel_rfl)) (by decide) (fun K hK => ?_)
              refine goes_ Tryd.func23 (by kernel_rfl) rfl #[.int .i64 (wrap64 (Int.tmod a0 4)), .int .u64 x482002_2, .int .u64 (rd y476 x11_2)] (by rfl) rfl rfl (by (try simp only [List.map_toArray, List.map_cons, List.map_nil]); first | done | rfl) ?_
              with_reducible refine (field_Add.calls (wrap64 (Int.tmod a0 4)) x482002_2 (rd y476 x11_2) t503 _ ?side1 A59.out).mono ?_
              (case side1 => repeat (first | exact (GL.below HRG.out HB.out) | (with_reducible refine GL.alloc ?_ _) | (with_reducible refine GL.drewN ?_ _) | (with_reducible refine GL.drew ?_)))
              rintro e w63 ⟨rfl, hb⟩
              refine ⟨_, rfl, ?_⟩
              have n0_ := Aside0.mk (blk_below (g := g474) (o := .cells #[.int .u64 a2_0, .int .u64 a2_1] 30 (0, 0)) (by (with_reducible repeat first | refine blk_drewN ?_ _ | refine blk_drew ?_ | refine blk_alloc ?_ _); exact B474.out) hb)
              have n1_ := Aside0.mk (blk_below (g := g475) (o := .cells #[.int .u64 a3_0, .int .u64 a3_1] 30 (0, 0)) (by (with_reducible repeat first | refine blk_drewN ?_ _ | refine blk_drew ?_ | refine blk_alloc ?_ _); exact B475.out) hb)
              have n2_ := Aside0.mk (blk_below (g := g481) (o := .cells #[.int .u64 x482000_2, .int .u64 x482001_2, .int .u64 x482002_2, .int .u64 x482003_2] 23 (0, 0)) (by (with_reducible repeat first | refine blk_drewN ?_ _ | refine blk_drew ?_ | refine blk_alloc ?_ _); exact B481.out) hb)
              have n3_ := Aside0.mk (below_step (by repeat (first | (with_reducible first | exact HB.out | apply below_alloc | apply pw_below_drewN | apply below_drew1 | refine below_set ?_ GE474.out | refine below_set ?_ GE475.out | refine below_set ?_ GE481.out) | exact HB.out)) hb)
              clear B474
              clear B475
              clear B481
              clear HB
              have B474 := n0_
              have B475 := n1_
              have B481 := n2_
              have HB := n3_
              clear n0_ n1_ n2_ n3_
              (try clear hb)
              (try clear hb2)
              (try clear hk)
              (try clear hi)
              refine hK.out _ _ ⟨bq_ B481 0, bq_ B481 1, bq_ B481 2, bq_ B481 3, ((HB.out.cell (World.block_lt_of_cell? w _ hw502_0)).trans hw502_0)⟩ (fun hL => ?_)
              clear hK K
              refine norm_ (a' := ?_) ?_ ?_
              rotate_left
              ·show Act.put _ (some 50) _ = _
               simp only [Act.put, sa_, sb_, sc_, i64_w, i32_w]
               rfl
              refine pure_ (i := 12) (N := some 51) (v := ?_) (a' := ?_) z7_13_ rfl rfl (any_of T_.out (by kernel_rfl)) (fun _ _ _ h => h) (Or.inl ⟨by rfl, ?_⟩) ?_ ?_
              rotate_left; · intro w'; go_simp; with_reducible rfl
              rotate_left; · simp only [Act.put, sa_, sb_, sc_, i64_w, i32_w]; rfl
              refine last_ (i := 13) (N := none) z7_14_ rfl rfl (one_of T_.out (by kernel_rfl)) (by decide) (fun K hK => ?_)
              have hs64 : w63.cell? ⟨g481, 2, none⟩ = some (.int .u64 x482002_2) := bq_ B481 2
              have hfs64 := blk_frozen B481.out 2
              have hns64_0 := NB474_481.out
              have hns64_1 := NB475_481.out
              have hms64_0 := NB481_474.out
              have hms64_1 := NB481_475.out
              refine skip_ (w1 := ?_) (by rfl) rfl ?_ ?_
              rotate_left
              ·go_simp
               rfl
              refine hK.out _ _ ?_
              clear hK K
              refine done_ (done_of T_.out (by kernel_rfl)) ?_
              have hnb65 := NB481_474.out
              have hnc65 := NB474_481.out
              have hnb66 := NB481_475.out
              have hnc66 := NB475_481.out
              have hcz67_0 : w63.cell? ⟨g481, 0, none⟩ = some (.int .u64 x482000_2) := bq_ B481 0
              have hcz67_1 : w63.cell? ⟨g481, 1, none⟩ = some (.int .u64 x482001_2) := bq_ B481 1
              have hcz67_2 : w63.cell? ⟨g481, 2, none⟩ = some (.int .u64 x482002_2) := bq_ B481 2
              have hcz67_3 : w63.cell? ⟨g481, 3, none⟩ = some (.int .u64 x482003_2) := bq_ B481 3
              have hfz67_0 := blk_frozen B481.out 0
              have hfz67_1 := blk_frozen B481.out 1
              have hfz67_2 := blk_frozen B481.out 2
              have hfz67_3 := blk_frozen B481.out 3
              try go_wp2_with (first | ((with_reducible refine gate_callee (f := 19) rfl ?_); refine goesL_ (some 64) rfl rfl Tryd.func19 (by kernel_rfl) rfl #[.int .i64 (wrap64 (Int.tmod a0 4)), .agg #[.int .u64 x482000_2, .int .u64 x482001_2, .int .u64 t503, .int .u64 x482003_2]] rfl (by (try simp only [List.map_toArray, List.map_cons, List.map_nil]); first | done | rfl) ?_; (with_reducible refine (sponge_Perm.calls (wrap64 (Int.tmod a0 4)) x482000_2 x482001_2 t503 x482003_2 t504 t505 t506 t507 _ ?side1 A61.out).mono ?_); (case side1 => exact GL.below HRG.out (by repeat (first | (with_reducible first | exact HB.out | apply below_alloc | apply pw_below_drewN | apply below_drew1 | refine below_set ?_ GE474.out | refine below_set ?_ GE475.out | refine below_set ?_ GE481.out) | exact HB.out))); rintro e w68 ⟨rfl, hb⟩; refine ⟨_, rfl, ?_⟩; have n0_ := Aside0.mk (blk_below (g := g474) (o := .cells #[.int .u64 a2_0, .int .u64 a2_1] 30 (0, 0)) (by (with_reducible repeat first | refine blk_drewN ?_ _ | refine blk_drew ?_ | refine blk_alloc ?_ _); refine blk_far ?_ NB474_481.out _; (with_reducible repeat first | refine blk_drewN ?_ _ | refine blk_drew ?_ | refine blk_alloc ?_ _); exact B474.out) hb); have n1_ := Aside0.mk (blk_below (g := g475) (o := .cells #[.int .u64 a3_0, .int .u64 a3_1] 30 (0, 0)) (by (with_reducible repeat first | refine blk_drewN ?_ _ | refine blk_drew ?_ | refine blk_alloc ?_ _); refine blk_far ?_ NB475_481.out _; (with_reducible repeat first | refine blk_drewN ?_ _ | refine blk_drew ?_ | refine blk_alloc ?_ _); exact B475.out) hb); have n2_ := Aside0.mk (blk_below (g := g481) (o := .cells #[.int .u64 x482000_2, .int .u64 x482001_2, .int .u64 t503, .int .u64 x482003_2] 23 (0, 0)) (by (with_reducible repeat first | refine blk_drewN ?_ _ | refine blk_drew ?_ | refine blk_alloc ?_ _); refine blk_put (cs := #[.int .u64 x482000_2, .int .u64 x482001_2, .int .u64 x482002_2, .int .u64 x482003_2]) ?_ 2 _ rfl; (with_reducible repeat first | refine blk_drewN ?_ _ | refine blk_drew ?_ | refine blk_alloc ?_ _); exact B481.out) hb); have n3_ := Aside0.mk (below_step (by repeat (first | (with_reducible first | exact HB.out | apply below_alloc | apply pw_below_drewN | apply below_drew1 | refine below_set ?_ GE474.out | refine below_set ?_ GE475.out | refine below_set ?_ GE481.out) | exact HB.out)) hb); clear B474; clear B475; clear B481; clear HB; have B474 := n0_; have B475 := n1_; have B481 := n2_; have HB := n3_; clear n0_ n1_ n2_ n3_; (try clear hb); (try clear hb2); (try clear hk); (try clear hi); have hcz69_0 : w68.cell? ⟨g481, 0, none⟩ = some (.int .u64 x482000_2) := bq_ B481 0; have hcz69_1 : w68.cell? ⟨g481, 1, none⟩ = some (.int .u64 x482001_2) := bq_ B481 1; have hcz69_2 : w68.cell? ⟨g481, 2, none⟩ = some (.int .u64 t503) := bq_ B481 2; have hcz69_3 : w68.cell? ⟨g481, 3, none⟩ = some (.int .u64 x482003_2) := bq_ B481 3; have hfz69_0 := blk_frozen B481.out 0; have hfz69_1 := blk_frozen B481.out 1; have hfz69_2 := blk_frozen B481.out 2; have hfz69_3 := blk_frozen B481.out 3))
              go_roundg k2
              case measure => have := HJ8.out; have := HK2.out; omega
              case rel => exact ⟨(wrap64 (x11_2 + 1)), (t504), (t505), (t506), (t507), (by first | rfl | (simp; done) | (simp [*]; done) | (simp; rfl) | (simp; decide +kernel)), H', ⟨by have := HJ8.out; have := HK2.out; omega⟩, ⟨by (with_reducible repeat first | refine blk_drewN ?_ _ | refine blk_drew ?_ | refine blk_alloc ?_ _); refine blk_far ?_ NB474_481.out _; (with_reducible repeat first | refine blk_drewN ?_ _ | refine blk_drew ?_ | refine blk_alloc ?_ _); refine blk_far ?_ NB474_481.out _; (with_reducible repeat first | refine blk_drewN ?_ _ | refine blk_drew ?_ | refine blk_alloc ?_ _); refine blk_far ?_ NB474_481.out _; (with_reducible repeat first | refine blk_drewN ?_ _ | refine blk_drew ?_ | refine blk_alloc ?_ _); refine blk_far ?_ NB474_481.out _; (with_reducible repeat first | refine blk_drewN ?_ _ | refine blk_drew ?_ | refine blk_alloc ?_ _); exact B474.out⟩, ⟨by (with_reducible repeat first | refine blk_drewN ?_ _ | refine blk_drew ?_ | refine blk_alloc ?_ _); refine blk_far ?_ NB475_481.out _; (with_reducible repeat first | refine blk_drewN ?_ _ | refine blk_drew ?_ | refine blk_alloc ?_ _); refine blk_far ?_ NB475_481.out _; (with_reducible repeat first | refine blk_drewN ?_ _ | refine blk_drew ?_ | refine blk_alloc ?_ _); refine blk_far ?_ NB475_481.out _; (with_reducible repeat first | refine blk_drewN ?_ _ | refine blk_drew ?_ | refine blk_alloc ?_ _); refine blk_far ?_ NB475_481.out _; (with_reducible repeat first | refine blk_drewN ?_ _ | refine blk_drew ?_ | refine blk_alloc ?_ _); exact B475.out⟩, ⟨by (with_reducible repeat first | refine blk_drewN ?_ _ | refine blk_drew ?_ | refine blk_alloc ?_ _); refine blk_put (cs := #[.int .u64 t504, .int .u64 t505, .int .u64 t506, .int .u64 x482003_2]) ?_ 3 _ rfl; (with_reducible repeat first | refine blk_drewN ?_ _ | refine blk_drew ?_ | refine blk_alloc ?_ _); refine blk_put (cs := #[.int .u64 t504, .int .u64 t505, .int .u64 t503, .int .u64 x482003_2]) ?_ 2 _ rfl; (with_reducible repeat first | refine blk_drewN ?_ _ | refine blk_drew ?_ | refine blk_alloc ?_ _); refine blk_put (cs := #[.int .u64 t504, .int .u64 x482001_2, .int .u64 t503, .int .u64 x482003_2]) ?_ 1 _ rfl; (with_reducible repeat first | refine blk_drewN ?_ _ | refine blk_drew ?_ | refine blk_alloc ?_ _); refine blk_put (cs := #[.int .u64 x482000_2, .int .u64 x482001_2, .int .u64 t503, .int .u64 x482003_2]) ?_ 0 _ rfl; (with_reducible repeat first | refine blk_drewN ?_ _ | refine blk_drew ?_ | refine blk_alloc ?_ _); exact B481.out⟩, ⟨by repeat (first | (with_reducible first | exact HB.out | apply below_alloc | apply pw_below_drewN | apply below_drew1 | refine below_set ?_ GE474.out | refine below_set ?_ GE475.out | refine below_set ?_ GE481.out) | exact HB.out)⟩⟩
             ·rw [if_neg c60] at H
              have c60b0 : ((wrap64 (x11_2 + 1)) == (y476.length : Int)) = false := beq_eq_false_iff_ne.mpr c60
              have c60b1 : ((wrap64 (x11_2 + 1)) != (y476.length : Int)) = true := bne_iff_ne.mpr c60
              have H' := Aside0.mk H
              clear H
              try go_wp2
              have n0_ := Aside0.mk (blk_drew B474.out)
              have n1_ := Aside0.mk (blk_drew B475.out)
              have n2_ := Aside0.mk (blk_drew B481.out)
              have n3_ := Aside0.mk (below_drew1 HB.out)
              clear B474
              clear B475
              clear B481
              clear HB
              have B474 := n0_
              have B475 := n1_
              have B481 := n2_
              have HB := n3_
              clear n0_ n1_ n2_ n3_
              have p502 : 0 ≤ (x11_2 : Int) := of_decide_eq_true (by first | (with_reducible assumption) | assumption)
              have q502 : x11_2 < (y476.length : Int) := of_decide_eq_true (by first | (with_reducible assumption) | assumption)
              obtain ⟨ad502, e502, hx502_0⟩ := Kd.at_int HR479.out x11_2 p502 q502
              have hw502_0 := hx502_0
              cases e502
              replace hx502_0 := (HB.out.cell (World.block_lt_of_cell? w _ hx502_0)).trans hx502_0
              replace p502 := eq_true p502
              replace q502 := eq_true q502
              refine start_ (n := 14) (S := fun w' => w'.cell? ⟨g481, 0, none⟩ = some (.int .u64 x482000_2) ∧ w'.cell? ⟨g481, 1, none⟩ = some (.int .u64 x482001_2) ∧ w'.cell? ⟨g481, 2, none⟩ = some (.int .u64 x482002_2) ∧ w'.cell? ⟨g481, 3, none⟩ = some (.int .u64 x482003_2) ∧ w'.cell? (ad502.add (x11_2).toNat) = some (.int .u64 (rd y476 x11_2))) (ds := [13]) z7_0_ (by kernel_rfl) rfl rfl ⟨bq_ B481 0, bq_ B481 1, bq_ B481 2, bq_ B481 3, ((HB.out.cell (World.block_lt_of_cell? w _ hw502_0)).trans hw502_0)⟩ (fun hL => ?_); refine with_tabW attestorlaw06_SpongeSteps.tab9 attestorlaw06_SpongeSteps.bits9 (fun T_ W_ => ?_)
              generalize wr.drew = w70 at B474 B475 B481 HB hx502_0 hL ⊢
              refine pure_ (i := 0) (N := some 39) (v := ?_) (a' := ?_) z7_1_ rfl rfl (any_of T_.out (by kernel_rfl)) (fun _ _ _ h => h) (Or.inl ⟨by rfl, ?_⟩) ?_ ?_
              rotate_left; · intro w'; go_simp; with_reducible rfl
              rotate_left; · simp only [Act.put, sa_, sb_, sc_, i64_w, i32_w]; rfl
              refine pure_ (i := 1) (N := some 40) (v := ?_) (a' := ?_) z7_2_ rfl rfl (any_of T_.out (by kernel_rfl)) (fun _ _ _ h => h) (Or.inl ⟨by rfl, ?_⟩) ?_ ?_
              rotate_left; · intro w'; go_simp; with_reducible rfl
              rotate_left; · simp only [Act.put, sa_, sb_, sc_, i64_w, i32_w]; rfl
              refine pure_ (i := 2) (N := some 41) (v := ?_) (a' := ?_) z7_3_ rfl rfl (any_of T_.out (by kernel_rfl)) (fun _ _ _ h => h) (Or.inl ⟨by rfl, ?_⟩) ?_ ?_
              rotate_left; · intro w'; go_simp; with_reducible rfl
              rotate_left; · simp only [Act.put, sa_, sb_, sc_, i64_w, i32_w]; rfl
              refine pure_ (i := 3) (N := some 42) (v := ?_) (a' := ?_) z7_4_ rfl rfl (any_of T_.out (by kernel_rfl)) (fun _ _ _ h => h) (Or.inl ⟨by rfl, ?_⟩) ?_ ?_
              rotate_left; · intro w'; go_simp; with_reducible rfl
              rotate_left; · simp only [Act.put, sa_, sb_, sc_, i64_w, i32_w]; rfl
              refine pure_ (i := 4) (N := some 43) (v := ?_) (a' := ?_) z7_5_ rfl rfl (any_of T_.out (by kernel_rfl)) (fun _ _ _ h => h) (Or.inl ⟨by rfl, ?_⟩) ?_ ?_
              rotate_left; · intro w'; go_simp; with_reducible rfl
              rotate_left; · simp only [Act.put, sa_, sb_, sc_, i64_w, i32_w]; rfl
              refine pure_ (i := 5) (N := some 44) (v := ?_) (a' := ?_) z7_6_ rfl rfl (any_of T_.out (by kernel_rfl)) (fun _ _ _ h => h) (Or.inl ⟨by rfl, ?_⟩) ?_ ?_
              rotate_left; · intro w'; go_simp; with_reducible rfl
              rotate_left; · simp only [Act.put, sa_, sb_, sc_, i64_w, i32_w]; rfl
              refine pure_ (i := 7) (N := some 46) (v := ?_) (a' := ?_) z7_7_ rfl rfl (any_of T_.out (by kernel_rfl)) (fun _ _ _ h => h) (Or.inl ⟨by rfl, ?_⟩) ?_ ?_
              rotate_left; · intro w'; go_simp; with_reducible rfl
              rotate_left; · simp only [Act.put, sa_, sb_, sc_, i64_w, i32_w]; rfl
              refine pure_ (i := 8) (N := some 47) (v := ?_) (a' := ?_) z7_8_ rfl rfl (any_of T_.out (by kernel_rfl)) (fun _ _ _ h => h) (Or.inl ⟨by rfl, ?_⟩) ?_ ?_
              rotate_left; · intro w'; go_simp; with_reducible rfl
              rotate_left; · simp only [Act.put, sa_, sb_, sc_, i64_w, i32_w]; rfl
              refine pure_ (i := 9) (N := some 48) (v := ?_) (a' := ?_) z7_9_ rfl rfl (any_of T_.out (by kernel_rfl)) (fun _ _ _ h => h) (Or.inl ⟨by rfl, ?_⟩) ?_ ?_
              rotate_left; · intro w'; go_simp; with_reducible rfl
              rotate_left; · simp only [Act.put, sa_, sb_, sc_, i64_w, i32_w]; rfl
              refine take_ (i := 6) (N := some 45) (v := ?_) (a' := ?_) z7_10_ rfl rfl (take_ofW T_.out W_.out (by kernel_rfl)) (fun _ _ _ h => h) (Or.inl ⟨by rfl, ?_⟩) hL ?_ ?_
              rotate_left
              ·rintro w' ⟨s0, s1, s2, s3, s4⟩
               go_simp
               with_reducible rfl
              rotate_left
              ·simp only [Act.put, sa_, sb_, sc_, i64_w, i32_w]
               rfl
              refine take_ (i := 10) (N := some 49) (v := ?_) (a' := ?_) z7_11_ rfl rfl (take_ofW T_.out W_.out (by kernel_rfl)) (fun _ _ _ h => h) (Or.inl ⟨by rfl, ?_⟩) hL ?_ ?_
              rotate_left
              ·rintro w' ⟨s0, s1, s2, s3, s4⟩
               go_simp
               with_reducible rfl
              rotate_left
              ·simp only [Act.put, sa_, sb_, sc_, i64_w, i32_w]
               rfl
              refine one_ (i := 11) (N := some 50) z7_12_ rfl rfl (one_of T_.out (by kernel_rfl)) (by decide) (fun K hK => ?_)
              refine goes_ Tryd.func23 (by kernel_rfl) rfl #[.int .i64 (wrap64 (Int.tmod a0 4)), .int .u64 x482002_2, .int .u64 (rd y476 x11_2)] (by rfl) rfl rfl (by (try simp only [List.map_toArray, List.map_cons, List.map_nil]); first | done | rfl) ?_
              with_reducible refine (field_Add.calls (wrap64 (Int.tmod a0 4)) x482002_2 (rd y476 x11_2) t503 _ ?side1 A59.out).mono ?_
              (case side1 => repeat (first | exact (GL.below HRG.out HB.out) | (with_reducible refine GL.alloc ?_ _) | (with_reducible refine GL.drewN ?_ _) | (with_reducible refine GL.drew ?_)))
              rintro e w71 ⟨rfl, hb⟩
              refine ⟨_, rfl, ?_⟩
              have n0_ := Aside0.mk (blk_below (g := g474) (o := .cells #[.int .u64 a2_0, .int .u64 a2_1] 30 (0, 0)) (by (with_reducible repeat first | refine blk_drewN ?_ _ | refine blk_drew ?_ | refine blk_alloc ?_ _); exact B474.out) hb)
              have n1_ := Aside0.mk (blk_below (g := g475) (o := .cells #[.int .u64 a3_0, .int .u64 a3_1] 30 (0, 0)) (by (with_reducible repeat first | refine blk_drewN ?_ _ | refine blk_drew ?_ | refine blk_alloc ?_ _); exact B475.out) hb)
              have n2_ := Aside0.mk (blk_below (g := g481) (o := .cells #[.int .u64 x482000_2, .int .u64 x482001_2, .int .u64 x482002_2, .int .u64 x482003_2] 23 (0, 0)) (by (with_reducible repeat first | refine blk_drewN ?_ _ | refine blk_drew ?_ | refine blk_alloc ?_ _); exact B481.out) hb)
              have n3_ := Aside0.mk (below_step (by repeat (first | (with_reducible first | exact HB.out | apply below_alloc | apply pw_below_drewN | apply below_drew1 | refine below_set ?_ GE474.out | refine below_set ?_ GE475.out | refine below_set ?_ GE481.out) | exact HB.out)) hb)
              clear B474
              clear B475
              clear B481
              clear HB
              have B474 := n0_
              have B475 := n1_
              have B481 := n2_
              have HB := n3_
              clear n0_ n1_ n2_ n3_
              (try clear hb)
              (try clear hb2)
              (try clear hk)
              (try clear hi)
              refine hK.out _ _ ⟨bq_ B481 0, bq_ B481 1, bq_ B481 2, bq_ B481 3, ((HB.out.cell (World.block_lt_of_cell? w _ hw502_0)).trans hw502_0)⟩ (fun hL => ?_)
              clear hK K
              refine norm_ (a' := ?_) ?_ ?_
              rotate_left
              ·show Act.put _ (some 50) _ = _
               simp only [Act.put, sa_, sb_, sc_, i64_w, i32_w]
               rfl
              refine pure_ (i := 12) (N := some 51) (v := ?_) (a' := ?_) z7_13_ rfl rfl (any_of T_.out (by kernel_rfl)) (fun _ _ _ h => h) (Or.inl ⟨by rfl, ?_⟩) ?_ ?_
              rotate_left; · intro w'; go_simp; with_reducible rfl
              rotate_left; · simp only [Act.put, sa_, sb_, sc_, i64_w, i32_w]; rfl
              refine last_ (i := 13) (N := none) z7_14_ rfl rfl (one_of T_.out (by kernel_rfl)) (by decide) (fun K hK => ?_)
              have hs72 : w71.cell? ⟨g481, 2, none⟩ = some (.int .u64 x482002_2) := bq_ B481 2
              have hfs72 := blk_frozen B481.out 2
              have hns72_0 := NB474_481.out
              have hns72_1 := NB475_481.out
              have hms72_0 := NB481_474.out
              have hms72_1 := NB481_475.out
              refine skip_ (w1 := ?_) (by rfl) rfl ?_ ?_
              rotate_left
              ·go_simp
               rfl
              refine hK.out _ _ ?_
              clear hK K
              refine done_ (done_of T_.out (by kernel_rfl)) ?_
              try go_wp2
              go_roundg k2
              case measure => have := HJ8.out; have := HK2.out; omega
              case rel => exact ⟨(wrap64 (x11_2 + 1)), (x482000_2), (x482001_2), (t503), (x482003_2), (by first | rfl | (simp; done) | (simp [*]; done) | (simp; rfl) | (simp; decide +kernel)), H', ⟨by have := HJ8.out; have := HK2.out; omega⟩, ⟨by (with_reducible repeat first | refine blk_drewN ?_ _ | refine blk_drew ?_ | refine blk_alloc ?_ _); refine blk_far ?_ NB474_481.out _; (with_reducible repeat first | refine blk_drewN ?_ _ | refine blk_drew ?_ | refine blk_alloc ?_ _); exact B474.out⟩, ⟨by (with_reducible repeat first | refine blk_drewN ?_ _ | refine blk_drew ?_ | refine blk_alloc ?_ _); refine blk_far ?_ NB475_481.out _; (with_reducible repeat first | refine blk_drewN ?_ _ | refine blk_drew ?_ | refine blk_alloc ?_ _); exact B475.out⟩, ⟨by (with_reducible repeat first | refine blk_drewN ?_ _ | refine blk_drew ?_ | refine blk_alloc ?_ _); refine blk_put (cs := #[.int .u64 x482000_2, .int .u64 x482001_2, .int .u64 x482002_2, .int .u64 x482003_2]) ?_ 2 _ rfl; (with_reducible repeat first | refine blk_drewN ?_ _ | refine blk_drew ?_ | refine blk_alloc ?_ _); exact B481.out⟩, ⟨by repeat (first | (with_reducible first | exact HB.out | apply below_alloc | apply pw_below_drewN | apply below_drew1 | refine below_set ?_ GE474.out | refine below_set ?_ GE475.out | refine below_set ?_ GE481.out) | exact HB.out)⟩⟩
            ·rw [if_neg c58] at H
             exact absurd H (by simp)
           ·rw [if_neg c57] at H
            by_cases c73 : (ji26) = 3
            ·rw [if_pos c73] at H
             subst c73
             by_cases c74 : 0 ≤ x11_2
             ·rw [if_pos c74] at H
              have c74b0 : decide (0 ≤ x11_2) = true := decide_eq_true c74
              clear c74
              replace H := Option.bind_eq_some_iff.mp H
              obtain ⟨t509, A750, H⟩ := H
              replace H : (if (wrap64 (x11_2 + 1)) = (y476.length : Int) then ((sponge_Perm.f (wrap64 (Int.tmod a0 4)) x482000_2 x482001_2 x482002_2 t509).bind fun bt510 => (attestorlaw06_SpongeSteps.l0 k2 y476 (wrap64 (Int.tmod a0 4)) (wrap64 (x11_2 + 1)) a2_0 a2_1 a3_0 a3_1 bt510.1 bt510.2.1 bt510.2.2.1 bt510.2.2.2)) else (attestorlaw06_SpongeSteps.l0 k2 y476 (wrap64 (Int.tmod a0 4)) (wrap64 (x11_2 + 1)) a2_0 a2_1 a3_0 a3_1 x482000_2 x482001_2 x482002_2 t509)) = some r := H
              have A75 := Aside0.mk A750
              clear A750
              by_cases c76 : (wrap64 (x11_2 + 1)) = (y476.length : Int)
              ·rw [if_pos c76] at H
               have c76b0 : ((wrap64 (x11_2 + 1)) == (y476.length : Int)) = true := beq_iff_eq.mpr c76
               have c76b1 : ((wrap64 (x11_2 + 1)) != (y476.length : Int)) = false := bne_eq_false_iff_eq.mpr c76
               clear c76
               replace H := Option.bind_eq_some_iff.mp H
               obtain ⟨⟨t510, t511, t512, t513⟩, A770, H⟩ := H
               replace H : (attestorlaw06_SpongeSteps.l0 k2 y476 (wrap64 (Int.tmod a0 4)) (wrap64 (x11_2 + 1)) a2_0 a2_1 a3_0 a3_1 t510 t511 t512 t513) = some r := H
               have A77 := Aside0.mk A770
               clear A770
               have H' := Aside0.mk H
               clear H
               try go_wp2
               have n0_ := Aside0.mk (blk_drew B474.out)
               have n1_ := Aside0.mk (blk_drew B475.out)
               have n2_ := Aside0.mk (blk_drew B481.out)
               have n3_ := Aside0.mk (below_drew1 HB.out)
               clear B474
               clear B475
               clear B481
               clear HB
               have B474 := n0_
               have B475 := n1_
               have B481 := n2_
               have HB := n3_
               clear n0_ n1_ n2_ n3_
               have p508 : 0 ≤ (x11_2 : Int) := of_decide_eq_true (by first | (with_reducible assumption) | assumption)
               have q508 : x11_2 < (y476.length : Int) := of_decide_eq_true (by first | (with_reducible assumption) | assumption)
               obtain ⟨ad508, e508, hx508_0⟩ := Kd.at_int HR479.out x11_2 p508 q508
               have hw508_0 := hx508_0
               cases e508
               replace hx508_0 := (HB.out.cell (World.block_lt_of_cell? w _ hx508_0)).trans hx508_0
               replace p508 := eq_true p508
               replace q508 := eq_true q508
               refine start_ (n := 14) (S := fun w' => w'.cell? ⟨g481, 0, none⟩ = some (.int .u64 x482000_2) ∧ w'.cell? ⟨g481, 1, none⟩ = some (.int .u64 x482001_2) ∧ w'.cell? ⟨g481, 2, none⟩ = some (.int .u64 x482002_2) ∧ w'.cell? ⟨g481, 3, none⟩ = some (.int .u64 x482003_2) ∧ w'.cell? (ad508.add (x11_2).toNat) = some (.int .u64 (rd y476 x11_2))) (ds := [13]) z7_0_ (by kernel_rfl) rfl rfl ⟨bq_ B481 0, bq_ B481 1, bq_ B481 2, bq_ B481 3, ((HB.out.cell (World.block_lt_of_cell? w _ hw508_0)).trans hw508_0)⟩ (fun hL => ?_); refine with_tabW attestorlaw06_SpongeSteps.tab9 attestorlaw06_SpongeSteps.bits9 (fun T_ W_ => ?_)
               generalize wr.drew = w78 at B474 B475 B481 HB hx508_0 hL ⊢
               refine pure_ (i := 0) (N := some 39) (v := ?_) (a' := ?_) z7_1_ rfl rfl (any_of T_.out (by kernel_rfl)) (fun _ _ _ h => h) (Or.inl ⟨by rfl, ?_⟩) ?_ ?_
               rotate_left; · intro w'; go_simp; with_reducible rfl
               rotate_left; · simp only [Act.put, sa_, sb_, sc_, i64_w, i32_w]; rfl
               refine pure_ (i := 1) (N := some 40) (v := ?_) (a' := ?_) z7_2_ rfl rfl (any_of T_.out (by kernel_rfl)) (fun _ _ _ h => h) (Or.inl ⟨by rfl, ?_⟩) ?_ ?_
               rotate_left; · intro w'; go_simp; with_reducible rfl
               rotate_left; · simp only [Act.put, sa_, sb_, sc_, i64_w, i32_w]; rfl
               refine pure_ (i := 2) (N := some 41) (v := ?_) (a' := ?_) z7_3_ rfl rfl (any_of T_.out (by kernel_rfl)) (fun _ _ _ h => h) (Or.inl ⟨by rfl, ?_⟩) ?_ ?_
               rotate_left; · intro w'; go_simp; with_reducible rfl
               rotate_left; · simp only [Act.put, sa_, sb_, sc_, i64_w, i32_w]; rfl
               refine pure_ (i := 3) (N := some 42) (v := ?_) (a' := ?_) z7_4_ rfl rfl (any_of T_.out (by kernel_rfl)) (fun _ _ _ h => h) (Or.inl ⟨by rfl, ?_⟩) ?_ ?_
               rotate_left; · intro w'; go_simp; with_reducible rfl
               rotate_left; · simp only [Act.put, sa_, sb_, sc_, i64_w, i32_w]; rfl
               refine pure_ (i := 4) (N := some 43) (v := ?_) (a' := ?_) z7_5_ rfl rfl (any_of T_.out (by kernel_rfl)) (fun _ _ _ h => h) (Or.inl ⟨by rfl, ?_⟩) ?_ ?_
               rotate_left; · intro w'; go_simp; with_reducible rfl
               rotate_left; · simp only [Act.put, sa_, sb_, sc_, i64_w, i32_w]; rfl
               refine pure_ (i := 5) (N := some 44) (v := ?_) (a' := ?_) z7_6_ rfl rfl (any_of T_.out (by kernel_rfl)) (fun _ _ _ h => h) (Or.inl ⟨by rfl, ?_⟩) ?_ ?_
               rotate_left; · intro w'; go_simp; with_reducible rfl
               rotate_left; · simp only [Act.put, sa_, sb_, sc_, i64_w, i32_w]; rfl
               refine pure_ (i := 7) (N := some 46) (v := ?_) (a' := ?_) z7_7_ rfl rfl (any_of T_.out (by kernel_rfl)) (fun _ _ _ h => h) (Or.inl ⟨by rfl, ?_⟩) ?_ ?_
               rotate_left; · intro w'; go_simp; with_reducible rfl
               rotate_left; · simp only [Act.put, sa_, sb_, sc_, i64_w, i32_w]; rfl
               refine pure_ (i := 8) (N := some 47) (v := ?_) (a' := ?_) z7_8_ rfl rfl (any_of T_.out (by kernel_rfl)) (fun _ _ _ h => h) (Or.inl ⟨by rfl, ?_⟩) ?_ ?_
               rotate_left; · intro w'; go_simp; with_reducible rfl
               rotate_left; · simp only [Act.put, sa_, sb_, sc_, i64_w, i32_w]; rfl
               refine pure_ (i := 9) (N := some 48) (v := ?_) (a' := ?_) z7_9_ rfl rfl (any_of T_.out (by kernel_rfl)) (fun _ _ _ h => h) (Or.inl ⟨by rfl, ?_⟩) ?_ ?_
               rotate_left; · intro w'; go_simp; with_reducible rfl
               rotate_left; · simp only [Act.put, sa_, sb_, sc_, i64_w, i32_w]; rfl
               refine take_ (i := 6) (N := some 45) (v := ?_) (a' := ?_) z7_10_ rfl rfl (take_ofW T_.out W_.out (by kernel_rfl)) (fun _ _ _ h => h) (Or.inl ⟨by rfl, ?_⟩) hL ?_ ?_
               rotate_left
               ·rintro w' ⟨s0, s1, s2, s3, s4⟩
                go_simp
                with_reducible rfl
               rotate_left
               ·simp only [Act.put, sa_, sb_, sc_, i64_w, i32_w]
                rfl
               refine take_ (i := 10) (N := some 49) (v := ?_) (a' := ?_) z7_11_ rfl rfl (take_ofW T_.out W_.out (by kernel_rfl)) (fun _ _ _ h => h) (Or.inl ⟨by rfl, ?_⟩) hL ?_ ?_
               rotate_left
               ·rintro w' ⟨s0, s1, s2, s3, s4⟩
                go_simp
                with_reducible rfl
               rotate_left
               ·simp only [Act.put, sa_, sb_, sc_, i64_w, i32_w]
                rfl
               refine one_ (i := 11) (N := some 50) z7_12_ rfl rfl (one_of T_.out (by kernel_rfl)) (by decide) (fun K hK => ?_)
               refine goes_ Tryd.func23 (by kernel_rfl) rfl #[.int .i64 (wrap64 (Int.tmod a0 4)), .int .u64 x482003_2, .int .u64 (rd y476 x11_2)] (by rfl) rfl rfl (by (try simp only [List.map_toArray, List.map_cons, List.map_nil]); first | done | rfl) ?_
               with_reducible refine (field_Add.calls (wrap64 (Int.tmod a0 4)) x482003_2 (rd y476 x11_2) t509 _ ?side1 A75.out).mono ?_
               (case side1 => repeat (first | exact (GL.below HRG.out HB.out) | (with_reducible refine GL.alloc ?_ _) | (with_reducible refine GL.drewN ?_ _) | (with_reducible refine GL.drew ?_)))
               rintro e w79 ⟨rfl, hb⟩
               refine ⟨_, rfl, ?_⟩
               have n0_ := Aside0.mk (blk_below (g := g474) (o := .cells #[.int .u64 a2_0, .int .u64 a2_1] 30 (0, 0)) (by (with_reducible repeat first | refine blk_drewN ?_ _ | refine blk_drew ?_ | refine blk_alloc ?_ _); exact B474.out) hb)
               have n1_ := Aside0.mk (blk_below (g := g475) (o := .cells #[.int .u64 a3_0, .int .u64 a3_1] 30 (0, 0)) (by (with_reducible repeat first | refine blk_drewN ?_ _ | refine blk_drew ?_ | refine blk_alloc ?_ _); exact B475.out) hb)
               have n2_ := Aside0.mk (blk_below (g := g481) (o := .cells #[.int .u64 x482000_2, .int .u64 x482001_2, .int .u64 x482002_2, .int .u64 x482003_2] 23 (0, 0)) (by (with_reducible repeat first | refine blk_drewN ?_ _ | refine blk_drew ?_ | refine blk_alloc ?_ _); exact B481.out) hb)
               have n3_ := Aside0.mk (below_step (by repeat (first | (with_reducible first | exact HB.out | apply below_alloc | apply pw_below_drewN | apply below_drew1 | refine below_set ?_ GE474.out | refine below_set ?_ GE475.out | refine below_set ?_ GE481.out) | exact HB.out)) hb)
               clear B474
               clear B475
               clear B481
               clear HB
               have B474 := n0_
               have B475 := n1_
               have B481 := n2_
               have HB := n3_
               clear n0_ n1_ n2_ n3_
               (try clear hb)
               (try clear hb2)
               (try clear hk)
               (try clear hi)
               refine hK.out _ _ ⟨bq_ B481 0, bq_ B481 1, bq_ B481 2, bq_ B481 3, ((HB.out.cell (World.block_lt_of_cell? w _ hw508_0)).trans hw508_0)⟩ (fun hL => ?_)
               clear hK K
               refine norm_ (a' := ?_) ?_ ?_
               rotate_left
               ·show Act.put _ (some 50) _ = _
                simp only [Act.put, sa_, sb_, sc_, i64_w, i32_w]
                rfl
               refine pure_ (i := 12) (N := some 51) (v := ?_) (a' := ?_) z7_13_ rfl rfl (any_of T_.out (by kernel_rfl)) (fun _ _ _ h => h) (Or.inl ⟨by rfl, ?_⟩) ?_ ?_
               rotate_left; · intro w'; go_simp; with_reducible rfl
               rotate_left; · simp only [Act.put, sa_, sb_, sc_, i64_w, i32_w]; rfl
               refine last_ (i := 13) (N := none) z7_14_ rfl rfl (one_of T_.out (by kernel_rfl)) (by decide) (fun K hK => ?_)
               have hs80 : w79.cell? ⟨g481, 3, none⟩ = some (.int .u64 x482003_2) := bq_ B481 3
               have hfs80 := blk_frozen B481.out 3
               have hns80_0 := NB474_481.out
               have hns80_1 := NB475_481.out
               have hms80_0 := NB481_474.out
               have hms80_1 := NB481_475.out
               refine skip_ (w1 := ?_) (by rfl) rfl ?_ ?_
               rotate_left
               ·go_simp
                rfl
               refine hK.out _ _ ?_
               clear hK K
               refine done_ (done_of T_.out (by kernel_rfl)) ?_
               have hnb81 := NB481_474.out
               have hnc81 := NB474_481.out
               have hnb82 := NB481_475.out
               have hnc82 := NB475_481.out
               have hcz83_0 : w79.cell? ⟨g481, 0, none⟩ = some (.int .u64 x482000_2) := bq_ B481 0
               have hcz83_1 : w79.cell? ⟨g481, 1, none⟩ = some (.int .u64 x482001_2) := bq_ B481 1
               have hcz83_2 : w79.cell? ⟨g481, 2, none⟩ = some (.int .u64 x482002_2) := bq_ B481 2
               have hcz83_3 : w79.cell? ⟨g481, 3, none⟩ = some (.int .u64 x482003_2) := bq_ B481 3
               have hfz83_0 := blk_frozen B481.out 0
               have hfz83_1 := blk_frozen B481.out 1
               have hfz83_2 := blk_frozen B481.out 2
               have hfz83_3 := blk_frozen B481.out 3
               try go_wp2_with (first | ((with_reducible refine gate_callee (f := 19) rfl ?_); refine goesL_ (some 64) rfl rfl Tryd.func19 (by kernel_rfl) rfl #[.int .i64 (wrap64 (Int.tmod a0 4)), .agg #[.int .u64 x482000_2, .int .u64 x482001_2, .int .u64 x482002_2, .int .u64 t509]] rfl (by (try simp only [List.map_toArray, List.map_cons, List.map_nil]); first | done | rfl) ?_; (with_reducible refine (sponge_Perm.calls (wrap64 (Int.tmod a0 4)) x482000_2 x482001_2 x482002_2 t509 t510 t511 t512 t513 _ ?side1 A77.out).mono ?_); (case side1 => exact GL.below HRG.out (by repeat (first | (with_reducible first | exact HB.out | apply below_alloc | apply pw_below_drewN | apply below_drew1 | refine below_set ?_ GE474.out | refine below_set ?_ GE475.out | refine below_set ?_ GE481.out) | exact HB.out))); rintro e w84 ⟨rfl, hb⟩; refine ⟨_, rfl, ?_⟩; have n0_ := Aside0.mk (blk_below (g := g474) (o := .cells #[.int .u64 a2_0, .int .u64 a2_1] 30 (0, 0)) (by (with_reducible repeat first | refine blk_drewN ?_ _ | refine blk_drew ?_ | refine blk_alloc ?_ _); refine blk_far ?_ NB474_481.out _; (with_reducible repeat first | refine blk_drewN ?_ _ | refine blk_drew ?_ | refine blk_alloc ?_ _); exact B474.out) hb); have n1_ := Aside0.mk (blk_below (g := g475) (o := .cells #[.int .u64 a3_0, .int .u64 a3_1] 30 (0, 0)) (by (with_reducible repeat first | refine blk_drewN ?_ _ | refine blk_drew ?_ | refine blk_alloc ?_ _); refine blk_far ?_ NB475_481.out _; (with_reducible repeat first | refine blk_drewN ?_ _ | refine blk_drew ?_ | refine blk_alloc ?_ _); exact B475.out) hb); have n2_ := Aside0.mk (blk_below (g := g481) (o := .cells #[.int .u64 x482000_2, .int .u64 x482001_2, .int .u64 x482002_2, .int .u64 t509] 23 (0, 0)) (by (with_reducible repeat first | refine blk_drewN ?_ _ | refine blk_drew ?_ | refine blk_alloc ?_ _); refine blk_put (cs := #[.int .u64 x482000_2, .int .u64 x482001_2, .int .u64 x482002_2, .int .u64 x482003_2]) ?_ 3 _ rfl; (with_reducible repeat first | refine blk_drewN ?_ _ | refine blk_drew ?_ | refine blk_alloc ?_ _); exact B481.out) hb); have n3_ := Aside0.mk (below_step (by repeat (first | (with_reducible first | exact HB.out | apply below_alloc | apply pw_below_drewN | apply below_drew1 | refine below_set ?_ GE474.out | refine below_set ?_ GE475.out | refine below_set ?_ GE481.out) | exact HB.out)) hb); clear B474; clear B475; clear B481; clear HB; have B474 := n0_; have B475 := n1_; have B481 := n2_; have HB := n3_; clear n0_ n1_ n2_ n3_; (try clear hb); (try clear hb2); (try clear hk); (try clear hi); have hcz85_0 : w84.cell? ⟨g481, 0, none⟩ = some (.int .u64 x482000_2) := bq_ B481 0; have hcz85_1 : w84.cell? ⟨g481, 1, none⟩ = some (.int .u64 x482001_2) := bq_ B481 1; have hcz85_2 : w84.cell? ⟨g481, 2, none⟩ = some (.int .u64 x482002_2) := bq_ B481 2; have hcz85_3 : w84.cell? ⟨g481, 3, none⟩ = some (.int .u64 t509) := bq_ B481 3; have hfz85_0 := blk_frozen B481.out 0; have hfz85_1 := blk_frozen B481.out 1; have hfz85_2 := blk_frozen B481.out 2; have hfz85_3 := blk_frozen B481.out 3))
               go_roundg k2
               case measure => have := HJ8.out; have := HK2.out; omega
               case rel => exact ⟨(wrap64 (x11_2 + 1)), (t510), (t511), (t512), (t513), (by first | rfl | (simp; done) | (simp [*]; done) | (simp; rfl) | (simp; decide +kernel)), H', ⟨by have := HJ8.out; have := HK2.out; omega⟩, ⟨by (with_reducible repeat first | refine blk_drewN ?_ _ | refine blk_drew ?_ | refine blk_alloc ?_ _); refine blk_far ?_ NB474_481.out _; (with_reducible repeat first | refine blk_drewN ?_ _ | refine blk_drew ?_ | refine blk_alloc ?_ _); refine blk_far ?_ NB474_481.out _; (with_reducible repeat first | refine blk_drewN ?_ _ | refine blk_drew ?_ | refine blk_alloc ?_ _); refine blk_far ?_ NB474_481.out _; (with_reducible repeat first | refine blk_drewN ?_ _ | refine blk_drew ?_ | refine blk_alloc ?_ _); refine blk_far ?_ NB474_481.out _; (with_reducible repeat first | refine blk_drewN ?_ _ | refine blk_drew ?_ | refine blk_alloc ?_ _); exact B474.out⟩, ⟨by (with_reducible repeat first | refine blk_drewN ?_ _ | refine blk_drew ?_ | refine blk_alloc ?_ _); refine blk_far ?_ NB475_481.out _; (with_reducible repeat first | refine blk_drewN ?_ _ | refine blk_drew ?_ | refine blk_alloc ?_ _); refine blk_far ?_ NB475_481.out _; (with_reducible repeat first | refine blk_drewN ?_ _ | refine blk_drew ?_ | refine blk_alloc ?_ _); refine blk_far ?_ NB475_481.out _; (with_reducible repeat first | refine blk_drewN ?_ _ | refine blk_drew ?_ | refine blk_alloc ?_ _); refine blk_far ?_ NB475_481.out _; (with_reducible repeat first | refine blk_drewN ?_ _ | refine blk_drew ?_ | refine blk_alloc ?_ _); exact B475.out⟩, ⟨by (with_reducible repeat first | refine blk_drewN ?_ _ | refine blk_drew ?_ | refine blk_alloc ?_ _); refine blk_put (cs := #[.int .u64 t510, .int .u64 t511, .int .u64 t512, .int .u64 t509]) ?_ 3 _ rfl; (with_reducible repeat first | refine blk_drewN ?_ _ | refine blk_drew ?_ | refine blk_alloc ?_ _); refine blk_put (cs := #[.int .u64 t510, .int .u64 t511, .int .u64 x482002_2, .int .u64 t509]) ?_ 2 _ rfl; (with_reducible repeat first | refine blk_drewN ?_ _ | refine blk_drew ?_ | refine blk_alloc ?_ _); refine blk_put (cs := #[.int .u64 t510, .int .u64 x482001_2, .int .u64 x482002_2, .int .u64 t509]) ?_ 1 _ rfl; (with_reducible repeat first | refine blk_drewN ?_ _ | refine blk_drew ?_ | refine blk_alloc ?_ _); refine blk_put (cs := #[.int .u64 x482000_2, .int .u64 x482001_2, .int .u64 x482002_2, .int .u64 t509]) ?_ 0 _ rfl; (with_reducible repeat first | refine blk_drewN ?_ _ | refine blk_drew ?_ | refine blk_alloc ?_ _); exact B481.out⟩, ⟨by repeat (first | (with_reducible first | exact HB.out | apply below_alloc | apply pw_below_drewN | apply below_drew1 | refine below_set ?_ GE474.out | refine below_set ?_ GE475.out | refine below_set ?_ GE481.out) | exact HB.out)⟩⟩
              ·rw [if_neg c76] at H
               have c76b0 : ((wrap64 (x11_2 + 1)) == (y476.length : Int)) = false := beq_eq_false_iff_ne.mpr c76
               have c76b1 : ((wrap64 (x11_2 + 1)) != (y476.length : Int)) = true := bne_iff_ne.mpr c76
               have H' := Aside0.mk H
               clear H
               try go_wp2
               have n0_ := Aside0.mk (blk_drew B474.out)
               have n1_ := Aside0.mk (blk_drew B475.out)
               have n2_ := Aside0.mk (blk_drew B481.out)
               have n3_ := Aside0.mk (below_drew1 HB.out)
               clear B474
               clear B475
               clear B481
               clear HB
               have B474 := n0_
               have B475 := n1_
               have B481 := n2_
               have HB := n3_
               clear n0_ n1_ n2_ n3_
               have p508 : 0 ≤ (x11_2 : Int) := of_decide_eq_true (by first | (with_reducible assumption) | assumption)
               have q508 : x11_2 < (y476.length : Int) := of_decide_eq_true (by first | (with_reducible assumption) | assumption)
               obtain ⟨ad508, e508, hx508_0⟩ := Kd.at_int HR479.out x11_2 p508 q508
               have hw508_0 := hx508_0
               cases e508
               replace hx508_0 := (HB.out.cell (World.block_lt_of_cell? w _ hx508_0)).trans hx508_0
               replace p508 := eq_true p508
               replace q508 := eq_true q508
               refine start_ (n := 14) (S := fun w' => w'.cell? ⟨g481, 0, none⟩ = some (.int .u64 x482000_2) ∧ w'.cell? ⟨g481, 1, none⟩ = some (.int .u64 x482001_2) ∧ w'.cell? ⟨g481, 2, none⟩ = some (.int .u64 x482002_2) ∧ w'.cell? ⟨g481, 3, none⟩ = some (.int .u64 x482003_2) ∧ w'.cell? (ad508.add (x11_2).toNat) = some (.int .u64 (rd y476 x11_2))) (ds := [13]) z7_0_ (by kernel_rfl) rfl rfl ⟨bq_ B481 0, bq_ B481 1, bq_ B481 2, bq_ B481 3, ((HB.out.cell (World.block_lt_of_cell? w _ hw508_0)).trans hw508_0)⟩ (fun hL => ?_); refine with_tabW attestorlaw06_SpongeSteps.tab9 attestorlaw06_SpongeSteps.bits9 (fun T_ W_ => ?_)
               generalize wr.drew = w86 at B474 B475 B481 HB hx508_0 hL ⊢
               refine pure_ (i := 0) (N := some 39) (v := ?_) (a' := ?_) z7_1_ rfl rfl (any_of T_.out (by kernel_rfl)) (fun _ _ _ h => h) (Or.inl ⟨by rfl, ?_⟩) ?_ ?_
               rotate_left; · intro w'; go_simp; with_reducible rfl
               rotate_left; · simp only [Act.put, sa_, sb_, sc_, i64_w, i32_w]; rfl
               refine pure_ (i := 1) (N := some 40) (v := ?_) (a' := ?_) z7_2_ rfl rfl (any_of T_.out (by kernel_rfl)) (fun _ _ _ h => h) (Or.inl ⟨by rfl, ?_⟩) ?_ ?_
               rotate_left; · intro w'; go_simp; with_reducible rfl
               rotate_left; · simp only [Act.put, sa_, sb_, sc_, i64_w, i32_w]; rfl
               refine pure_ (i := 2) (N := some 41) (v := ?_) (a' := ?_) z7_3_ rfl rfl (any_of T_.out (by kernel_rfl)) (fun _ _ _ h => h) (Or.inl ⟨by rfl, ?_⟩) ?_ ?_
               rotate_left; · intro w'; go_simp; with_reducible rfl
               rotate_left; · simp only [Act.put, sa_, sb_, sc_, i64_w, i32_w]; rfl
               refine pure_ (i := 3) (N := some 42) (v := ?_) (a' := ?_) z7_4_ rfl rfl (any_of T_.out (by kernel_rfl)) (fun _ _ _ h => h) (Or.inl ⟨by rfl, ?_⟩) ?_ ?_
               rotate_left; · intro w'; go_simp; with_reducible rfl
               rotate_left; · simp only [Act.put, sa_, sb_, sc_, i64_w, i32_w]; rfl
               refine pure_ (i := 4) (N := some 43) (v := ?_) (a' := ?_) z7_5_ rfl rfl (any_of T_.out (by kernel_rfl)) (fun _ _ _ h => h) (Or.inl ⟨by rfl, ?_⟩) ?_ ?_
               rotate_left; · intro w'; go_simp; with_reducible rfl
               rotate_left; · simp only [Act.put, sa_, sb_, sc_, i64_w, i32_w]; rfl
               refine pure_ (i := 5) (N := some 44) (v := ?_) (a' := ?_) z7_6_ rfl rfl (any_of T_.out (by kernel_rfl)) (fun _ _ _ h => h) (Or.inl ⟨by rfl, ?_⟩) ?_ ?_
               rotate_left; · intro w'; go_simp; with_reducible rfl
               rotate_left; · simp only [Act.put, sa_, sb_, sc_, i64_w, i32_w]; rfl
               refine pure_ (i := 7) (N := some 46) (v := ?_) (a' := ?_) z7_7_ rfl rfl (any_of T_.out (by kernel_rfl)) (fun _ _ _ h => h) (Or.inl ⟨by rfl, ?_⟩) ?_ ?_
               rotate_left; · intro w'; go_simp; with_reducible rfl
               rotate_left; · simp only [Act.put, sa_, sb_, sc_, i64_w, i32_w]; rfl
               refine pure_ (i := 8) (N := some 47) (v := ?_) (a' := ?_) z7_8_ rfl rfl (any_of T_.out (by kernel_rfl)) (fun _ _ _ h => h) (Or.inl ⟨by rfl, ?_⟩) ?_ ?_
               rotate_left; · intro w'; go_simp; with_reducible rfl
               rotate_left; · simp only [Act.put, sa_, sb_, sc_, i64_w, i32_w]; rfl
               refine pure_ (i := 9) (N := some 48) (v := ?_) (a' := ?_) z7_9_ rfl rfl (any_of T_.out (by kernel_rfl)) (fun _ _ _ h => h) (Or.inl ⟨by rfl, ?_⟩) ?_ ?_
               rotate_left; · intro w'; go_simp; with_reducible rfl
               rotate_left; · simp only [Act.put, sa_, sb_, sc_, i64_w, i32_w]; rfl
               refine take_ (i := 6) (N := some 45) (v := ?_) (a' := ?_) z7_10_ rfl rfl (take_ofW T_.out W_.out (by kernel_rfl)) (fun _ _ _ h => h) (Or.inl ⟨by rfl, ?_⟩) hL ?_ ?_
               rotate_left
               ·rintro w' ⟨s0, s1, s2, s3, s4⟩
                go_simp
                with_reducible rfl
               rotate_left
               ·simp only [Act.put, sa_, sb_, sc_, i64_w, i32_w]
                rfl
               refine take_ (i := 10) (N := some 49) (v := ?_) (a' := ?_) z7_11_ rfl rfl (take_ofW T_.out W_.out (by kernel_rfl)) (fun _ _ _ h => h) (Or.inl ⟨by rfl, ?_⟩) hL ?_ ?_
               rotate_left
               ·rintro w' ⟨s0, s1, s2, s3, s4⟩
                go_simp
                with_reducible rfl
               rotate_left
               ·simp only [Act.put, sa_, sb_, sc_, i64_w, i32_w]
                rfl
               refine one_ (i := 11) (N := some 50) z7_12_ rfl rfl (one_of T_.out (by kernel_rfl)) (by decide) (fun K hK => ?_)
               refine goes_ Tryd.func23 (by kernel_rfl) rfl #[.int .i64 (wrap64 (Int.tmod a0 4)), .int .u64 x482003_2, .int .u64 (rd y476 x11_2)] (by rfl) rfl rfl (by (try simp only [List.map_toArray, List.map_cons, List.map_nil]); first | done | rfl) ?_
               with_reducible refine (field_Add.calls (wrap64 (Int.tmod a0 4)) x482003_2 (rd y476 x11_2) t509 _ ?side1 A75.out).mono ?_
               (case side1 => repeat (first | exact (GL.below HRG.out HB.out) | (with_reducible refine GL.alloc ?_ _) | (with_reducible refine GL.drewN ?_ _) | (with_reducible refine GL.drew ?_)))
               rintro e w87 ⟨rfl, hb⟩
               refine ⟨_, rfl, ?_⟩
               have n0_ := Aside0.mk (blk_below (g := g474) (o := .cells #[.int .u64 a2_0, .int .u64 a2_1] 30 (0, 0)) (by (with_reducible repeat first | refine blk_drewN ?_ _ | refine blk_drew ?_ | refine blk_alloc ?_ _); exact B474.out) hb)
               have n1_ := Aside0.mk (blk_below (g := g475) (o := .cells #[.int .u64 a3_0, .int .u64 a3_1] 30 (0, 0)) (by (with_reducible repeat first | refine blk_drewN ?_ _ | refine blk_drew ?_ | refine blk_alloc ?_ _); exact B475.out) hb)
               have n2_ := Aside0.mk (blk_below (g := g481) (o := .cells #[.int .u64 x482000_2, .int .u64 x482001_2, .int .u64 x482002_2, .int .u64 x482003_2] 23 (0, 0)) (by (with_reducible repeat first | refine blk_drewN ?_ _ | refine blk_drew ?_ | refine blk_alloc ?_ _); exact B481.out) hb)
               have n3_ := Aside0.mk (below_step (by repeat (first | (with_reducible first | exact HB.out | apply below_alloc | apply pw_below_drewN | apply below_drew1 | refine below_set ?_ GE474.out | refine below_set ?_ GE475.out | refine below_set ?_ GE481.out) | exact HB.out)) hb)
               clear B474
               clear B475
               clear B481
               clear HB
               have B474 := n0_
               have B475 := n1_
               have B481 := n2_
               have HB := n3_
               clear n0_ n1_ n2_ n3_
               (try clear hb)
               (try clear hb2)
               (try clear hk)
               (try clear hi)
               refine hK.out _ _ ⟨bq_ B481 0, bq_ B481 1, bq_ B481 2, bq_ B481 3, ((HB.out.cell (World.block_lt_of_cell? w _ hw508_0)).trans hw508_0)⟩ (fun hL => ?_)
               clear hK K
               refine norm_ (a' := ?_) ?_ ?_
               rotate_left
               ·show Act.put _ (some 50) _ = _
                simp only [Act.put, sa_, sb_, sc_, i64_w, i32_w]
                rfl
               refine pure_ (i := 12) (N := some 51) (v := ?_) (a' := ?_) z7_13_ rfl rfl (any_of T_.out (by kernel_rfl)) (fun _ _ _ h => h) (Or.inl ⟨by rfl, ?_⟩) ?_ ?_
               rotate_left; · intro w'; go_simp; with_reducible rfl
               rotate_left; · simp only [Act.put, sa_, sb_, sc_, i64_w, i32_w]; rfl
               refine last_ (i := 13) (N := none) z7_14_ rfl rfl (one_of T_.out (by kernel_rfl)) (by decide) (fun K hK => ?_)
               have hs88 : w87.cell? ⟨g481, 3, none⟩ = some (.int .u64 x482003_2) := bq_ B481 3
               have hfs88 := blk_frozen B481.out 3
               have hns88_0 := NB474_481.out
               have hns88_1 := NB475_481.out
               have hms88_0 := NB481_474.out
               have hms88_1 := NB481_475.out
               refine skip_ (w1 := ?_) (by rfl) rfl ?_ ?_
               rotate_left
               ·go_simp
                rfl
               refine hK.out _ _ ?_
               clear hK K
               refine done_ (done_of T_.out (by kernel_rfl)) ?_
               try go_wp2
               go_roundg k2
               case measure => have := HJ8.out; have := HK2.out; omega
               case rel => exact ⟨(wrap64 (x11_2 + 1)), (x482000_2), (x482001_2), (x482002_2), (t509), (by first | rfl | (simp; done) | (simp [*]; done) | (simp; rfl) | (simp; decide +kernel)), H', ⟨by have := HJ8.out; have := HK2.out; omega⟩, ⟨by (with_reducible repeat first | refine blk_drewN ?_ _ | refine blk_drew ?_ | refine blk_alloc ?_ _); refine blk_far ?_ NB474_481.out _; (with_reducible repeat first | refine blk_drewN ?_ _ | refine blk_drew ?_ | refine blk_alloc ?_ _); exact B474.out⟩, ⟨by (with_reducible repeat first | refine blk_drewN ?_ _ | refine blk_drew ?_ | refine blk_alloc ?_ _); refine blk_far ?_ NB475_481.out _; (with_reducible repeat first | refine blk_drewN ?_ _ | refine blk_drew ?_ | refine blk_alloc ?_ _); exact B475.out⟩, ⟨by (with_reducible repeat first | refine blk_drewN ?_ _ | refine blk_drew ?_ | refine blk_alloc ?_ _); refine blk_put (cs := #[.int .u64 x482000_2, .int .u64 x482001_2, .int .u64 x482002_2, .int .u64 x482003_2]) ?_ 3 _ rfl; (with_reducible repeat first | refine blk_drewN ?_ _ | refine blk_drew ?_ | refine blk_alloc ?_ _); exact B481.out⟩, ⟨by repeat (first | (with_reducible first | exact HB.out | apply below_alloc | apply pw_below_drewN | apply below_drew1 | refine below_set ?_ GE474.out | refine below_set ?_ GE475.out | refine below_set ?_ GE481.out) | exact HB.out)⟩⟩
             ·rw [if_neg c74] at H
              exact absurd H (by simp)
            ·rw [if_neg c73] at H
             exact absurd H (by simp)
        ·rw [if_neg c27] at H
         exact absurd H (by simp)
       ·rw [if_neg c25] at H
        have c25b0 : decide (x11_2 < (y476.length : Int)) = false := decide_eq_false c25
        clear c25
        replace H := Option.bind_eq_some_iff.mp H
        obtain ⟨⟨t514, t515, t516, t517⟩, A890, H⟩ := H
        replace H : ((sponge_Hash.f k2 (wrap64 (Int.tmod a0 4)) y476).bind fun bt519 => (if (bt519.1 == x482000_2 && (bt519.2 == x482001_2)) = true then ((sponge_Node.f (wrap64 (Int.tmod a0 4)) a2_0 a2_1 a3_0 a3_1).bind fun bt521 => ((field_Add.f (wrap64 (Int.tmod a0 4)) t514 a2_0).bind fun t523 => ((field_Add.f (wrap64 (Int.tmod a0 4)) t515 a2_1).bind fun t524 => (if (bt521.1 == t523 && (bt521.2 == t524)) = true then ((sponge_Hash.f k2 (wrap64 (Int.tmod a0 4)) ([] : List Int)).bind fun bt525 => ((sponge_Node.f (wrap64 (Int.tmod a0 4)) 0 0 0 0).bind fun bt527 => (if (bt525.1 == bt527.1 && (bt525.2 == bt527.2)) = true then ((attestorlaw06_lives.f k2).bind fun t529 => (some t529)) else (none)))) else (none))))) else (none))) = some r := H
        have A89 := Aside0.mk A890
        clear A890
        replace H := Option.bind_eq_some_iff.mp H
        obtain ⟨⟨t519, t520⟩, A900, H⟩ := H
        replace H : (if (t519 == x482000_2 && (t520 == x482001_2)) = true then ((sponge_Node.f (wrap64 (Int.tmod a0 4)) a2_0 a2_1 a3_0 a3_1).bind fun bt521 => ((field_Add.f (wrap64 (Int.tmod a0 4)) t514 a2_0).bind fun t523 => ((field_Add.f (wrap64 (Int.tmod a0 4)) t515 a2_1).bind fun t524 => (if (bt521.1 == t523 && (bt521.2 == t524)) = true then ((sponge_Hash.f k2 (wrap64 (Int.tmod a0 4)) ([] : List Int)).bind fun bt525 => ((sponge_Node.f (wrap64 (Int.tmod a0 4)) 0 0 0 0).bind fun bt527 => (if (bt525.1 == bt527.1 && (bt525.2 == bt527.2)) = true then ((attestorlaw06_lives.f k2).bind fun t529 => (some t529)) else (none)))) else (none))))) else (none)) = some r := H
        have A90 := Aside0.mk A900
        clear A900
        by_cases c91 : (t519 == x482000_2 && (t520 == x482001_2)) = true
        ·rw [if_pos c91] at H
         have c91b0 : (t519 == x482000_2 && (t520 == x482001_2)) = true := c91
         (try (have c91b1 : decide (t519 = x482000_2 && (t520 == x482001_2)) = true := by simpa using c91))
         (try (have c91b2 : (t519 == x482000_2 && (t520 == x482001_2)) = true := by simpa using c91))
         clear c91
         replace H := Option.bind_eq_some_iff.mp H
         obtain ⟨⟨t521, t522⟩, A920, H⟩ := H
         replace H : ((field_Add.f (wrap64 (Int.tmod a0 4)) t514 a2_0).bind fun t523 => ((field_Add.f (wrap64 (Int.tmod a0 4)) t515 a2_1).bind fun t524 => (if (t521 == t523 && (t522 == t524)) = true then ((sponge_Hash.f k2 (wrap64 (Int.tmod a0 4)) ([] : List Int)).bind fun bt525 => ((sponge_Node.f (wrap64 (Int.tmod a0 4)) 0 0 0 0).bind fun bt527 => (if (bt525.1 == bt527.1 && (bt525.2 == bt527.2)) = true then ((attestorlaw06_lives.f k2).bind fun t529 => (some t529)) else (none)))) else (none)))) = some r := H
         have A92 := Aside0.mk A920
         clear A920
         replace H := Option.bind_eq_some_iff.mp H
         obtain ⟨t523, A930, H⟩ := H
         replace H : ((field_Add.f (wrap64 (Int.tmod a0 4)) t515 a2_1).bind fun t524 => (if (t521 == t523 && (t522 == t524)) = true then ((sponge_Hash.f k2 (wrap64 (Int.tmod a0 4)) ([] : List Int)).bind fun bt525 => ((sponge_Node.f (wrap64 (Int.tmod a0 4)) 0 0 0 0).bind fun bt527 => (if (bt525.1 == bt527.1 && (bt525.2 == bt527.2)) = true then ((attestorlaw06_lives.f k2).bind fun t529 => (some t529)) else (none)))) else (none))) = some r := H
         have A93 := Aside0.mk A930
         clear A930
         replace H := Option.bind_eq_some_iff.mp H
         obtain ⟨t524, A940, H⟩ := H
         replace H : (if (t521 == t523 && (t522 == t524)) = true then ((sponge_Hash.f k2 (wrap64 (Int.tmod a0 4)) ([] : List Int)).bind fun bt525 => ((sponge_Node.f (wrap64 (Int.tmod a0 4)) 0 0 0 0).bind fun bt527 => (if (bt525.1 == bt527.1 && (bt525.2 == bt527.2)) = true then ((attestorlaw06_lives.f k2).bind fun t529 => (some t529)) else (none)))) else (none)) = some r := H
         have A94 := Aside0.mk A940
         clear A940
         by_cases c95 : (t521 == t523 && (t522 == t524)) = true
         ·rw [if_pos c95] at H
          have c95b0 : (t521 == t523 && (t522 == t524)) = true := c95
          (try (have c95b1 : decide (t521 = t523 && (t522 == t524)) = true := by simpa using c95))
          (try (have c95b2 : (t521 == t523 && (t522 == t524)) = true := by simpa using c95))
          clear c95
          replace H := Option.bind_eq_some_iff.mp H
          obtain ⟨⟨t525, t526⟩, A960, H⟩ := H
          replace H : ((sponge_Node.f (wrap64 (Int.tmod a0 4)) 0 0 0 0).bind fun bt527 => (if (t525 == bt527.1 && (t526 == bt527.2)) = true then ((attestorlaw06_lives.f k2).bind fun t529 => (some t529)) else (none))) = some r := H
          have A96 := Aside0.mk A960
          clear A960
          replace H := Option.bind_eq_some_iff.mp H
          obtain ⟨⟨t527, t528⟩, A970, H⟩ := H
          replace H : (if (t525 == t527 && (t526 == t528)) = true then ((attestorlaw06_lives.f k2).bind fun t529 => (some t529)) else (none)) = some r := H
          have A97 := Aside0.mk A970
          clear A970
          by_cases c98 : (t525 == t527 && (t526 == t528)) = true
          ·rw [if_pos c98] at H
           have c98b0 : (t525 == t527 && (t526 == t528)) = true := c98
           (try (have c98b1 : decide (t525 = t527 && (t526 == t528)) = true := by simpa using c98))
           (try (have c98b2 : (t525 == t527 && (t526 == t528)) = true := by simpa using c98))
           clear c98
           replace H := Option.bind_eq_some_iff.mp H
           obtain ⟨t529, A990, H⟩ := H
           replace H : (some t529) = some r := H
           have A99 := Aside0.mk A990
           clear A990
           obtain rfl := Option.some.inj H
           have hnb100 := NB474_475.out
           have hnc100 := NB475_474.out
           have hnb101 := NB474_481.out
           have hnc101 := NB481_474.out
           have hcz102_0 : wr.cell? ⟨g474, 0, none⟩ = some (.int .u64 a2_0) := bq_ B474 0
           have hcz102_1 : wr.cell? ⟨g474, 1, none⟩ = some (.int .u64 a2_1) := bq_ B474 1
           have hfz102_0 := blk_frozen B474.out 0
           have hfz102_1 := blk_frozen B474.out 1
           have hnb103 := NB475_481.out
           have hnc103 := NB481_475.out
           have hcz104_0 : wr.cell? ⟨g475, 0, none⟩ = some (.int .u64 a3_0) := bq_ B475 0
           have hcz104_1 : wr.cell? ⟨g475, 1, none⟩ = some (.int .u64 a3_1) := bq_ B475 1
           have hfz104_0 := blk_frozen B475.out 0
           have hfz104_1 := blk_frozen B475.out 1
           try go_wp2_with (first | ((with_reducible refine gate_callee (f := 19) rfl ?_); refine goesL_ (some 75) rfl rfl Tryd.func19 (by kernel_rfl) rfl #[.int .i64 (wrap64 (Int.tmod a0 4)), .agg #[.int .u64 a2_0, .int .u64 a2_1, .int .u64 a3_0, .int .u64 a3_1]] rfl (by (try simp only [List.map_toArray, List.map_cons, List.map_nil]); first | done | rfl) ?_; (with_reducible refine (sponge_Perm.calls (wrap64 (Int.tmod a0 4)) a2_0 a2_1 a3_0 a3_1 t514 t515 t516 t517 _ ?side1 A89.out).mono ?_); (case side1 => repeat (first | exact (GL.below HRG.out HB.out) | (with_reducible refine GL.alloc ?_ _) | (with_reducible refine GL.drewN ?_ _) | (with_reducible refine GL.drew ?_))); rintro e w105 ⟨rfl, hb⟩; refine ⟨_, rfl, ?_⟩; have n0_ := Aside0.mk (blk_below (g := g474) (o := .cells #[.int .u64 a2_0, .int .u64 a2_1] 30 (0, 0)) (by (with_reducible repeat first | refine blk_drewN ?_ _ | refine blk_drew ?_ | refine blk_alloc ?_ _); exact B474.out) hb); have n1_ := Aside0.mk (blk_below (g := g475) (o := .cells #[.int .u64 a3_0, .int .u64 a3_1] 30 (0, 0)) (by (with_reducible repeat first | refine blk_drewN ?_ _ | refine blk_drew ?_ | refine blk_alloc ?_ _); exact B475.out) hb); have n2_ := Aside0.mk (blk_below (g := g481) (o := .cells #[.int .u64 x482000_2, .int .u64 x482001_2, .int .u64 x482002_2, .int .u64 x482003_2] 23 (0, 0)) (by (with_reducible repeat first | refine blk_drewN ?_ _ | refine blk_drew ?_ | refine blk_alloc ?_ _); exact B481.out) hb); have n3_ := Aside0.mk (below_step (by repeat (first | (with_reducible first | exact HB.out | apply below_alloc | apply pw_below_drewN | apply below_drew1 | refine below_set ?_ GE474.out | refine below_set ?_ GE475.out | refine below_set ?_ GE481.out) | exact HB.out)) hb); clear B474; clear B475; clear B481; clear HB; have B474 := n0_; have B475 := n1_; have B481 := n2_; have HB := n3_; clear n0_ n1_ n2_ n3_; (try clear hb); (try clear hb2); (try clear hk); (try clear hi)) | ((with_reducible refine gate_dst (N := 12) rfl ?_); (try (refine gate_guard (by rfl) ?_; dsimp only)); refine box_event ?hg (N := 12) ?hd (cs := #[.int .u64 0, .int .u64 0, .int .u64 0, .int .u64 0]) (t := 23) ?hr ?_; (case hd => rfl); (case hg => rfl); (case hr => first | (go_simp; done) | (go_simp; rfl)); intro g518 hg w106 hbox hb; have n0_ := Aside0.mk (blk_below (g := g474) (o := .cells #[.int .u64 a2_0, .int .u64 a2_1] 30 (0, 0)) (by (with_reducible repeat first | refine blk_drewN ?_ _ | refine blk_drew ?_ | refine blk_alloc ?_ _); exact B474.out) hb); have n1_ := Aside0.mk (blk_below (g := g475) (o := .cells #[.int .u64 a3_0, .int .u64 a3_1] 30 (0, 0)) (by (with_reducible repeat first | refine blk_drewN ?_ _ | refine blk_drew ?_ | refine blk_alloc ?_ _); exact B475.out) hb); have n2_ := Aside0.mk (blk_below (g := g481) (o := .cells #[.int .u64 x482000_2, .int .u64 x482001_2, .int .u64 x482002_2, .int .u64 x482003_2] 23 (0, 0)) (by (with_reducible repeat first | refine blk_drewN ?_ _ | refine blk_drew ?_ | refine blk_alloc ?_ _); exact B481.out) hb); have n3_ := Aside0.mk (below_step (by repeat (first | (with_reducible first | exact HB.out | apply below_alloc | apply pw_below_drewN | apply below_drew1 | refine below_set ?_ GE474.out | refine below_set ?_ GE475.out | refine below_set ?_ GE481.out) | exact HB.out)) hb); have n4_ := Aside0.mk (hbox); have n5_ := Aside0.mk ((by rw [hg]; exact (below_size (by repeat (first | (with_reducible first | exact HB.out | apply below_alloc | apply pw_below_drewN | apply below_drew1 | refine below_set ?_ GE474.out | refine below_set ?_ GE475.out | refine below_set ?_ GE481.out) | exact HB.out))) : w.heap.size ≤ g518)); have n6_ := Aside0.mk ((by rw [hg]; exact (below_size (by repeat (first | (with_reducible first | exact HB.out | apply below_alloc | apply pw_below_drewN | apply below_drew1 | refine below_set ?_ GE474.out | refine below_set ?_ GE475.out | refine below_set ?_ GE481.out) | exact HB.out))) : w.heap.size ≤ g518)); have n7_ := Aside0.mk ((by rw [hg]; exact Nat.ne_of_lt (blk_lt (g := g474) (o := .cells #[.int .u64 a2_0, .int .u64 a2_1] 30 (0, 0)) (by (with_reducible repeat first | refine blk_drewN ?_ _ | refine blk_drew ?_ | refine blk_alloc ?_ _); exact B474.out)) : g474 ≠ g518)); have n8_ := Aside0.mk ((by rw [hg]; exact Nat.ne_of_gt (blk_lt (g := g474) (o := .cells #[.int .u64 a2_0, .int .u64 a2_1] 30 (0, 0)) (by (with_reducible repeat first | refine blk_drewN ?_ _ | refine blk_drew ?_ | refine blk_alloc ?_ _); exact B474.out)) : g518 ≠ g474)); have n9_ := Aside0.mk ((by rw [hg]; exact Nat.ne_of_lt (blk_lt (g := g475) (o := .cells #[.int .u64 a3_0, .int .u64 a3_1] 30 (0, 0)) (by (with_reducible repeat first | refine blk_drewN ?_ _ | refine blk_drew ?_ | refine blk_alloc ?_ _); exact B475.out)) : g475 ≠ g518)); have n10_ := Aside0.mk ((by rw [hg]; exact Nat.ne_of_gt (blk_lt (g := g475) (o := .cells #[.int .u64 a3_0, .int .u64 a3_1] 30 (0, 0)) (by (with_reducible repeat first | refine blk_drewN ?_ _ | refine blk_drew ?_ | refine blk_alloc ?_ _); exact B475.out)) : g518 ≠ g475)); have n11_ := Aside0.mk ((by rw [hg]; exact Nat.ne_of_lt (blk_lt (g := g481) (o := .cells #[.int .u64 x482000_2, .int .u64 x482001_2, .int .u64 x482002_2, .int .u64 x482003_2] 23 (0, 0)) (by (with_reducible repeat first | refine blk_drewN ?_ _ | refine blk_drew ?_ | refine blk_alloc ?_ _); exact B481.out)) : g481 ≠ g518)); have n12_ := Aside0.mk ((by rw [hg]; exact Nat.ne_of_gt (blk_lt (g := g481) (o := .cells #[.int .u64 x482000_2, .int .u64 x482001_2, .int .u64 x482002_2, .int .u64 x482003_2] 23 (0, 0)) (by (with_reducible repeat first | refine blk_drewN ?_ _ | refine blk_drew ?_ | refine blk_alloc ?_ _); exact B481.out)) : g518 ≠ g481)); clear B474; clear B475; clear B481; clear HB; have B474 := n0_; have B475 := n1_; have B481 := n2_; have HB := n3_; have B518 := n4_; have GW518 := n5_; have GE518 := n6_; have NB474_518 := n7_; have NB518_474 := n8_; have NB475_518 := n9_; have NB518_475 := n10_; have NB481_518 := n11_; have NB518_481 := n12_; clear n0_ n1_ n2_ n3_ n4_ n5_ n6_ n7_ n8_ n9_ n10_ n11_ n12_; clear hb hbox hg; have hnb107 := NB518_474.out; have hnc107 := NB474_518.out; have hnb108 := NB518_475.out; have hnc108 := NB475_518.out; have hnb109 := NB518_481.out; have hnc109 := NB481_518.out; have hcz110_0 : w106.cell? ⟨g518, 0, none⟩ = some (.int .u64 0) := bq_ B518 0; have hcz110_1 : w106.cell? ⟨g518, 1, none⟩ = some (.int .u64 0) := bq_ B518 1; have hcz110_2 : w106.cell? ⟨g518, 2, none⟩ = some (.int .u64 0) := bq_ B518 2; have hcz110_3 : w106.cell? ⟨g518, 3, none⟩ = some (.int .u64 0) := bq_ B518 3; have hfz110_0 := blk_frozen B518.out 0; have hfz110_1 := blk_frozen B518.out 1; have hfz110_2 := blk_frozen B518.out 2; have hfz110_3 := blk_frozen B518.out 3))
           have n0_ : Aside0 (((((w106.setCell ⟨g518, 0, none⟩ (.int .u64 t514)).setCell ⟨g518, 1, none⟩ (.int .u64 t515)).setCell ⟨g518, 2, none⟩ (.int .u64 t516)).setCell ⟨g518, 3, none⟩ (.int .u64 t517)).heap[g474]? = some (.cells #[.int .u64 a2_0, .int .u64 a2_1] 30 (0, 0))) := ⟨by (with_reducible repeat first | refine blk_drewN ?_ _ | refine blk_drew ?_ | refine blk_alloc ?_ _); refine blk_far ?_ NB474_518.out _; (with_reducible repeat first | refine blk_drewN ?_ _ | refine blk_drew ?_ | refine blk_alloc ?_ _); refine blk_far ?_ NB474_518.out _; (with_reducible repeat first | refine blk_drewN ?_ _ | refine blk_drew ?_ | refine blk_alloc ?_ _); refine blk_far ?_ NB474_518.out _; (with_reducible repeat first | refine blk_drewN ?_ _ | refine blk_drew ?_ | refine blk_alloc ?_ _); refine blk_far ?_ NB474_518.out _; (with_reducible repeat first | refine blk_drewN ?_ _ | refine blk_drew ?_ | refine blk_alloc ?_ _); exact B474.out⟩
           have n1_ : Aside0 (((((w106.setCell ⟨g518, 0, none⟩ (.int .u64 t514)).setCell ⟨g518, 1, none⟩ (.int .u64 t515)).setCell ⟨g518, 2, none⟩ (.int .u64 t516)).setCell ⟨g518, 3, none⟩ (.int .u64 t517)).heap[g475]? = some (.cells #[.int .u64 a3_0, .int .u64 a3_1] 30 (0, 0))) := ⟨by (with_reducible repeat first | refine blk_drewN ?_ _ | refine blk_drew ?_ | refine blk_alloc ?_ _); refine blk_far ?_ NB475_518.out _; (with_reducible repeat first | refine blk_drewN ?_ _ | refine blk_drew ?_ | refine blk_alloc ?_ _); refine blk_far ?_ NB475_518.out _; (with_reducible repeat first | refine blk_drewN ?_ _ | refine blk_drew ?_ | refine blk_alloc ?_ _); refine blk_far ?_ NB475_518.out _; (with_reducible repeat first | refine blk_drewN ?_ _ | refine blk_drew ?_ | refine blk_alloc ?_ _); refine blk_far ?_ NB475_518.out _; (with_reducible repeat first | refine blk_drewN ?_ _ | refine blk_drew ?_ | refine blk_alloc ?_ _); exact B475.out⟩
           have n2_ : Aside0 (((((w106.setCell ⟨g518, 0, none⟩ (.int .u64 t514)).setCell ⟨g518, 1, none⟩ (.int .u64 t515)).setCell ⟨g518, 2, none⟩ (.int .u64 t516)).setCell ⟨g518, 3, none⟩ (.int .u64 t517)).heap[g481]? = some (.cells #[.int .u64 x482000_2, .int .u64 x482001_2, .int .u64 x482002_2, .int .u64 x482003_2] 23 (0, 0))) := ⟨by (with_reducible repeat first | refine blk_drewN ?_ _ | refine blk_drew ?_ | refine blk_alloc ?_ _); refine blk_far ?_ NB481_518.out _; (with_reducible repeat first | refine blk_drewN ?_ _ | refine blk_drew ?_ | refine blk_alloc ?_ _); refine blk_far ?_ NB481_518.out _; (with_reducible repeat first | refine blk_drewN ?_ _ | refine blk_drew ?_ | refine blk_alloc ?_ _); refine blk_far ?_ NB481_518.out _; (with_reducible repeat first | refine blk_drewN ?_ _ | refine blk_drew ?_ | refine blk_alloc ?_ _); refine blk_far ?_ NB481_518.out _; (with_reducible repeat first | refine blk_drewN ?_ _ | refine blk_drew ?_ | refine blk_alloc ?_ _); exact B481.out⟩
           have n3_ : Aside0 (((((w106.setCell ⟨g518, 0, none⟩ (.int .u64 t514)).setCell ⟨g518, 1, none⟩ (.int .u64 t515)).setCell ⟨g518, 2, none⟩ (.int .u64 t516)).setCell ⟨g518, 3, none⟩ (.int .u64 t517)).heap[g518]? = some (.cells #[.int .u64 t514, .int .u64 t515, .int .u64 t516, .int .u64 t517] 23 (0, 0))) := ⟨by (with_reducible repeat first | refine blk_drewN ?_ _ | refine blk_drew ?_ | refine blk_alloc ?_ _); refine blk_put (cs := #[.int .u64 t514, .int .u64 t515, .int .u64 t516, .int .u64 0]) ?_ 3 _ rfl; (with_reducible repeat first | refine blk_drewN ?_ _ | refine blk_drew ?_ | refine blk_alloc ?_ _); refine blk_put (cs := #[.int .u64 t514, .int .u64 t515, .int .u64 0, .int .u64 0]) ?_ 2 _ rfl; (with_reducible repeat first | refine blk_drewN ?_ _ | refine blk_drew ?_ | refine blk_alloc ?_ _); refine blk_put (cs := #[.int .u64 t514, .int .u64 0, .int .u64 0, .int .u64 0]) ?_ 1 _ rfl; (with_reducible repeat first | refine blk_drewN ?_ _ | refine blk_drew ?_ | refine blk_alloc ?_ _); refine blk_put (cs := #[.int .u64 0, .int .u64 0, .int .u64 0, .int .u64 0]) ?_ 0 _ rfl; (with_reducible repeat first | refine blk_drewN ?_ _ | refine blk_drew ?_ | refine blk_alloc ?_ _); exact B518.out⟩
           have n4_ : Aside0 (Below w.heap.size w ((((w106.setCell ⟨g518, 0, none⟩ (.int .u64 t514)).setCell ⟨g518, 1, none⟩ (.int .u64 t515)).setCell ⟨g518, 2, none⟩ (.int .u64 t516)).setCell ⟨g518, 3, none⟩ (.int .u64 t517))) := ⟨by repeat (first | (with_reducible first | exact HB.out | apply below_alloc | apply pw_below_drewN | apply below_drew1 | refine below_set ?_ GE474.out | refine below_set ?_ GE475.out | refine below_set ?_ GE481.out | refine below_set ?_ GE518.out) | exact HB.out)⟩
           (try clear B474)
           (try clear B475)
           (try clear B481)
           (try clear B518)
           (try clear HB)
           generalize ((((w106.setCell ⟨g518, 0, none⟩ (.int .u64 t514)).setCell ⟨g518, 1, none⟩ (.int .u64 t515)).setCell ⟨g518, 2, none⟩ (.int .u64 t516)).setCell ⟨g518, 3, none⟩ (.int .u64 t517)) = w111 at n0_ n1_ n2_ n3_ n4_ ⊢
           have B474 := n0_
           have B475 := n1_
           have B481 := n2_
           have B518 := n3_
           have HB := n4_
           clear n0_ n1_ n2_ n3_ n4_
           have n0_ := Aside0.mk (blk_drew B474.out)
           have n1_ := Aside0.mk (blk_drew B475.out)
           have n2_ := Aside0.mk (blk_drew B481.out)
           have n3_ := Aside0.mk (blk_drew B518.out)
           have n4_ := Aside0.mk (below_drew1 HB.out)
           clear B474
           clear B475
           clear B481
           clear B518
           clear HB
           have B474 := n0_
           have B475 := n1_
           have B481 := n2_
           have B518 := n3_
           have HB := n4_
           clear n0_ n1_ n2_ n3_ n4_
           refine start_ (n := 42) (S := fun w' => w'.cell? ⟨g481, 0, none⟩ = some (.int .u64 x482000_2) ∧ w'.cell? ⟨g481, 1, none⟩ = some (.int .u64 x482001_2) ∧ w'.cell? ⟨g481, 2, none⟩ = some (.int .u64 x482002_2) ∧ w'.cell? ⟨g481, 3, none⟩ = some (.int .u64 x482003_2) ∧ w'.cell? ⟨g474, 0, none⟩ = some (.int .u64 a2_0) ∧ w'.cell? ⟨g474, 1, none⟩ = some (.int .u64 a2_1) ∧ w'.cell? ⟨g475, 0, none⟩ = some (.int .u64 a3_0) ∧ w'.cell? ⟨g475, 1, none⟩ = some (.int .u64 a3_1) ∧ w'.cell? ⟨g518, 0, none⟩ = some (.int .u64 t514) ∧ w'.cell? ⟨g518, 1, none⟩ = some (.int .u64 t515) ∧ w'.cell? ⟨g518, 2, none⟩ = some (.int .u64 t516) ∧ w'.cell? ⟨g518, 3, none⟩ = some (.int .u64 t517)) (ds := []) z7_15_ (by kernel_rfl) rfl rfl ⟨bq_ B481 0, bq_ B481 1, bq_ B481 2, bq_ B481 3, bq_ B474 0, bq_ B474 1, bq_ B475 0, bq_ B475 1, bq_ B518 0, bq_ B518 1, bq_ B518 2, bq_ B518 3⟩ (fun hL => ?_); refine with_tabW attestorlaw06_SpongeSteps.tab13 attestorlaw06_SpongeSteps.bits13 (fun T_ W_ => ?_)
           generalize w111.drew = w112 at B474 B475 B481 B518 HB hL ⊢
           refine pure_ (i := 0) (N := some 76) (v := ?_) (a' := ?_) z7_16_ rfl rfl (any_of T_.out (by kernel_rfl)) (fun _ _ _ h => h) (Or.inl ⟨by rfl, ?_⟩) ?_ ?_
           rotate_left; · intro w'; go_simp; with_reducible rfl
           rotate_left; · simp only [Act.put, sa_, sb_, sc_, i64_w, i32_w]; rfl
           refine pure_ (i := 1) (N := some 77) (v := ?_) (a' := ?_) z7_17_ rfl rfl (any_of T_.out (by kernel_rfl)) (fun _ _ _ h => h) (Or.inl ⟨by rfl, ?_⟩) ?_ ?_
           rotate_left; · intro w'; go_simp; with_reducible rfl
           rotate_left; · simp only [Act.put, sa_, sb_, sc_, i64_w, i32_w]; rfl
           refine pure_ (i := 3) (N := some 79) (v := ?_) (a' := ?_) z7_18_ rfl rfl (any_of T_.out (by kernel_rfl)) (fun _ _ _ h => h) (Or.inl ⟨by rfl, ?_⟩) ?_ ?_
           rotate_left; · intro w'; go_simp; with_reducible rfl
           rotate_left; · simp only [Act.put, sa_, sb_, sc_, i64_w, i32_w]; rfl
           refine pure_ (i := 5) (N := some 81) (v := ?_) (a' := ?_) z7_19_ rfl rfl (any_of T_.out (by kernel_rfl)) (fun _ _ _ h => h) (Or.inl ⟨by rfl, ?_⟩) ?_ ?_
           rotate_left; · intro w'; go_simp; with_reducible rfl
           rotate_left; · simp only [Act.put, sa_, sb_, sc_, i64_w, i32_w]; rfl
           refine take_ (i := 4) (N := some 80) (v := ?_) (a' := ?_) z7_20_ rfl rfl (take_ofW T_.out W_.out (by kernel_rfl)) (fun _ _ _ h => h) (Or.inl ⟨by rfl, ?_⟩) hL ?_ ?_
           rotate_left
           ·rintro w' ⟨s0, s1, s2, s3, s4, s5, s6, s7, s8, s9, s10, s11⟩
            go_simp
            with_reducible rfl
           rotate_left
           ·simp only [Act.put, sa_, sb_, sc_, i64_w, i32_w]
            rfl
           refine take_ (i := 6) (N := some 82) (v := ?_) (a' := ?_) z7_21_ rfl rfl (take_ofW T_.out W_.out (by kernel_rfl)) (fun _ _ _ h => h) (Or.inl ⟨by rfl, ?_⟩) hL ?_ ?_
           rotate_left
           ·rintro w' ⟨s0, s1, s2, s3, s4, s5, s6, s7, s8, s9, s10, s11⟩
            go_simp
            with_reducible rfl
           rotate_left
           ·simp only [Act.put, sa_, sb_, sc_, i64_w, i32_w]
            rfl
           refine pure_ (i := 7) (N := some 83) (v := ?_) (a' := ?_) z7_22_ rfl rfl (any_of T_.out (by kernel_rfl)) (fun _ _ _ h => h) (Or.inl ⟨by rfl, ?_⟩) ?_ ?_
           rotate_left; · intro w'; go_simp; with_reducible rfl
           rotate_left; · simp only [Act.put, sa_, sb_, sc_, i64_w, i32_w]; rfl
           refine one_ (i := 2) (N := some 78) z7_23_ rfl rfl (one_of T_.out (by kernel_rfl)) (by decide) (fun K hK => ?_)
           refine goes_ Tryd.func17 (by kernel_rfl) rfl #[.int .i64 (wrap64 (Int.tmod a0 4)), .slice A1 y476.length c1] (by rfl) rfl rfl (by (try simp only [List.map_toArray, List.map_cons, List.map_nil]); first | done | rfl) ?_
           with_reducible refine (sponge_Hash.calls k2 (wrap64 (Int.tmod a0 4)) (fun k_ => k_ < w.heap.size) _ _ y476 t519 t520 _ ?side1 ?side2 A90.out).mono ?_
           (case side1 => exact Kd.V_mk HC479.out (Kd.F_below (Kd.C_F (Kd.heap_int .u64) HR479.out) (by repeat (first | (with_reducible first | exact HB.out | apply below_alloc | apply pw_below_drewN | apply below_drew1 | refine below_set ?_ GE474.out | refine below_set ?_ GE475.out | refine below_set ?_ GE481.out | refine below_set ?_ GE518.out) | exact HB.out))))
           (case side2 => repeat (first | exact (GL.below HRG.out HB.out) | (with_reducible refine GL.alloc ?_ _) | (with_reducible refine GL.drewN ?_ _) | (with_reducible refine GL.drew ?_)))
           rintro e w113 ⟨rfl, hb⟩
           refine ⟨_, rfl, ?_⟩
           have n0_ := Aside0.mk (blk_below (g := g474) (o := .cells #[.int .u64 a2_0, .int .u64 a2_1] 30 (0, 0)) (by (with_reducible repeat first | refine blk_drewN ?_ _ | refine blk_drew ?_ | refine blk_alloc ?_ _); exact B474.out) hb)
           have n1_ := Aside0.mk (blk_below (g := g475) (o := .cells #[.int .u64 a3_0, .int .u64 a3_1] 30 (0, 0)) (by (with_reducible repeat first | refine blk_drewN ?_ _ | refine blk_drew ?_ | refine blk_alloc ?_ _); exact B475.out) hb)
           have n2_ := Aside0.mk (blk_below (g := g481) (o := .cells #[.int .u64 x482000_2, .int .u64 x482001_2, .int .u64 x482002_2, .int .u64 x482003_2] 23 (0, 0)) (by (with_reducible repeat first | refine blk_drewN ?_ _ | refine blk_drew ?_ | refine blk_alloc ?_ _); exact B481.out) hb)
           have n3_ := Aside0.mk (blk_below (g := g518) (o := .cells #[.int .u64 t514, .int .u64 t515, .int .u64 t516, .int .u64 t517] 23 (0, 0)) (by (with_reducible repeat first | refine blk_drewN ?_ _ | refine blk_drew ?_ | refine blk_alloc ?_ _); exact B518.out) hb)
           have n4_ := Aside0.mk (below_step (by repeat (first | (with_reducible first | exact HB.out | apply below_alloc | apply pw_below_drewN | apply below_drew1 | refine below_set ?_ GE474.out | refine below_set ?_ GE475.out | refine below_set ?_ GE481.out | refine below_set ?_ GE518.out) | exact HB.out)) hb)
           clear B474
           clear B475
           clear B481
           clear B518
           clear HB
           have B474 := n0_
           have B475 := n1_
           have B481 := n2_
           have B518 := n3_
           have HB := n4_
           clear n0_ n1_ n2_ n3_ n4_
           (try clear hb)
           (try clear hb2)
           (try clear hk)
           (try clear hi)
           refine hK.out _ _ ⟨bq_ B481 0, bq_ B481 1, bq_ B481 2, bq_ B481 3, bq_ B474 0, bq_ B474 1, bq_ B475 0, bq_ B475 1, bq_ B518 0, bq_ B518 1, bq_ B518 2, bq_ B518 3⟩ (fun hL => ?_)
           clear hK K
           refine norm_ (a' := ?_) ?_ ?_
           rotate_left
           ·show Act.put _ (some 78) _ = _
            simp only [Act.put, sa_, sb_, sc_, i64_w, i32_w]
            rfl
           refine pure_ (i := 8) (N := some 84) (v := ?_) (a' := ?_) z7_24_ rfl rfl (any_of T_.out (by kernel_rfl)) (fun _ _ _ h => h) (Or.inl ⟨by rfl, ?_⟩) ?_ ?_
           rotate_left; · intro w'; go_simp; with_reducible rfl
           rotate_left; · simp only [Act.put, sa_, sb_, sc_, i64_w, i32_w]; rfl
           refine pure_ (i := 9) (N := some 85) (v := ?_) (a' := ?_) z7_25_ rfl rfl (any_of T_.out (by kernel_rfl)) (fun _ _ _ h => h) (Or.inl ⟨by rfl, ?_⟩) ?_ ?_
           rotate_left; · intro w'; go_simp; with_reducible rfl
           rotate_left; · simp only [Act.put, sa_, sb_, sc_, i64_w, i32_w]; rfl
           refine pure_ (i := 10) (N := some 86) (v := ?_) (a' := ?_) z7_26_ rfl rfl (any_of T_.out (by kernel_rfl)) (fun _ _ _ h => h) (Or.inl ⟨by rfl, ?_⟩) ?_ ?_
           rotate_left; · intro w'; go_simp; with_reducible rfl
           rotate_left; · simp only [Act.put, sa_, sb_, sc_, i64_w, i32_w]; rfl
           refine pure_ (i := 14) (N := some 90) (v := ?_) (a' := ?_) z7_27_ rfl rfl (any_of T_.out (by kernel_rfl)) (fun _ _ _ h => h) (Or.inl ⟨by rfl, ?_⟩) ?_ ?_
           rotate_left; · intro w'; go_simp; with_reducible rfl
           rotate_left; · simp only [Act.put, sa_, sb_, sc_, i64_w, i32_w]; rfl
           refine pure_ (i := 15) (N := some 91) (v := ?_) (a' := ?_) z7_28_ rfl rfl (any_of T_.out (by kernel_rfl)) (fun _ _ _ h => h) (Or.inl ⟨by rfl, ?_⟩) ?_ ?_
           rotate_left; · intro w'; go_simp; with_reducible rfl
           rotate_left; · simp only [Act.put, sa_, sb_, sc_, i64_w, i32_w]; rfl
           refine pure_ (i := 17) (N := some 93) (v := ?_) (a' := ?_) z7_29_ rfl rfl (any_of T_.out (by kernel_rfl)) (fun _ _ _ h => h) (Or.inl ⟨by rfl, ?_⟩) ?_ ?_
           rotate_left; · intro w'; go_simp; with_reducible rfl
           rotate_left; · simp only [Act.put, sa_, sb_, sc_, i64_w, i32_w]; rfl
           refine pure_ (i := 20) (N := some 96) (v := ?_) (a' := ?_) z7_30_ rfl rfl (any_of T_.out (by kernel_rfl)) (fun _ _ _ h => h) (Or.inl ⟨by rfl, ?_⟩) ?_ ?_
           rotate_left; · intro w'; go_simp; with_reducible rfl
           rotate_left; · simp only [Act.put, sa_, sb_, sc_, i64_w, i32_w]; rfl
           refine pure_ (i := 21) (N := some 97) (v := ?_) (a' := ?_) z7_31_ rfl rfl (any_of T_.out (by kernel_rfl)) (fun _ _ _ h => h) (Or.inl ⟨by rfl, ?_⟩) ?_ ?_
           rotate_left; · intro w'; go_simp; with_reducible rfl
           rotate_left; · simp only [Act.put, sa_, sb_, sc_, i64_w, i32_w]; rfl
           refine pure_ (i := 23) (N := some 99) (v := ?_) (a' := ?_) z7_32_ rfl rfl (any_of T_.out (by kernel_rfl)) (fun _ _ _ h => h) (Or.inl ⟨by rfl, ?_⟩) ?_ ?_
           rotate_left; · intro w'; go_simp; with_reducible rfl
           rotate_left; · simp only [Act.put, sa_, sb_, sc_, i64_w, i32_w]; rfl
           refine take_ (i := 11) (N := some 87) (v := ?_) (a' := ?_) z7_33_ rfl rfl (take_ofW T_.out W_.out (by kernel_rfl)) (fun _ _ _ h => h) (Or.inl ⟨by rfl, ?_⟩) hL ?_ ?_
           rotate_left
           ·rintro w' ⟨s0, s1, s2, s3, s4, s5, s6, s7, s8, s9, s10, s11⟩
            go_simp
            with_reducible rfl
           rotate_left
           ·simp only [Act.put, sa_, sb_, sc_, i64_w, i32_w]
            rfl
           refine take_ (i := 12) (N := some 88) (v := ?_) (a' := ?_) z7_34_ rfl rfl (take_ofW T_.out W_.out (by kernel_rfl)) (fun _ _ _ h => h) (Or.inl ⟨by rfl, ?_⟩) hL ?_ ?_
           rotate_left
           ·rintro w' ⟨s0, s1, s2, s3, s4, s5, s6, s7, s8, s9, s10, s11⟩
            go_simp
            with_reducible rfl
           rotate_left
           ·simp only [Act.put, sa_, sb_, sc_, i64_w, i32_w]
            rfl
           refine take_ (i := 16) (N := some 92) (v := ?_) (a' := ?_) z7_35_ rfl rfl (take_ofW T_.out W_.out (by kernel_rfl)) (fun _ _ _ h => h) (Or.inl ⟨by rfl, ?_⟩) hL ?_ ?_
           rotate_left
           ·rintro w' ⟨s0, s1, s2, s3, s4, s5, s6, s7, s8, s9, s10, s11⟩
            go_simp
            with_reducible rfl
           rotate_left
           ·simp only [Act.put, sa_, sb_, sc_, i64_w, i32_w]
            rfl
           refine take_ (i := 18) (N := some 94) (v := ?_) (a' := ?_) z7_36_ rfl rfl (take_ofW T_.out W_.out (by kernel_rfl)) (fun _ _ _ h => h) (Or.inl ⟨by rfl, ?_⟩) hL ?_ ?_
           rotate_left
           ·rintro w' ⟨s0, s1, s2, s3, s4, s5, s6, s7, s8, s9, s10, s11⟩
            go_simp
            with_reducible rfl
           rotate_left
           ·simp only [Act.put, sa_, sb_, sc_, i64_w, i32_w]
            rfl
           refine take_ (i := 22) (N := some 98) (v := ?_) (a' := ?_) z7_37_ rfl rfl (take_ofW T_.out W_.out (by kernel_rfl)) (fun _ _ _ h => h) (Or.inl ⟨by rfl, ?_⟩) hL ?_ ?_
           rotate_left
           ·rintro w' ⟨s0, s1, s2, s3, s4, s5, s6, s7, s8, s9, s10, s11⟩
            go_simp
            with_reducible rfl
           rotate_left
           ·simp only [Act.put, sa_, sb_, sc_, i64_w, i32_w]
            rfl
           refine take_ (i := 24) (N := some 100) (v := ?_) (a' := ?_) z7_38_ rfl rfl (take_ofW T_.out W_.out (by kernel_rfl)) (fun _ _ _ h => h) (Or.inl ⟨by rfl, ?_⟩) hL ?_ ?_
           rotate_left
           ·rintro w' ⟨s0, s1, s2, s3, s4, s5, s6, s7, s8, s9, s10, s11⟩
            go_simp
            with_reducible rfl
           rotate_left
           ·simp only [Act.put, sa_, sb_, sc_, i64_w, i32_w]
            rfl
           refine one_ (i := 13) (N := some 89) z7_39_ rfl rfl (one_of T_.out (by kernel_rfl)) (by decide) (fun K hK => ?_)
           refine goes_ Tryd.func21 (by kernel_rfl) rfl #[.int .i64 (wrap64 (Int.tmod a0 4)), .agg #[.int .u64 a2_0, .int .u64 a2_1], .agg #[.int .u64 a3_0, .int .u64 a3_1]] (by rfl) rfl rfl (by (try simp only [List.map_toArray, List.map_cons, List.map_nil]); first | done | rfl) ?_
           with_reducible refine (sponge_Node.calls (wrap64 (Int.tmod a0 4)) a2_0 a2_1 a3_0 a3_1 t521 t522 _ ?side1 A92.out).mono ?_
           (case side1 => repeat (first | exact (GL.below HRG.out HB.out) | (with_reducible refine GL.alloc ?_ _) | (with_reducible refine GL.drewN ?_ _) | (with_reducible refine GL.drew ?_)))
           rintro e w114 ⟨rfl, hb⟩
           refine ⟨_, rfl, ?_⟩
           have n0_ := Aside0.mk (blk_below (g := g474) (o := .cells #[.int .u64 a2_0, .int .u64 a2_1] 30 (0, 0)) (by (with_reducible repeat first | refine blk_drewN ?_ _ | refine blk_drew ?_ | refine blk_alloc ?_ _); exact B474.out) hb)
           have n1_ := Aside0.mk (blk_below (g := g475) (o := .cells #[.int .u64 a3_0, .int .u64 a3_1] 30 (0, 0)) (by (with_reducible repeat first | refine blk_drewN ?_ _ | refine blk_drew ?_ | refine blk_alloc ?_ _); exact B475.out) hb)
           have n2_ := Aside0.mk (blk_below (g := g481) (o := .cells #[.int .u64 x482000_2, .int .u64 x482001_2, .int .u64 x482002_2, .int .u64 x482003_2] 23 (0, 0)) (by (with_reducible repeat first | refine blk_drewN ?_ _ | refine blk_drew ?_ | refine blk_alloc ?_ _); exact B481.out) hb)
           have n3_ := Aside0.mk (blk_below (g := g518) (o := .cells #[.int .u64 t514, .int .u64 t515, .int .u64 t516, .int .u64 t517] 23 (0, 0)) (by (with_reducible repeat first | refine blk_drewN ?_ _ | refine blk_drew ?_ | refine blk_alloc ?_ _); exact B518.out) hb)
           have n4_ := Aside0.mk (below_step (by repeat (first | (with_reducible first | exact HB.out | apply below_alloc | apply pw_below_drewN | apply below_drew1 | refine below_set ?_ GE474.out | refine below_set ?_ GE475.out | refine below_set ?_ GE481.out | refine below_set ?_ GE518.out) | exact HB.out)) hb)
           clear B474
           clear B475
           clear B481
           clear B518
           clear HB
           have B474 := n0_
           have B475 := n1_
           have B481 := n2_
           have B518 := n3_
           have HB := n4_
           clear n0_ n1_ n2_ n3_ n4_
           (try clear hb)
           (try clear hb2)
           (try clear hk)
           (try clear hi)
           refine hK.out _ _ ⟨bq_ B481 0, bq_ B481 1, bq_ B481 2, bq_ B481 3, bq_ B474 0, bq_ B474 1, bq_ B475 0, bq_ B475 1, bq_ B518 0, bq_ B518 1, bq_ B518 2, bq_ B518 3⟩ (fun hL => ?_)
           clear hK K
           refine norm_ (a' := ?_) ?_ ?_
           rotate_left
           ·show Act.put _ (some 89) _ = _
            simp only [Act.put, sa_, sb_, sc_, i64_w, i32_w]
            rfl
           refine one_ (i := 19) (N := some 95) z7_40_ rfl rfl (one_of T_.out (by kernel_rfl)) (by decide) (fun K hK => ?_)
           refine goes_ Tryd.func23 (by kernel_rfl) rfl #[.int .i64 (wrap64 (Int.tmod a0 4)), .int .u64 t514, .int .u64 a2_0] (by rfl) rfl rfl (by (try simp only [List.map_toArray, List.map_cons, List.map_nil]); first | done | rfl) ?_
           with_reducible refine (field_Add.calls (wrap64 (Int.tmod a0 4)) t514 a2_0 t523 _ ?side1 A93.out).mono ?_
           (case side1 => repeat (first | exact (GL.below HRG.out HB.out) | (with_reducible refine GL.alloc ?_ _) | (with_reducible refine GL.drewN ?_ _) | (with_reducible refine GL.drew ?_)))
           rintro e w115 ⟨rfl, hb⟩
           refine ⟨_, rfl, ?_⟩
           have n0_ := Aside0.mk (blk_below (g := g474) (o := .cells #[.int .u64 a2_0, .int .u64 a2_1] 30 (0, 0)) (by (with_reducible repeat first | refine blk_drewN ?_ _ | refine blk_drew ?_ | refine blk_alloc ?_ _); exact B474.out) hb)
           have n1_ := Aside0.mk (blk_below (g := g475) (o := .cells #[.int .u64 a3_0, .int .u64 a3_1] 30 (0, 0)) (by (with_reducible repeat first | refine blk_drewN ?_ _ | refine blk_drew ?_ | refine blk_alloc ?_ _); exact B475.out) hb)
           have n2_ := Aside0.mk (blk_below (g := g481) (o := .cells #[.int .u64 x482000_2, .int .u64 x482001_2, .int .u64 x482002_2, .int .u64 x482003_2] 23 (0, 0)) (by (with_reducible repeat first | refine blk_drewN ?_ _ | refine blk_drew ?_ | refine blk_alloc ?_ _); exact B481.out) hb)
           have n3_ := Aside0.mk (blk_below (g := g518) (o := .cells #[.int .u64 t514, .int .u64 t515, .int .u64 t516, .int .u64 t517] 23 (0, 0)) (by (with_reducible repeat first | refine blk_drewN ?_ _ | refine blk_drew ?_ | refine blk_alloc ?_ _); exact B518.out) hb)
           have n4_ := Aside0.mk (below_step (by repeat (first | (with_reducible first | exact HB.out | apply below_alloc | apply pw_below_drewN | apply below_drew1 | refine below_set ?_ GE474.out | refine below_set ?_ GE475.out | refine below_set ?_ GE481.out | refine below_set ?_ GE518.out) | exact HB.out)) hb)
           clear B474
           clear B475
           clear B481
           clear B518
           clear HB
           have B474 := n0_
           have B475 := n1_
           have B481 := n2_
           have B518 := n3_
           have HB := n4_
           clear n0_ n1_ n2_ n3_ n4_
           (try clear hb)
           (try clear hb2)
           (try clear hk)
           (try clear hi)
           refine hK.out _ _ ⟨bq_ B481 0, bq_ B481 1, bq_ B481 2, bq_ B481 3, bq_ B474 0, bq_ B474 1, bq_ B475 0, bq_ B475 1, bq_ B518 0, bq_ B518 1, bq_ B518 2, bq_ B518 3⟩ (fun hL => ?_)
           clear hK K
           refine norm_ (a' := ?_) ?_ ?_
           rotate_left
           ·show Act.put _ (some 95) _ = _
            simp only [Act.put, sa_, sb_, sc_, i64_w, i32_w]
            rfl
           refine one_ (i := 25) (N := some 101) z7_41_ rfl rfl (one_of T_.out (by kernel_rfl)) (by decide) (fun K hK => ?_)
           refine goes_ Tryd.func23 (by kernel_rfl) rfl #[.int .i64 (wrap64 (Int.tmod a0 4)), .int .u64 t515, .int .u64 a2_1] (by rfl) rfl rfl (by (try simp only [List.map_toArray, List.map_cons, List.map_nil]); first | done | rfl) ?_
           with_reducible refine (field_Add.calls (wrap64 (Int.tmod a0 4)) t515 a2_1 t524 _ ?side1 A94.out).mono ?_
           (case side1 => repeat (first | exact (GL.below HRG.out HB.out) | (with_reducible refine GL.alloc ?_ _) | (with_reducible refine GL.drewN ?_ _) | (with_reducible refine GL.drew ?_)))
           rintro e w116 ⟨rfl, hb⟩
           refine ⟨_, rfl, ?_⟩
           have n0_ := Aside0.mk (blk_below (g := g474) (o := .cells #[.int .u64 a2_0, .int .u64 a2_1] 30 (0, 0)) (by (with_reducible repeat first | refine blk_drewN ?_ _ | refine blk_drew ?_ | refine blk_alloc ?_ _); exact B474.out) hb)
           have n1_ := Aside0.mk (blk_below (g := g475) (o := .cells #[.int .u64 a3_0, .int .u64 a3_1] 30 (0, 0)) (by (with_reducible repeat first | refine blk_drewN ?_ _ | refine blk_drew ?_ | refine blk_alloc ?_ _); exact B475.out) hb)
           have n2_ := Aside0.mk (blk_below (g := g481) (o := .cells #[.int .u64 x482000_2, .int .u64 x482001_2, .int .u64 x482002_2, .int .u64 x482003_2] 23 (0, 0)) (by (with_reducible repeat first | refine blk_drewN ?_ _ | refine blk_drew ?_ | refine blk_alloc ?_ _); exact B481.out) hb)
           have n3_ := Aside0.mk (blk_below (g := g518) (o := .cells #[.int .u64 t514, .int .u64 t515, .int .u64 t516, .int .u64 t517] 23 (0, 0)) (by (with_reducible repeat first | refine blk_drewN ?_ _ | refine blk_drew ?_ | refine blk_alloc ?_ _); exact B518.out) hb)
           have n4_ := Aside0.mk (below_step (by repeat (first | (with_reducible first | exact HB.out | apply below_alloc | apply pw_below_drewN | apply below_drew1 | refine below_set ?_ GE474.out | refine below_set ?_ GE475.out | refine below_set ?_ GE481.out | refine below_set ?_ GE518.out) | exact HB.out)) hb)
           clear B474
           clear B475
           clear B481
           clear B518
           clear HB
           have B474 := n0_
           have B475 := n1_
           have B481 := n2_
           have B518 := n3_
           have HB := n4_
           clear n0_ n1_ n2_ n3_ n4_
           (try clear hb)
           (try clear hb2)
           (try clear hk)
           (try clear hi)
           refine hK.out _ _ ⟨bq_ B481 0, bq_ B481 1, bq_ B481 2, bq_ B481 3, bq_ B474 0, bq_ B474 1, bq_ B475 0, bq_ B475 1, bq_ B518 0, bq_ B518 1, bq_ B518 2, bq_ B518 3⟩ (fun hL => ?_)
           clear hK K
           refine norm_ (a' := ?_) ?_ ?_
           rotate_left
           ·show Act.put _ (some 101) _ = _
            simp only [Act.put, sa_, sb_, sc_, i64_w, i32_w]
            rfl
           refine pure_ (i := 26) (N := some 102) (v := ?_) (a' := ?_) z7_42_ rfl rfl (any_of T_.out (by kernel_rfl)) (fun _ _ _ h => h) (Or.inl ⟨by rfl, ?_⟩) ?_ ?_
           rotate_left; · intro w'; go_simp; with_reducible rfl
           rotate_left; · simp only [Act.put, sa_, sb_, sc_, i64_w, i32_w]; rfl
           refine pure_ (i := 27) (N := some 103) (v := ?_) (a' := ?_) z7_43_ rfl rfl (any_of T_.out (by kernel_rfl)) (fun _ _ _ h => h) (Or.inl ⟨by rfl, ?_⟩) ?_ ?_
           rotate_left; · intro w'; go_simp; with_reducible rfl
           rotate_left; · simp only [Act.put, sa_, sb_, sc_, i64_w, i32_w]; rfl
           refine pure_ (i := 28) (N := some 104) (v := ?_) (a' := ?_) z7_44_ rfl rfl (any_of T_.out (by kernel_rfl)) (fun _ _ _ h => h) (Or.inl ⟨by rfl, ?_⟩) ?_ ?_
           rotate_left; · intro w'; go_simp; with_reducible rfl
           rotate_left; · simp only [Act.put, sa_, sb_, sc_, i64_w, i32_w]; rfl
           refine pure_ (i := 29) (N := some 105) (v := ?_) (a' := ?_) z7_45_ rfl rfl (any_of T_.out (by kernel_rfl)) (fun _ _ _ h => h) (Or.inl ⟨by rfl, ?_⟩) ?_ ?_
           rotate_left; · intro w'; go_simp; with_reducible rfl
           rotate_left; · simp only [Act.put, sa_, sb_, sc_, i64_w, i32_w]; rfl
           refine pure_ (i := 30) (N := some 106) (v := ?_) (a' := ?_) z7_46_ rfl rfl (any_of T_.out (by kernel_rfl)) (fun _ _ _ h => h) (Or.inl ⟨by rfl, ?_⟩) ?_ ?_
           rotate_left; · intro w'; go_simp; with_reducible rfl
           rotate_left; · simp only [Act.put, sa_, sb_, sc_, i64_w, i32_w]; rfl
           refine pure_ (i := 32) (N := some 108) (v := ?_) (a' := ?_) z7_47_ rfl rfl (any_of T_.out (by kernel_rfl)) (fun _ _ _ h => h) (Or.inl ⟨by rfl, ?_⟩) ?_ ?_
           rotate_left; · intro w'; go_simp; with_reducible rfl
           rotate_left; · simp only [Act.put, sa_, sb_, sc_, i64_w, i32_w]; rfl
           refine pure_ (i := 33) (N := some 109) (v := ?_) (a' := ?_) z7_48_ rfl rfl (any_of T_.out (by kernel_rfl)) (fun _ _ _ h => h) (Or.inl ⟨by rfl, ?_⟩) ?_ ?_
           rotate_left; · intro w'; go_simp; with_reducible rfl
           rotate_left; · simp only [Act.put, sa_, sb_, sc_, i64_w, i32_w]; rfl
           refine pure_ (i := 34) (N := some 110) (v := ?_) (a' := ?_) z7_49_ rfl rfl (any_of T_.out (by kernel_rfl)) (fun _ _ _ h => h) (Or.inl ⟨by rfl, ?_⟩) ?_ ?_
           rotate_left; · intro w'; go_simp; with_reducible rfl
           rotate_left; · simp only [Act.put, sa_, sb_, sc_, i64_w, i32_w]; rfl
           refine one_ (i := 31) (N := some 107) z7_50_ rfl rfl (one_of T_.out (by kernel_rfl)) (by decide) (fun K hK => ?_)
           refine goes_ Tryd.func17 (by kernel_rfl) rfl #[.int .i64 (wrap64 (Int.tmod a0 4)), .slice none 0 0] (by rfl) rfl rfl (by (try simp only [List.map_toArray, List.map_cons, List.map_nil]); first | done | rfl) ?_
           refine (sponge_Hash.calls k2 (wrap64 (Int.tmod a0 4)) (fun k_ => False) _ _ ([] : List Int) t525 t526 _ ?side1 ?side2 A96.out).mono ?_
           (case side1 => exact Kd.V_nil _ _ _ _ _)
           (case side2 => repeat (first | exact (GL.below HRG.out HB.out) | (with_reducible refine GL.alloc ?_ _) | (with_reducible refine GL.drewN ?_ _) | (with_reducible refine GL.drew ?_)))
           rintro e w117 ⟨rfl, hb⟩
           refine ⟨_, rfl, ?_⟩
           have n0_ := Aside0.mk (blk_below (g := g474) (o := .cells #[.int .u64 a2_0, .int .u64 a2_1] 30 (0, 0)) (by (with_reducible repeat first | refine blk_drewN ?_ _ | refine blk_drew ?_ | refine blk_alloc ?_ _); exact B474.out) hb)
           have n1_ := Aside0.mk (blk_below (g := g475) (o := .cells #[.int .u64 a3_0, .int .u64 a3_1] 30 (0, 0)) (by (with_reducible repeat first | refine blk_drewN ?_ _ | refine blk_drew ?_ | refine blk_alloc ?_ _); exact B475.out) hb)
           have n2_ := Aside0.mk (blk_below (g := g481) (o := .cells #[.int .u64 x482000_2, .int .u64 x482001_2, .int .u64 x482002_2, .int .u64 x482003_2] 23 (0, 0)) (by (with_reducible repeat first | refine blk_drewN ?_ _ | refine blk_drew ?_ | refine blk_alloc ?_ _); exact B481.out) hb)
           have n3_ := Aside0.mk (blk_below (g := g518) (o := .cells #[.int .u64 t514, .int .u64 t515, .int .u64 t516, .int .u64 t517] 23 (0, 0)) (by (with_reducible repeat first | refine blk_drewN ?_ _ | refine blk_drew ?_ | refine blk_alloc ?_ _); exact B518.out) hb)
           have n4_ := Aside0.mk (below_step (by repeat (first | (with_reducible first | exact HB.out | apply below_alloc | apply pw_below_drewN | apply below_drew1 | refine below_set ?_ GE474.out | refine below_set ?_ GE475.out | refine below_set ?_ GE481.out | refine below_set ?_ GE518.out) | exact HB.out)) hb)
           clear B474
           clear B475
           clear B481
           clear B518
           clear HB
           have B474 := n0_
           have B475 := n1_
           have B481 := n2_
           have B518 := n3_
           have HB := n4_
           clear n0_ n1_ n2_ n3_ n4_
           (try clear hb)
           (try clear hb2)
           (try clear hk)
           (try clear hi)
           refine hK.out _ _ ⟨bq_ B481 0, bq_ B481 1, bq_ B481 2, bq_ B481 3, bq_ B474 0, bq_ B474 1, bq_ B475 0, bq_ B475 1, bq_ B518 0, bq_ B518 1, bq_ B518 2, bq_ B518 3⟩ (fun hL => ?_)
           clear hK K
           refine norm_ (a' := ?_) ?_ ?_
           rotate_left
           ·show Act.put _ (some 107) _ = _
            simp only [Act.put, sa_, sb_, sc_, i64_w, i32_w]
            rfl
           refine one_ (i := 35) (N := some 111) z7_51_ rfl rfl (one_of T_.out (by kernel_rfl)) (by decide) (fun K hK => ?_)
           refine goes_ Tryd.func21 (by kernel_rfl) rfl #[.int .i64 (wrap64 (Int.tmod a0 4)), .agg #[.int .u64 0, .int .u64 0], .agg #[.int .u64 0, .int .u64 0]] (by rfl) rfl rfl (by (try simp only [List.map_toArray, List.map_cons, List.map_nil]); first | done | rfl) ?_
           with_reducible refine (sponge_Node.calls (wrap64 (Int.tmod a0 4)) 0 0 0 0 t527 t528 _ ?side1 A97.out).mono ?_
           (case side1 => repeat (first | exact (GL.below HRG.out HB.out) | (with_reducible refine GL.alloc ?_ _) | (with_reducible refine GL.drewN ?_ _) | (with_reducible refine GL.drew ?_)))
           rintro e w118 ⟨rfl, hb⟩
           refine ⟨_, rfl, ?_⟩
           have n0_ := Aside0.mk (blk_below (g := g474) (o := .cells #[.int .u64 a2_0, .int .u64 a2_1] 30 (0, 0)) (by (with_reducible repeat first | refine blk_drewN ?_ _ | refine blk_drew ?_ | refine blk_alloc ?_ _); exact B474.out) hb)
           have n1_ := Aside0.mk (blk_below (g := g475) (o := .cells #[.int .u64 a3_0, .int .u64 a3_1] 30 (0, 0)) (by (with_reducible repeat first | refine blk_drewN ?_ _ | refine blk_drew ?_ | refine blk_alloc ?_ _); exact B475.out) hb)
           have n2_ := Aside0.mk (blk_below (g := g481) (o := .cells #[.int .u64 x482000_2, .int .u64 x482001_2, .int .u64 x482002_2, .int .u64 x482003_2] 23 (0, 0)) (by (with_reducible repeat first | refine blk_drewN ?_ _ | refine blk_drew ?_ | refine blk_alloc ?_ _); exact B481.out) hb)
           have n3_ := Aside0.mk (blk_below (g := g518) (o := .cells #[.int .u64 t514, .int .u64 t515, .int .u64 t516, .int .u64 t517] 23 (0, 0)) (by (with_reducible repeat first | refine blk_drewN ?_ _ | refine blk_drew ?_ | refine blk_alloc ?_ _); exact B518.out) hb)
           have n4_ := Aside0.mk (below_step (by repeat (first | (with_reducible first | exact HB.out | apply below_alloc | apply pw_below_drewN | apply below_drew1 | refine below_set ?_ GE474.out | refine below_set ?_ GE475.out | refine below_set ?_ GE481.out | refine below_set ?_ GE518.out) | exact HB.out)) hb)
           clear B474
           clear B475
           clear B481
           clear B518
           clear HB
           have B474 := n0_
           have B475 := n1_
           have B481 := n2_
           have B518 := n3_
           have HB := n4_
           clear n0_ n1_ n2_ n3_ n4_
           (try clear hb)
           (try clear hb2)
           (try clear hk)
           (try clear hi)
           refine hK.out _ _ ⟨bq_ B481 0, bq_ B481 1, bq_ B481 2, bq_ B481 3, bq_ B474 0, bq_ B474 1, bq_ B475 0, bq_ B475 1, bq_ B518 0, bq_ B518 1, bq_ B518 2, bq_ B518 3⟩ (fun hL => ?_)
           clear hK K
           refine norm_ (a' := ?_) ?_ ?_
           rotate_left
           ·show Act.put _ (some 111) _ = _
            simp only [Act.put, sa_, sb_, sc_, i64_w, i32_w]
            rfl
           refine pure_ (i := 36) (N := some 112) (v := ?_) (a' := ?_) z7_52_ rfl rfl (any_of T_.out (by kernel_rfl)) (fun _ _ _ h => h) (Or.inl ⟨by rfl, ?_⟩) ?_ ?_
           rotate_left; · intro w'; go_simp; with_reducible rfl
           rotate_left; · simp only [Act.put, sa_, sb_, sc_, i64_w, i32_w]; rfl
           refine pure_ (i := 37) (N := some 113) (v := ?_) (a' := ?_) z7_53_ rfl rfl (any_of T_.out (by kernel_rfl)) (fun _ _ _ h => h) (Or.inl ⟨by rfl, ?_⟩) ?_ ?_
           rotate_left; · intro w'; go_simp; with_reducible rfl
           rotate_left; · simp only [Act.put, sa_, sb_, sc_, i64_w, i32_w]; rfl
           refine pure_ (i := 38) (N := some 114) (v := ?_) (a' := ?_) z7_54_ rfl rfl (any_of T_.out (by kernel_rfl)) (fun _ _ _ h => h) (Or.inl ⟨by rfl, ?_⟩) ?_ ?_
           rotate_left; · intro w'; go_simp; with_reducible rfl
           rotate_left; · simp only [Act.put, sa_, sb_, sc_, i64_w, i32_w]; rfl
           refine one_ (i := 39) (N := some 115) z7_55_ rfl rfl (one_of T_.out (by kernel_rfl)) (by decide) (fun K hK => ?_)
           refine goes_ Tryd.func16 (by kernel_rfl) rfl #[] (by rfl) rfl rfl (by (try simp only [List.map_toArray, List.map_cons, List.map_nil]); first | done | rfl) ?_
           with_reducible refine (attestorlaw06_lives.calls k2  t529 _ ?side1 A99.out).mono ?_
           (case side1 => repeat (first | exact (GL.below HRG.out HB.out) | (with_reducible refine GL.alloc ?_ _) | (with_reducible refine GL.drewN ?_ _) | (with_reducible refine GL.drew ?_)))
           rintro e w119 ⟨rfl, hb⟩
           refine ⟨_, rfl, ?_⟩
           have n0_ := Aside0.mk (blk_below (g := g474) (o := .cells #[.int .u64 a2_0, .int .u64 a2_1] 30 (0, 0)) (by (with_reducible repeat first | refine blk_drewN ?_ _ | refine blk_drew ?_ | refine blk_alloc ?_ _); exact B474.out) hb)
           have n1_ := Aside0.mk (blk_below (g := g475) (o := .cells #[.int .u64 a3_0, .int .u64 a3_1] 30 (0, 0)) (by (with_reducible repeat first | refine blk_drewN ?_ _ | refine blk_drew ?_ | refine blk_alloc ?_ _); exact B475.out) hb)
           have n2_ := Aside0.mk (blk_below (g := g481) (o := .cells #[.int .u64 x482000_2, .int .u64 x482001_2, .int .u64 x482002_2, .int .u64 x482003_2] 23 (0, 0)) (by (with_reducible repeat first | refine blk_drewN ?_ _ | refine blk_drew ?_ | refine blk_alloc ?_ _); exact B481.out) hb)
           have n3_ := Aside0.mk (blk_below (g := g518) (o := .cells #[.int .u64 t514, .int .u64 t515, .int .u64 t516, .int .u64 t517] 23 (0, 0)) (by (with_reducible repeat first | refine blk_drewN ?_ _ | refine blk_drew ?_ | refine blk_alloc ?_ _); exact B518.out) hb)
           have n4_ := Aside0.mk (below_step (by repeat (first | (with_reducible first | exact HB.out | apply below_alloc | apply pw_below_drewN | apply below_drew1 | refine below_set ?_ GE474.out | refine below_set ?_ GE475.out | refine below_set ?_ GE481.out | refine below_set ?_ GE518.out) | exact HB.out)) hb)
           clear B474
           clear B475
           clear B481
           clear B518
           clear HB
           have B474 := n0_
           have B475 := n1_
           have B481 := n2_
           have B518 := n3_
           have HB := n4_
           clear n0_ n1_ n2_ n3_ n4_
           (try clear hb)
           (try clear hb2)
           (try clear hk)
           (try clear hi)
           refine hK.out _ _ ⟨bq_ B481 0, bq_ B481 1, bq_ B481 2, bq_ B481 3, bq_ B474 0, bq_ B474 1, bq_ B475 0, bq_ B475 1, bq_ B518 0, bq_ B518 1, bq_ B518 2, bq_ B518 3⟩ (fun hL => ?_)
           clear hK K
           refine norm_ (a' := ?_) ?_ ?_
           rotate_left
           ·show Act.put _ (some 115) _ = _
            simp only [Act.put, sa_, sb_, sc_, i64_w, i32_w]
            rfl
           refine pure_ (i := 40) (N := some 116) (v := ?_) (a' := ?_) z7_56_ rfl rfl (any_of T_.out (by kernel_rfl)) (fun _ _ _ h => h) (Or.inl ⟨by rfl, ?_⟩) ?_ ?_
           rotate_left; · intro w'; go_simp; with_reducible rfl
           rotate_left; · simp only [Act.put, sa_, sb_, sc_, i64_w, i32_w]; rfl
           refine pure_ (i := 41) (N := some 8) (v := ?_) (a' := ?_) z7_57_ rfl rfl (any_of T_.out (by kernel_rfl)) (fun _ _ _ h => h) (Or.inl ⟨by rfl, ?_⟩) ?_ ?_
           rotate_left; · intro w'; go_simp; with_reducible rfl
           rotate_left; · simp only [Act.put, sa_, sb_, sc_, i64_w, i32_w]; rfl
           refine done_ (done_of T_.out (by kernel_rfl)) ?_
           try go_wp2
           go_ret
           exact ⟨by first | rfl | (simp [errW_none, errW_some] <;> rfl) | (simp only [← hji5]; first | rfl | (simp [errW_none, errW_some] <;> rfl)) | (simp [*, errW_none, errW_some] <;> rfl), by repeat (first | (with_reducible first | exact HB.out | apply below_alloc | apply pw_below_drewN | apply below_drew1 | refine below_set ?_ GE474.out | refine below_set ?_ GE475.out | refine below_set ?_ GE481.out | refine below_set ?_ GE518.out) | exact HB.out)⟩
          ·rw [if_neg c98] at H
           exact absurd H (by simp)
         ·rw [if_neg c95] at H
          exact absurd H (by simp)
        ·rw [if_neg c91] at H
         exact absurd H (by simp)
  ·rw [if_neg c7] at H
   exact absurd H (by simp)
 ·rw [if_neg c6] at H
  exact absurd H (by simp)

end Go.Proofs.YtjfekjblnoagkaaDoor.Q
end
section
namespace Go.Proofs.YtjfekjblnoagkaaDoor.Q
open Go.RowKit Go.Proofs.YtjfekjblnoagkaaDoorW.PrintWords Go.Proofs.YtjfekjblnoagkaaDoorW.PrintLast Go.Proofs.YtjfekjblnoagkaaDoorW.PrintMore
open Go.Proofs.YtjfekjblnoagkaaDoor.Num
set_option linter.unusedVariables false
set_option linter.unusedSimpArgs false

theorem steps_end {f : Int} {p g e : Nat} (D : Fd f p g e) (L : List Nat) (hL : L.length ≤ 100) (q : S4) (s : S4) (i k : Nat) (hk : 600 ≤ k) (hi : L.length ≤ i)
    (h : s.a = (fst4 p g e L).a ∧ s.b = (fst4 p g e L).b) :
    attestorlaw06_SpongeSteps.l0 (k + 1) (I L) f i q.a q.b q.c q.d s.a s.b s.c s.d = some true := by
  rw [attestorlaw06_SpongeSteps.l0, I_len, if_neg (by omega)]
  refine bnd (Perm_f D q) (bnd (Hash_f D L (by omega) k (by omega)) ?_)
  rw [if_pos (by rw [h.1, h.2]; simp)]
  refine bnd (Node_f D q) (bnd (add_f D.F _ _) (bnd (add_f D.F _ _) ?_))
  rw [if_pos (by simp)]
  refine bnd (Hash_f D [] (by simp) k (by simp; omega)) (bnd (Node_f D ⟨0, 0, 0, 0⟩) ?_)
  have hz : red p ⟨0, 0, 0, 0⟩ = beg p 0 := by simp [red, beg]
  have hl := prm_lt D.pos g e _ (beg_lt D.pos 0) 8
  have hf : fst4 p g e [] = prm p g e 8 (beg p 0) := rfl
  rw [hz, hf]
  rw [if_pos (by simp only [Nat.add_zero, Nat.mod_eq_of_lt hl.1, Nat.mod_eq_of_lt hl.2.1, beq_self_eq_true, Bool.and_self])]
  exact bnd (lives_true _ (by omega)) rfl
theorem steps_l0 {f : Int} {p g e : Nat} (D : Fd f p g e) (L : List Nat) (hL : L.length ≤ 100) (q : S4) : ∀ (n i : Nat) (s : S4) (k : Nat), L.length - i ≤ n → i % 2 = 0 → s.lt p → 700 + 2 * n ≤ k → i ≤ L.length + 1 →
    (hsh p g e (L.drop i) s).a = (fst4 p g e L).a ∧ (hsh p g e (L.drop i) s).b = (fst4 p g e L).b →
    attestorlaw06_SpongeSteps.l0 k (I L) f i q.a q.b q.c q.d s.a s.b s.c s.d = some true := by
  intro n
  induction n with
  | zero =>
    intro i s k hi h2 hs hk hb h
    obtain ⟨k, rfl⟩ : ∃ j, k = j + 1 := ⟨k - 1, by omega⟩
    rw [List.drop_eq_nil_of_le (by omega)] at h
    exact steps_end D L hL q s i k (by omega) (by omega) h
  | succ n ih =>
    intro i s k hi h2 hs hk hb h
    obtain ⟨k, rfl⟩ : ∃ j, k = j + 1 + 1 := ⟨k - 2, by omega⟩
    by_cases hlt : i < L.length
    · have ht : Int.tmod (i : Int) 2 = 0 := by rw [Int.tmod_eq_emod_of_nonneg (by omega)]; omega
      rw [attestorlaw06_SpongeSteps.l0, I_len, if_pos (by omega), ht, if_pos (by decide), if_pos rfl, if_pos (by omega), I_rd L i hlt]
      refine bnd (add_f D.F _ _) ?_
      rw [if_neg (by decide), wrapS (x := (i : Int) + 1) (by omega) (by omega), show ((i : Int) + 1) = ((i + 1 : Nat) : Int) from rfl]
      by_cases hn : i + 1 = L.length
      · have hq : (S4.mk ((s.a + L[i]) % p) s.b s.c s.d).lt p := ⟨D.F.md _, hs.2.1, hs.2.2.1, hs.2.2.2⟩
        rw [if_pos (by omega)]
        refine bnd (Perm_f D ⟨(s.a + L[i]) % p, s.b, s.c, s.d⟩) ?_
        rw [red_id hq]
        have e1 : L.drop i = [L[i]] := by rw [List.drop_eq_getElem_cons hlt, List.drop_eq_nil_of_le (by omega)]
        rw [e1] at h
        exact steps_end D L hL q _ (i + 1) k (by omega) (by omega) h
      · have h3 : i + 1 < L.length := by omega
        rw [if_neg (by omega)]
        have ht1 : Int.tmod ((i + 1 : Nat) : Int) 2 = 1 := by rw [Int.tmod_eq_emod_of_nonneg (by omega)]; omega
        rw [attestorlaw06_SpongeSteps.l0, I_len, if_pos (by omega), ht1, if_pos (by decide), if_neg (by decide), if_pos rfl, if_pos (by omega), I_rd L (i + 1) h3]
        refine bnd (add_f D.F _ _) ?_
        refine bnd (Perm_f D ⟨(s.a + L[i]) % p, (s.b + L[i + 1]) % p, s.c, s.d⟩) ?_
        have hq : (S4.mk ((s.a + L[i]) % p) ((s.b + L[i + 1]) % p) s.c s.d).lt p := ⟨D.F.md _, D.F.md _, hs.2.2.1, hs.2.2.2⟩
        rw [red_id hq, wrapS (x := ((i + 1 : Nat) : Int) + 1) (by omega) (by omega), show (((i + 1 : Nat) : Int) + 1) = ((i + 2 : Nat) : Int) from rfl]
        have e1 : L.drop i = L[i] :: L[i + 1] :: L.drop (i + 2) := by rw [List.drop_eq_getElem_cons hlt, List.drop_eq_getElem_cons h3]
        rw [e1] at h
        exact ih (i + 2) _ k (by omega) (by omega) (prm_lt D.pos _ _ _ hq 8) (by omega) (by omega) h
    · rw [List.drop_eq_nil_of_le (by omega)] at h
      exact steps_end D L hL q s i (k + 1) (by omega) (by omega) h
theorem cut100 (n : Nat) : ∃ m : Nat, mn (n : Int) 100 = (m : Int) ∧ m ≤ n ∧ m ≤ 100 := by
  unfold mn
  by_cases h : (100 : Int) < n
  · exact ⟨100, by rw [if_pos h]; rfl, by omega, Nat.le_refl _⟩
  · exact ⟨n, by rw [if_neg h], Nat.le_refl _, by omega⟩
theorem steps_true (w : Int) (l : List Int) (a b c d : Int) (hw : 0 ≤ w ∧ w < 256) (hl : ∀ x ∈ l, 0 ≤ x) (ha : 0 ≤ a) (hb : 0 ≤ b) (hc : 0 ≤ c) (hd : 0 ≤ d) :
    ∃ k, attestorlaw06_SpongeSteps.f k w l a b c d = some true := by
  obtain ⟨q, rfl, rfl, rfl, rfl⟩ := nat4 ha hb hc hd
  obtain ⟨L0, rfl⟩ := ints_nat l hl
  obtain ⟨h0, h1⟩ := which_f w hw
  refine ⟨1001, ?_⟩
  unfold attestorlaw06_SpongeSteps.f
  generalize wrap64 (Int.tmod w 4) = f at *
  obtain ⟨p, g, e, D⟩ := fd_of h0 h1
  rw [I_len]
  obtain ⟨m, em, m1, m2⟩ := cut100 L0.length
  rw [em, if_pos (by omega), if_pos (by omega)]
  refine bnd rfl ?_
  rw [Int.toNat_natCast, I_take]
  have hm : (L0.take m).length ≤ 100 := by rw [List.length_take]; omega
  generalize L0.take m = L at *
  have ra0 : ∀ b : Nat, field_Add.f f b 0 = some (((b + 0) % p : Nat) : Int) := fun b => add_f D.F b 0
  rw [I_len, wrapU (by omega)]
  refine bnd (ra0 _) ?_
  rw [Nat.add_zero]
  by_cases h : L.length = 0
  · rw [if_pos (by omega)]
    refine bnd (Perm_f D (beg p L.length)) ?_
    rw [red_id (beg_lt D.pos _), attestorlaw06_SpongeSteps.j0]
    exact steps_l0 D L hm q 0 0 (prm p g e 8 (beg p L.length)) 1000 (by omega) rfl (prm_lt D.pos _ _ _ (beg_lt D.pos _) 8) (by omega) (by omega) (by
      rw [List.drop_eq_nil_of_le (by omega), fst4, if_pos h]
      exact ⟨rfl, rfl⟩)
  · rw [if_neg (by omega), attestorlaw06_SpongeSteps.j0]
    exact steps_l0 D L hm q 100 0 (beg p L.length) 1000 (by omega) rfl (beg_lt D.pos _) (by omega) (by omega) (by
      rw [List.drop_zero, fst4, if_neg h]
      exact ⟨rfl, rfl⟩)
theorem steps_call (x a b c d : Int) (l : List Int) (A : Option Addr) (n : Nat) (w : World) (hr : Kd.C (Kd.int .u64) w A l.length l) (hc : l.length ≤ n) (hG : GL w) (hx : 0 ≤ x ∧ x < 256) (hl : ∀ y ∈ l, 0 ≤ y)
    (h0 : 0 ≤ a) (h1 : 0 ≤ b) (h2 : 0 ≤ c) (h3 : 0 ≤ d) :
    Calls Tryd.prog 7 #[.int .u8 x, .slice A l.length n, .agg #[.int .u64 a, .int .u64 b], .agg #[.int .u64 c, .int .u64 d]] w fun e w' => e = .returned (.bool true) ∧ Below w.heap.size w w' := by
  obtain ⟨k, h⟩ := steps_true x l a b c d hx hl h0 h1 h2 h3
  exact attestorlaw06_SpongeSteps.calls k x A n l a b c d true w hr hc hG h
end Go.Proofs.YtjfekjblnoagkaaDoor.Q
end
section
namespace Go.Proofs.YtjfekjblnoagkaaDoor.Q
open Go.ChangeShapes Go.WideShapes Go.ChangeAt Go.WideMaps Go.WideElems Go.RowKit
open Go.Proofs.YtjfekjblnoagkaaDoorW.PrintWords Go.Proofs.YtjfekjblnoagkaaDoorW.PrintLast Go.Proofs.YtjfekjblnoagkaaDoorW.PrintMore
open Go.Proofs.YtjfekjblnoagkaaDoor.Opn
set_option linter.unusedVariables false

theorem okWide_array_ {P : Program} {w : World} {r : Reach} {base : Nat} {t : TypeId} {v : Value} {n : Nat} {e : TypeId} (ht : P.underlying t = some (.array n e)) (h : Value.okWide P w r base t v) : ∃ cs, v = .agg cs ∧ cs.size = P.cellsOf t := by
  simp only [Value.okWide, ht] at h
  obtain ⟨cs, h1, h2, _⟩ := h
  exact ⟨cs, h1, h2⟩
set_option maxRecDepth 100000 in
theorem spongeSteps_lifted (os : Os) (started : os.Started) (H : Type) (enc : TypeId × Value → H) :
    ReturnsInHanded {} Tryd.checked os 7 .any (fun w args => (Rows.spongeStepsSpec.pre enc Tryd.prog Tryd.f7 [] false w args ∧ laidMetH Tryd.prog laid1 w) ∧ sizedMet enc Tryd.prog Tryd.f7 (OpenSpec.ofChange Rows.spongeStepsSpec) false w args)
      (Rows.spongeStepsSpec.post enc Tryd.prog Tryd.f7 false true false false) := by
  refine returnsInHanded_of_change_and (C := Tryd.checked) (X := (fun w _ => laidMetH Tryd.prog laid1 w)) (fun _ _ _ hh h => h.of_heap hh) own started (by kernel_rfl) Tryd.func7
    (ChangeSpec.witness_shaped (enc := enc) (C := Tryd.checked) (os := os) (X := (fun w _ => laidMetH Tryd.prog laid1 w)) false (World.doorLaid Tryd.prog 400 os) #[.int .u8 0, .slice none 0 0, .agg #[.int .u64 0, .int .u64 0], .agg #[.int .u64 0, .int .u64 0]] 8 rfl (World.shaped_of_RefB (by kernel_rfl) (by kernel_rfl)) (by kernel_rfl) (by kernel_rfl) (by kernel_rfl) (door_met os _)) ?_
  intro W base args ds gs before hval0 hW _ _ hL _
  have hval : ∀ (j : Nat) t v, Tryd.f7.params[j]? = some t → args[j]? = some v → Value.okWide Tryd.prog W .any base t v := hval0
  have hW' := hW
  obtain ⟨p, q, hA0, hV, rfl, hfz, hnd⟩ := hW
  have hA : DataW.TrodAll enc Tryd.prog W 0 (fun _ => true) true Tryd.f7.params.toList args.toList ds p := hA0
  rw [Tryd.params7] at hA hval
  obtain ⟨v0, vs0, d0, ds0, p0, q0, hargs, rfl, rfl, h0, r0⟩ := trodAll_cons hA
  obtain ⟨v1, vs1, d1, ds1, p1, q1, rfl, rfl, rfl, h1, r1⟩ := trodAll_cons r0
  obtain ⟨v2, vs2, d2, ds2, p2, q2, rfl, rfl, rfl, h2, r2⟩ := trodAll_cons r1
  obtain ⟨v3, vs3, d3, ds3, p3, q3, rfl, rfl, rfl, h3, r3⟩ := trodAll_cons r2
  obtain ⟨rfl, rfl, rfl⟩ := trodAll_nil r3
  obtain rfl : args = #[v0, v1, v2, v3] := by cases args; simp_all
  obtain ⟨rfl, rfl⟩ := trodVars_none hV
  obtain ⟨a0, rfl, rfl, rfl, w0⟩ := open_int Tryd.underlying5 (hval 0 5 v0 rfl rfl) h0
  obtain ⟨a1, len1, cap1, rfl⟩ := okWide_slice Tryd.underlying28 (hval 1 28 v1 rfl rfl)
  have k1 := h1
  have lt1 : ∀ x ∈ p1, x.block < W.heap.size := by obtain ⟨m, hm⟩ := k1; exact DataW.trod_lt m _ _ _ hm
  obtain ⟨m1, hm1⟩ := h1
  obtain ⟨l1, ⟨A1, c1, hc1, hle1, hC1⟩, hw1⟩ := opn28 (enc := enc) (W := W) m1 _ _ hm1
  simp only [Value.cells, List.cons.injEq, and_true, Value.slice.injEq] at hc1
  obtain ⟨rfl, rfl, rfl⟩ := hc1
  have k2 := h2
  have lt2 : ∀ x ∈ p2, x.block < W.heap.size := by obtain ⟨m, hm⟩ := k2; exact DataW.trod_lt m _ _ _ hm
  obtain ⟨cs2, rfl, _⟩ := okWide_array_ Tryd.underlying30 (hval 2 30 v2 rfl rfl)
  obtain ⟨m2, hm2⟩ := h2
  obtain ⟨a2_0, a2_1, hcs2, w2_0, w2_1⟩ := flat30 m2 _ _ hm2
  obtain rfl : cs2 = #[.int .u64 a2_0, .int .u64 a2_1] := by cases cs2; simp only [Value.cells] at hcs2; subst hcs2; rfl
  have k3 := h3
  have lt3 : ∀ x ∈ p3, x.block < W.heap.size := by obtain ⟨m, hm⟩ := k3; exact DataW.trod_lt m _ _ _ hm
  obtain ⟨cs3, rfl, _⟩ := okWide_array_ Tryd.underlying30 (hval 3 30 v3 rfl rfl)
  obtain ⟨m3, hm3⟩ := h3
  obtain ⟨a3_0, a3_1, hcs3, w3_0, w3_1⟩ := flat30 m3 _ _ hm3
  obtain rfl : cs3 = #[.int .u64 a3_0, .int .u64 a3_1] := by cases cs3; simp only [Value.cells] at hcs3; subst hcs3; rfl
  clear hA0 hval0
  refine (steps_call a0 a2_0 a2_1 a3_0 a3_1 l1 a1 cap1 W hC1 hle1 (gl_of_laid hL) (wf_u8 w0) (fun y hy => (wf_u64 (hw1 y hy)).1) (wf_u64 w2_0).1 (wf_u64 w2_1).1 (wf_u64 w3_0).1 (wf_u64 w3_1).1).mono fun e W' ⟨he, bel⟩ => ?_
  subst he
  exact ⟨_, rfl, _, _, _, [], _, [], hW', trodAll_mk1 (shut_bool Tryd.underlying4 _), (trodAll_cons_mk (shut_int Tryd.underlying5 w0) (trodAll_cons_mk (Below.trod laidOut (by kernel_rfl) (of_decide_eq_true (by kernel_rfl)) k1 bel lt1) (trodAll_cons_mk (Below.trod laidOut (by kernel_rfl) (of_decide_eq_true (by kernel_rfl)) k2 bel lt2) (trodAll_cons_mk (Below.trod laidOut (by kernel_rfl) (of_decide_eq_true (by kernel_rfl)) k3 bel lt3) trodAll_mk0)))), rfl, bel.frame _, fun h => by cases h⟩
theorem spongeSteps_row : Rows.SpongeStepsSaid :=
  OpenClaim.holds_of_wide 7 Tryd.f7 rfl rfl rfl rfl rfl rfl rfl ⟨rfl, rfl, rfl, rfl, rfl⟩ rfl rfl rfl rfl rfl (by kernel_rfl) Tryd.func7 (by kernel_rfl)
    (of_decide_eq_true (by kernel_rfl)) (by unfold Func.isWrapper; first | (rw [if_pos (by decide +kernel)]; kernel_rfl) | (rw [if_neg (by decide +kernel)]; exact ⟨rfl, rfl⟩))
    (fun os started H enc _ => spongeSteps_lifted os started H enc)
theorem spongeSteps_card : Rows.SpongeStepsCardSaid :=
  Claim7.holds_tied_plain_at .later [] [.widerDeep] true Rows.spongeStepsCard.stood.harness false
    spongeSteps_row (fun _ h => by cases h) (by kernel_rfl) (fun _ h => by cases h) spongeSteps_row_tie rfl ⟨rfl, rfl⟩ (by kernel_rfl) rfl
    (fun f fn hf hfn => by
      obtain rfl : f = 7 := Option.some.inj ((show Tryd.prog.funcNamed "attestor/attestorlaw06.SpongeSteps" = some 7 by kernel_rfl).symm.trans hf) |>.symm
      obtain rfl : fn = Tryd.f7 := (Option.some.inj (Tryd.func7.symm.trans hfn)).symm
      exact ⟨by kernel_rfl, fun j t ht => by
        rw [Tryd.params7] at ht
        have hm : t ∈ [5, 28, 30, 30] := by simpa using Array.mem_of_getElem? ht
        have hall : ([5, 28, 30, 30].all fun u => !Tryd.prog.wantsStandIn u) = true := by kernel_rfl
        exact (show Tryd.prog.wantsStandIn t = false by simpa using List.all_eq_true.1 hall t hm)⟩)
    (by kernel_rfl)
end Go.Proofs.YtjfekjblnoagkaaDoor.Q
namespace Go.Proofs.YtjfekjblnoagkaaDoor
/-- Under a short name, for the claim. -/
theorem spongeSteps_holds : Rows.SpongeStepsCardSaid := Q.spongeSteps_card
end Go.Proofs.YtjfekjblnoagkaaDoor
#print axioms Go.Proofs.YtjfekjblnoagkaaDoor.spongeSteps_holds
end
