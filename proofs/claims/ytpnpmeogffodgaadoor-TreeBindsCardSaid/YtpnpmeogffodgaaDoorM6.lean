/- Several texts in one, in build order. What they prove, each by its own first remark:
Written by our own copy of a printing program (a twelfth state) out of the translation. Not trusted: Lean checks it.
Of PBinds what this claim needs.
For all arguments attestorlaw07.TreeBinds returns true and leaves them as they were, where the package-level variables hold what the program's text lays (the card ties that): no other condition. -/
import Derived.Test.YtpnpmeogffodgaaDoorM2
import Derived.Test.YtpnpmeogffodgaaDoorM3
import Derived.Test.YtpnpmeogffodgaaDoorM4
import Derived.Test.YtpnpmeogffodgaaDoorM5
import Derived.Test.YtpnpmeogffodgaaDoorCards
import Derived.Test.YtpnpmeogffodgaaDoorTie
import Derived.SevenTiedAt
import Derived.SizedLaws
import Derived.ShutString
import Derived.ChangeOld
import Derived.ProofKit
import Derived.Below
import Derived.OpenShut
section
namespace Go.Proofs.YtpnpmeogffodgaaDoor.Q
open Go.RowKit Go.Proofs.YtpnpmeogffodgaaDoorW.PrintWords Go.Proofs.YtpnpmeogffodgaaDoorW.PrintLast Go.Proofs.YtpnpmeogffodgaaDoorW.PrintMore
attribute [local go_sem] max2_int min2_int max_two min_two max_three min_three max_four min_four run_store_fnV run_store_fnc run_store_nfn   -- for this text's walks alone
set_option linter.unusedVariables false
set_option linter.unusedSimpArgs false

attribute [local go_sem high] eqA36 eqA48
abbrev z10_0_ : Array Bool := #[false, false, false, false, false, false, false, false, false, false, false, false, false, false, false, false, false, false, false, false, false, false, false, false, false, false]
abbrev z10_1_ : Array Bool := #[true, false, false, false, false, false, false, false, false, false, false, false, false, false, false, false, false, false, false, false, false, false, false, false, false, false]
abbrev z10_2_ : Array Bool := #[true, true, false, false, false, false, false, false, false, false, false, false, false, false, false, false, false, false, false, false, false, false, false, false, false, false]
abbrev z10_3_ : Array Bool := #[true, true, true, false, false, false, false, false, false, false, false, false, false, false, false, false, false, false, false, false, false, false, false, false, false, false]
abbrev z10_4_ : Array Bool := #[true, true, true, true, false, false, false, false, false, false, false, false, false, false, false, false, false, false, false, false, false, false, false, false, false, false]
abbrev z10_5_ : Array Bool := #[true, true, true, true, true, false, false, false, false, false, false, false, false, false, false, false, false, false, false, false, false, false, false, false, false, false]
abbrev z10_6_ : Array Bool := #[true, true, true, true, true, true, false, false, false, false, false, false, false, false, false, false, false, false, false, false, false, false, false, false, false, false]
abbrev z10_7_ : Array Bool := #[true, true, true, true, true, true, true, false, false, false, false, false, false, false, false, false, false, false, false, false, false, false, false, false, false, false]
abbrev z10_8_ : Array Bool := #[true, true, true, true, true, true, true, true, false, false, false, false, false, false, false, false, false, false, false, false, false, false, false, false, false, false]
abbrev z10_9_ : Array Bool := #[true, true, true, true, true, true, true, true, true, false, false, false, false, false, false, false, false, false, false, false, false, false, false, false, false, false]
abbrev z10_10_ : Array Bool := #[true, true, true, true, true, true, true, true, true, false, true, false, false, false, false, false, false, false, false, false, false, false, false, false, false, false]
abbrev z10_11_ : Array Bool := #[true, true, true, true, true, true, true, true, true, false, true, false, false, true, false, false, false, false, false, false, false, false, false, false, false, false]
abbrev z10_12_ : Array Bool := #[true, true, true, true, true, true, true, true, true, false, true, false, false, true, true, false, false, false, false, false, false, false, false, false, false, false]
abbrev z10_13_ : Array Bool := #[true, true, true, true, true, true, true, true, true, false, true, false, false, true, true, false, true, false, false, false, false, false, false, false, false, false]
abbrev z10_14_ : Array Bool := #[true, true, true, true, true, true, true, true, true, true, true, false, false, true, true, false, true, false, false, false, false, false, false, false, false, false]
abbrev z10_15_ : Array Bool := #[true, true, true, true, true, true, true, true, true, true, true, true, false, true, true, false, true, false, false, false, false, false, false, false, false, false]
abbrev z10_16_ : Array Bool := #[true, true, true, true, true, true, true, true, true, true, true, true, false, true, true, true, true, false, false, false, false, false, false, false, false, false]
abbrev z10_17_ : Array Bool := #[true, true, true, true, true, true, true, true, true, true, true, true, false, true, true, true, true, true, false, false, false, false, false, false, false, false]
abbrev z10_18_ : Array Bool := #[true, true, true, true, true, true, true, true, true, true, true, true, true, true, true, true, true, true, false, false, false, false, false, false, false, false]
abbrev z10_19_ : Array Bool := #[true, true, true, true, true, true, true, true, true, true, true, true, true, true, true, true, true, true, true, false, false, false, false, false, false, false]
abbrev z10_20_ : Array Bool := #[true, true, true, true, true, true, true, true, true, true, true, true, true, true, true, true, true, true, true, true, false, false, false, false, false, false]
abbrev z10_21_ : Array Bool := #[true, true, true, true, true, true, true, true, true, true, true, true, true, true, true, true, true, true, true, true, true, false, false, false, false, false]
abbrev z10_22_ : Array Bool := #[true, true, true, true, true, true, true, true, true, true, true, true, true, true, true, true, true, true, true, true, true, true, false, false, false, false]
abbrev z10_23_ : Array Bool := #[true, true, true, true, true, true, true, true, true, true, true, true, true, true, true, true, true, true, true, true, true, true, true, false, false, false]
abbrev z10_24_ : Array Bool := #[true, true, true, true, true, true, true, true, true, true, true, true, true, true, true, true, true, true, true, true, true, true, true, true, false, false]
abbrev z10_25_ : Array Bool := #[true, true, true, true, true, true, true, true, true, true, true, true, true, true, true, true, true, true, true, true, true, true, true, true, true, false]
abbrev z10_26_ : Array Bool := #[true, true, true, true, true, true, true, true, true, true, true, true, true, true, true, true, true, true, true, true, true, true, true, true, true, true]
abbrev z10_27_ : Array Bool := #[true, true, true, true, true, true, true, true, true, true, false, false, false, false, false, false, false, false, false, false, false, false, false, false, false, false]
abbrev z10_28_ : Array Bool := #[true, true, true, true, true, true, true, true, true, true, true, false, false, false, false, false, false, false, false, false, false, false, false, false, false, false]
abbrev z10_29_ : Array Bool := #[true, true, true, true, true, true, true, true, true, true, true, true, false, false, false, false, false, false, false, false, false, false, false, false, false, false]
abbrev z10_30_ : Array Bool := #[true, true, true, true, true, true, true, true, true, true, true, true, true, false, false, false, false, false, false, false, false, false, false, false, false, false]
abbrev z10_31_ : Array Bool := #[true, true, true, true, true, true, true, true, true, true, true, true, true, true, false, false, false, false, false, false, false, false, false, false, false, false]
abbrev z10_32_ : Array Bool := #[true, true, true, true, true, true, true, true, true, true, true, true, true, true, true, false, false, false, false, false, false, false, false, false, false, false]
abbrev z10_33_ : Array Bool := #[true, true, true, true, true, true, true, true, true, true, true, true, true, true, true, true, false, false, false, false, false, false, false, false, false, false]
abbrev z10_34_ : Array Bool := #[true, true, true, true, true, true, true, true, true, true, true, true, true, true, true, true, true, false, false, false, false, false, false, false, false, false]
/-! ### attestorlaw07_TreeBinds: function 10 -/
mutual
def attestorlaw07_TreeBinds.j0 : Nat → List (S36) → Int → Bool → Int → Int → Int → Int → Int → List (S36) → List (S36) → Option (Bool)
  | 0, _, _, _, _, _, _, _, _, _, _ => none
  | k + 1, x1, x7, x28, x397000, x397001, x397002, x397003, x397004, x397005, x397006 => if x28 = true then ((attestorlaw07_lives.f k).bind fun t400 => (some t400)) else (if (x1.length : Int) = 0 then ((tree_Climb.f x7 x397000 x397001 x397002 x397005).bind fun bt401 => (attestorlaw07_TreeBinds.j1 k (([(⟨bt401.1, bt401.2⟩ : S36)] : List (S36))) x7 x397000 x397001 x397002 x397003 x397004 x397005 x397006)) else (attestorlaw07_TreeBinds.j1 k x1 x7 x397000 x397001 x397002 x397003 x397004 x397005 x397006))
def attestorlaw07_TreeBinds.j1 : Nat → List (S36) → Int → Int → Int → Int → Int → Int → List (S36) → List (S36) → Option (Bool)
  | 0, _, _, _, _, _, _, _, _, _ => none
  | k + 1, x1, x7, x397000, x397001, x397002, x397003, x397004, x397005, x397006 => (tree_Clash.f x7 x397000 x397001 x397002 x397003 x397004 x397005 x397006).bind fun bt406 => ((tree_Check.f x7 x1 x397000 x397001 x397002 x397005).bind fun t417 => (if t417 = true then ((tree_Check.f x7 x1 x397000 x397003 x397004 x397006).bind fun t418 => (if t418 = true then ((attestorlaw07_same.f k x397000 x397001 x397002 x397003 x397004 x397005 x397006).bind fun t419 => (if t419 = true then (attestorlaw07_TreeBinds.j2 k x7 bt406.2.2.2.2.2.2.2.2 false bt406.1 bt406.2.1 bt406.2.2.1 bt406.2.2.2.1 bt406.2.2.2.2.1 bt406.2.2.2.2.2.1 bt406.2.2.2.2.2.2.1 bt406.2.2.2.2.2.2.2.1) else (attestorlaw07_TreeBinds.j2 k x7 bt406.2.2.2.2.2.2.2.2 (!bt406.2.2.2.2.2.2.2.2) bt406.1 bt406.2.1 bt406.2.2.1 bt406.2.2.2.1 bt406.2.2.2.2.1 bt406.2.2.2.2.2.1 bt406.2.2.2.2.2.2.1 bt406.2.2.2.2.2.2.2.1))) else (attestorlaw07_TreeBinds.j2 k x7 bt406.2.2.2.2.2.2.2.2 false bt406.1 bt406.2.1 bt406.2.2.1 bt406.2.2.2.1 bt406.2.2.2.2.1 bt406.2.2.2.2.2.1 bt406.2.2.2.2.2.2.1 bt406.2.2.2.2.2.2.2.1))) else (attestorlaw07_TreeBinds.j2 k x7 bt406.2.2.2.2.2.2.2.2 false bt406.1 bt406.2.1 bt406.2.2.1 bt406.2.2.2.1 bt406.2.2.2.2.1 bt406.2.2.2.2.2.1 bt406.2.2.2.2.2.2.1 bt406.2.2.2.2.2.2.2.1)))
def attestorlaw07_TreeBinds.j2 : Nat → Int → Bool → Bool → Int → Int → Int → Int → Int → Int → Int → Int → Option (Bool)
  | 0, _, _, _, _, _, _, _, _, _, _, _ => none
  | k + 1, x7, x10, x86, x416000, x416001, x416002, x416003, x417000, x417001, x417002, x417003 => if x86 = true then (none) else (if x10 = true then (if ((!(x416000 == x417000) || (!(x416001 == x417001))) || ((!(x416002 == x417002) || (!(x416003 == x417003))))) = true then ((sponge_Node.f k x7 x416000 x416001 x416002 x416003).bind fun bt420 => ((sponge_Node.f k x7 x417000 x417001 x417002 x417003).bind fun bt422 => (if (bt420.1 == bt422.1 && (bt420.2 == bt422.2)) = true then ((attestorlaw07_lives.f k).bind fun t424 => (some t424)) else (none)))) else (none)) else ((attestorlaw07_lives.f k).bind fun t425 => (some t425)))
end
def attestorlaw07_TreeBinds.f (k : Nat) (a0 : Int) (l1 : List (S36)) (a2_0 : Int) (a2_1 : Int) (a2_2 : Int) (a2_3 : Int) (a2_4 : Int) (l2_5 : List (S36)) (l2_6 : List (S36)) : Option (Bool) := (attestorlaw07_cut.f l1 70).bind fun t397 => (if (l2_5.length : Int) = (l2_6.length : Int) then (attestorlaw07_TreeBinds.j0 k t397 (wrap64 (Int.tmod a0 4)) (decide ((l2_5.length : Int) > 18)) a2_0 a2_1 a2_2 a2_3 a2_4 l2_5 l2_6) else (attestorlaw07_TreeBinds.j0 k t397 (wrap64 (Int.tmod a0 4)) true a2_0 a2_1 a2_2 a2_3 a2_4 l2_5 l2_6))
theorem attestorlaw07_TreeBinds.mono_l : ∀ k, (∀ y0 y1 y2 y3 y4 y5 y6 y7 y8 y9, LeO (attestorlaw07_TreeBinds.j0 k y0 y1 y2 y3 y4 y5 y6 y7 y8 y9) (attestorlaw07_TreeBinds.j0 (k + 1) y0 y1 y2 y3 y4 y5 y6 y7 y8 y9)) ∧ (∀ y0 y1 y2 y3 y4 y5 y6 y7 y8, LeO (attestorlaw07_TreeBinds.j1 k y0 y1 y2 y3 y4 y5 y6 y7 y8) (attestorlaw07_TreeBinds.j1 (k + 1) y0 y1 y2 y3 y4 y5 y6 y7 y8)) ∧ (∀ y0 y1 y2 y3 y4 y5 y6 y7 y8 y9 y10, LeO (attestorlaw07_TreeBinds.j2 k y0 y1 y2 y3 y4 y5 y6 y7 y8 y9 y10) (attestorlaw07_TreeBinds.j2 (k + 1) y0 y1 y2 y3 y4 y5 y6 y7 y8 y9 y10))
  | 0 => ⟨fun _ _ _ _ _ _ _ _ _ _ r h => by simp [attestorlaw07_TreeBinds.j0] at h, fun _ _ _ _ _ _ _ _ _ r h => by simp [attestorlaw07_TreeBinds.j1] at h, fun _ _ _ _ _ _ _ _ _ _ _ r h => by simp [attestorlaw07_TreeBinds.j2] at h⟩
  | k + 1 => by
    obtain ⟨ih0, ih1, ih2⟩ := attestorlaw07_TreeBinds.mono_l k
    refine ⟨?_, ?_, ?_⟩
    · intro y0 y1 y2 y3 y4 y5 y6 y7 y8 y9
      unfold attestorlaw07_TreeBinds.j0
      repeat' first
      | (with_reducible exact ih0 _ _ _ _ _ _ _ _ _ _)
      | (with_reducible exact ih1 _ _ _ _ _ _ _ _ _)
      | (with_reducible exact ih2 _ _ _ _ _ _ _ _ _ _ _)
      | (with_reducible exact attestorlaw07_lives.mono _)
      | (with_reducible exact attestorlaw07_same.mono _ _ _ _ _ _ _ _)
      | (with_reducible exact sponge_Node.mono _ _ _ _ _ _)
      | (with_reducible exact LeO.refl _)
      | (with_reducible exact LeO.none _)
      | (with_reducible refine LeO.ite ?_ ?_)
      | (with_reducible refine LeO.bind ?_ (fun _ => ?_))
      | exact ih0 _ _ _ _ _ _ _ _ _ _
      | exact ih1 _ _ _ _ _ _ _ _ _
      | exact ih2 _ _ _ _ _ _ _ _ _ _ _
      | exact attestorlaw07_lives.mono _
      | exact attestorlaw07_same.mono _ _ _ _ _ _ _ _
      | exact sponge_Node.mono _ _ _ _ _ _
      | exact LeO.none _
      | refine LeO.ite ?_ ?_
      | refine LeO.bind ?_ (fun _ => ?_)
    · intro y0 y1 y2 y3 y4 y5 y6 y7 y8
      unfold attestorlaw07_TreeBinds.j1
      repeat' first
      | (with_reducible exact ih0 _ _ _ _ _ _ _ _ _ _)
      | (with_reducible exact ih1 _ _ _ _ _ _ _ _ _)
      | (with_reducible exact ih2 _ _ _ _ _ _ _ _ _ _ _)
      | (with_reducible exact attestorlaw07_lives.mono _)
      | (with_reducible exact attestorlaw07_same.mono _ _ _ _ _ _ _ _)
      | (with_reducible exact sponge_Node.mono _ _ _ _ _ _)
      | (with_reducible exact LeO.refl _)
      | (with_reducible exact LeO.none _)
      | (with_reducible refine LeO.ite ?_ ?_)
      | (with_reducible refine LeO.bind ?_ (fun _ => ?_))
      | exact ih0 _ _ _ _ _ _ _ _ _ _
      | exact ih1 _ _ _ _ _ _ _ _ _
      | exact ih2 _ _ _ _ _ _ _ _ _ _ _
      | exact attestorlaw07_lives.mono _
      | exact attestorlaw07_same.mono _ _ _ _ _ _ _ _
      | exact sponge_Node.mono _ _ _ _ _ _
      | exact LeO.none _
      | refine LeO.ite ?_ ?_
      | refine LeO.bind ?_ (fun _ => ?_)
    · intro y0 y1 y2 y3 y4 y5 y6 y7 y8 y9 y10
      unfold attestorlaw07_TreeBinds.j2
      repeat' first
      | (with_reducible exact ih0 _ _ _ _ _ _ _ _ _ _)
      | (with_reducible exact ih1 _ _ _ _ _ _ _ _ _)
      | (with_reducible exact ih2 _ _ _ _ _ _ _ _ _ _ _)
      | (with_reducible exact attestorlaw07_lives.mono _)
      | (with_reducible exact attestorlaw07_same.mono _ _ _ _ _ _ _ _)
      | (with_reducible exact sponge_Node.mono _ _ _ _ _ _)
      | (with_reducible exact LeO.refl _)
      | (with_reducible exact LeO.none _)
      | (with_reducible refine LeO.ite ?_ ?_)
      | (with_reducible refine LeO.bind ?_ (fun _ => ?_))
      | exact ih0 _ _ _ _ _ _ _ _ _ _
      | exact ih1 _ _ _ _ _ _ _ _ _
      | exact ih2 _ _ _ _ _ _ _ _ _ _ _
      | exact attestorlaw07_lives.mono _
      | exact attestorlaw07_same.mono _ _ _ _ _ _ _ _
      | exact sponge_Node.mono _ _ _ _ _ _
      | exact LeO.none _
      | refine LeO.ite ?_ ?_
      | refine LeO.bind ?_ (fun _ => ?_)
theorem attestorlaw07_TreeBinds.mono : ∀ a0 a1 a2 a3 a4 a5 a6 a7 a8 k, LeO (attestorlaw07_TreeBinds.f k a0 a1 a2 a3 a4 a5 a6 a7 a8) (attestorlaw07_TreeBinds.f (k + 1) a0 a1 a2 a3 a4 a5 a6 a7 a8) := by
  intro a0 a1 a2 a3 a4 a5 a6 a7 a8 k
  obtain ⟨ih0, ih1, ih2⟩ := attestorlaw07_TreeBinds.mono_l k
  unfold attestorlaw07_TreeBinds.f
  repeat' first
      | (with_reducible exact ih0 _ _ _ _ _ _ _ _ _ _)
      | (with_reducible exact ih1 _ _ _ _ _ _ _ _ _)
      | (with_reducible exact ih2 _ _ _ _ _ _ _ _ _ _ _)
      | (with_reducible exact attestorlaw07_lives.mono _)
      | (with_reducible exact attestorlaw07_same.mono _ _ _ _ _ _ _ _)
      | (with_reducible exact sponge_Node.mono _ _ _ _ _ _)
      | (with_reducible exact LeO.refl _)
      | (with_reducible exact LeO.none _)
      | (with_reducible refine LeO.ite ?_ ?_)
      | (with_reducible refine LeO.bind ?_ (fun _ => ?_))
      | exact ih0 _ _ _ _ _ _ _ _ _ _
      | exact ih1 _ _ _ _ _ _ _ _ _
      | exact ih2 _ _ _ _ _ _ _ _ _ _ _
      | exact attestorlaw07_lives.mono _
      | exact attestorlaw07_same.mono _ _ _ _ _ _ _ _
      | exact sponge_Node.mono _ _ _ _ _ _
      | exact LeO.none _
      | refine LeO.ite ?_ ?_
      | refine LeO.bind ?_ (fun _ => ?_)
def attestorlaw07_TreeBinds.T10 : Bool × List (List Nat × List Nat) := (true, [([], []), ([0], [0]), ([1], [1]), ([2], [2]), ([2], [2]), ([3, 4, 2], [2, 3, 4]), ([5, 2, 2], [2, 5]), ([6], [6]), ([6], [6]), ([8, 6], [6, 8]), ([6], [6]), ([10, 6], [6, 10]), ([7, 9, 11, 6, 6], [6, 7, 9, 11]), ([6], [6]), ([6], [6]), ([14, 6], [6, 14]), ([6], [6]), ([16, 6], [6, 16]), ([13, 15, 17, 12, 6], [6, 13, 15, 17]), ([12, 18, 6], [6, 12, 18]), ([6, 19, 2], [2, 6, 19]), ([2, 20], [2, 20]), ([21, 18], [21]), ([22, 22], [22]), ([22, 23], [22, 23]), ([24, 23, 0, 1, 2, 3, 4, 5, 6, 7, 8, 9, 10, 11, 12, 13, 14, 15, 16, 17, 18, 19, 20, 21, 22, 23, 24], [24])])
def attestorlaw07_TreeBinds.B10 : List Nat := [0, 1, 3, 7, 7, 31, 63, 127, 127, 383, 127, 1151, 4095, 127, 127, 16511, 127, 65663, 262143, 524287, 1048575, 2097151, 4194303, 8388607, 16777215, 33554431]
theorem attestorlaw07_TreeBinds.tab10 : rtab .any (opsOf Tryd.f10 10) = attestorlaw07_TreeBinds.T10 := by kernel_rfl
theorem attestorlaw07_TreeBinds.bits10 : waitsOk attestorlaw07_TreeBinds.T10.2 attestorlaw07_TreeBinds.B10 = true := by kernel_rfl
set_option maxHeartbeats 8000000 in
set_option maxRecDepth 100000 in
theorem attestorlaw07_TreeBinds.calls (k : Nat) (a0 : Int) (A1 : Option Addr) (c1 : Nat) (l1 : List (S36)) (a2_0 : Int) (a2_1 : Int) (a2_2 : Int) (a2_3 : Int) (a2_4 : Int) (A2_5 : Option Addr) (c2_5 : Nat) (l2_5 : List (S36)) (A2_6 : Option Addr) (c2_6 : Nat) (l2_6 : List (S36)) (r : Bool) (w : World) (hr1 : Kd.C k36 w A1 l1.length l1) (hc1 : l1.length ≤ c1) (hr2_5 : Kd.C k36 w A2_5 l2_5.length l2_5) (hc2_5 : l2_5.length ≤ c2_5) (hr2_6 : Kd.C k36 w A2_6 l2_6.length l2_6) (hc2_6 : l2_6.length ≤ c2_6) (hrG : GL w) (h : attestorlaw07_TreeBinds.f k a0 l1 a2_0 a2_1 a2_2 a2_3 a2_4 l2_5 l2_6 = some r) :
  Calls Tryd.prog 10 #[.int .u8 a0, .slice A1 l1.length c1, .agg #[.int .i64 a2_0, .int .u64 a2_1, .int .u64 a2_2, .int .u64 a2_3, .int .u64 a2_4, .slice A2_5 l2_5.length c2_5, .slice A2_6 l2_6.length c2_6]] w fun e w' => e = .returned (.bool r) ∧ Below w.heap.size w w' := by
 have hu47 := Tryd.underlying47
 have hu36 := Tryd.underlying36
 have hu48 := Tryd.underlying48
 have HRG := Aside0.mk hrG
 clear hrG
 have HR1 := Aside0.mk hr1
 have HC1 := Aside0.mk hc1
 clear hr1 hc1
 have HR2_5 := Aside0.mk hr2_5
 have HC2_5 := Aside0.mk hc2_5
 clear hr2_5 hc2_5
 have HR2_6 := Aside0.mk hr2_6
 have HC2_6 := Aside0.mk hc2_6
 clear hr2_6 hc2_6
 have HB := Aside0.mk (Below.refl w.heap.size w)
 have H : ((attestorlaw07_cut.f l1 70).bind fun t397 => (if (l2_5.length : Int) = (l2_6.length : Int) then (attestorlaw07_TreeBinds.j0 k t397 (wrap64 (Int.tmod a0 4)) (decide ((l2_5.length : Int) > 18)) a2_0 a2_1 a2_2 a2_3 a2_4 l2_5 l2_6) else (attestorlaw07_TreeBinds.j0 k t397 (wrap64 (Int.tmod a0 4)) true a2_0 a2_1 a2_2 a2_3 a2_4 l2_5 l2_6))) = some r := h
 clear h
 replace H := Option.bind_eq_some_iff.mp H
 obtain ⟨t397, A40, H⟩ := H
 have A4 := Aside0.mk A40
 clear A40
 have HC5 := Aside0.mk H
 clear H
 go_enter Tryd.func10, Tryd.ntmps10
 go_upto_region 3 with (first | ((with_reducible refine gate_dst (N := 5) rfl ?_); (try (refine gate_guard (by rfl) ?_; dsimp only)); refine box_event ?hg (N := 5) ?hd (cs := #[.int .i64 a2_0, .int .u64 a2_1, .int .u64 a2_2, .int .u64 a2_3, .int .u64 a2_4, .slice A2_5 l2_5.length c2_5, .slice A2_6 l2_6.length c2_6]) (t := 47) ?hr ?_; (case hd => rfl); (case hg => rfl); (case hr => first | (go_simp; done) | (go_simp; rfl)); intro g396 hg w6 hbox hb; have n0_ := Aside0.mk (below_step (by repeat (first | (with_reducible first | exact HB.out | apply below_alloc | apply pw_below_drewN | apply below_drew1) | exact HB.out)) hb); have n1_ := Aside0.mk (hbox); have n2_ := Aside0.mk ((by rw [hg]; exact (below_size (by repeat (first | (with_reducible first | exact HB.out | apply below_alloc | apply pw_below_drewN | apply below_drew1) | exact HB.out))) : w.heap.size ≤ g396)); have n3_ := Aside0.mk ((by rw [hg]; exact (below_size (by repeat (first | (with_reducible first | exact HB.out | apply below_alloc | apply pw_below_drewN | apply below_drew1) | exact HB.out))) : w.heap.size ≤ g396)); clear HB; have HB := n0_; have B396 := n1_; have GW396 := n2_; have GE396 := n3_; clear n0_ n1_ n2_ n3_; clear hb hbox hg) | ((with_reducible refine gate_callee (f := 12) rfl ?_); refine goesL_ (some 15) rfl rfl Tryd.func12 (by kernel_rfl) rfl #[.slice A1 l1.length c1, .int .i64 70] rfl (by (try simp only [List.map_toArray, List.map_cons, List.map_nil]); first | done | rfl | (go_simp; done)) ?_; (with_reducible refine (attestorlaw07_cut.calls _ _ l1 70 t397 _ ?side1 ?side2 A4.out).mono ?_); (case side1 => repeat (first | exact (Kd.C_below HR1.out HB.out) | (with_reducible refine Kd.C_alloc ?_ _) | (with_reducible refine Kd.C_drewN ?_ _) | (with_reducible refine Kd.C_drew ?_))); (case side2 => exact HC1.out); rintro e w7 ⟨v398, rfl, ho0, hb⟩; refine ⟨_, rfl, ?_⟩; have n0_ := Aside0.mk (Kd.R_lower ho0 (below_size (by repeat (first | (with_reducible first | exact HB.out | apply below_alloc | apply pw_below_drewN | apply below_drew1 | refine below_set ?_ GE396.out) | exact HB.out)))); have n1_ := Aside0.mk (blk_below (g := g396) (o := .cells #[.int .i64 a2_0, .int .u64 a2_1, .int .u64 a2_2, .int .u64 a2_3, .int .u64 a2_4, .slice A2_5 l2_5.length c2_5, .slice A2_6 l2_6.length c2_6] 47 (0, 0)) (by exact B396.out) hb); have n2_ := Aside0.mk (below_step (by repeat (first | (with_reducible first | exact HB.out | apply below_alloc | apply pw_below_drewN | apply below_drew1 | refine below_set ?_ GE396.out) | exact HB.out)) hb); clear B396; clear HB; have HO399 := n0_; have B396 := n1_; have HB := n2_; clear n0_ n1_ n2_; (try clear hb); (try clear hb2); (try clear hk); (try clear hi); (try clear ho0)))
 (try simp only [Act.put, sa_, sb_, sc_])
 go_cut [28] (fun v28 wc => ∃ (kq : Nat) (x28_4 : Bool), v28 = .bool x28_4 ∧ Aside0 (attestorlaw07_TreeBinds.j0 kq t397 (wrap64 (Int.tmod a0 4)) x28_4 a2_0 a2_1 a2_2 a2_3 a2_4 l2_5 l2_6 = some r) ∧ Aside0 (kq ≤ k) ∧ Aside0 (Kd.R k36 36 wc w.heap.size (fun _ => True) v398 t397) ∧ Aside0 (wc.heap[g396]? = some (.cells #[.int .i64 a2_0, .int .u64 a2_1, .int .u64 a2_2, .int .u64 a2_3, .int .u64 a2_4, (.slice A2_5 l2_5.length c2_5), (.slice A2_6 l2_6.length c2_6)] 47 (0, 0))) ∧ Aside0 (Below w.heap.size w wc))
 case first =>
  have H := HC5.out
  clear HC5
  by_cases c8 : (l2_5.length : Int) = (l2_6.length : Int)
  ·rw [if_pos c8] at H
   have c8b0 : ((l2_5.length : Int) == (l2_6.length : Int)) = true := beq_iff_eq.mpr c8
   have c8b1 : ((l2_5.length : Int) != (l2_6.length : Int)) = false := bne_eq_false_iff_eq.mpr c8
   have c8b2 : (l2_5.length == l2_6.length) = true := by first | simpa using c8 | (simp at c8 ⊢; omega)
   clear c8
   (first | rw [c8b0] | (simp only [i64_w, i32_w]; rw [c8b0]) | skip)
   have H' := Aside0.mk H
   clear H
   have hcz9_0 : w7.cell? ⟨g396, 0, none⟩ = some (.int .i64 a2_0) := bq_ B396 0
   have hcz9_1 : w7.cell? ⟨g396, 1, none⟩ = some (.int .u64 a2_1) := bq_ B396 1
   have hcz9_2 : w7.cell? ⟨g396, 2, none⟩ = some (.int .u64 a2_2) := bq_ B396 2
   have hcz9_3 : w7.cell? ⟨g396, 3, none⟩ = some (.int .u64 a2_3) := bq_ B396 3
   have hcz9_4 : w7.cell? ⟨g396, 4, none⟩ = some (.int .u64 a2_4) := bq_ B396 4
   have hcz9_5 : w7.cell? ⟨g396, 5, none⟩ = some (.slice A2_5 l2_5.length c2_5) := bq_ B396 5
   have hcz9_6 : w7.cell? ⟨g396, 6, none⟩ = some (.slice A2_6 l2_6.length c2_6) := bq_ B396 6
   have hfz9_0 := blk_frozen B396.out 0
   have hfz9_1 := blk_frozen B396.out 1
   have hfz9_2 := blk_frozen B396.out 2
   have hfz9_3 := blk_frozen B396.out 3
   have hfz9_4 := blk_frozen B396.out 4
   have hfz9_5 := blk_frozen B396.out 5
   have hfz9_6 := blk_frozen B396.out 6
   go_wp2
   go_meet
   case rel => exact ⟨_, (decide ((l2_5.length : Int) > 18)), (by first | rfl | (simp; done) | (simp [*]; done) | (simp; rfl) | (simp; decide +kernel)), H', ⟨by first | omega | exact Nat.le_refl _⟩, ⟨by (with_reducible repeat (first | apply Kd.R_alloc | apply Kd.R_drewN | apply Kd.R_drew)); exact HO399.out⟩, ⟨by exact B396.out⟩, ⟨by repeat (first | (with_reducible first | exact HB.out | apply below_alloc | apply pw_below_drewN | apply below_drew1 | refine below_set ?_ GE396.out) | exact HB.out)⟩⟩
  ·rw [if_neg c8] at H
   have c8b0 : ((l2_5.length : Int) == (l2_6.length : Int)) = false := beq_eq_false_iff_ne.mpr c8
   have c8b1 : ((l2_5.length : Int) != (l2_6.length : Int)) = true := bne_iff_ne.mpr c8
   have c8b2 : (l2_5.length == l2_6.length) = false := by first | simpa using c8 | (simp at c8 ⊢; omega)
   (first | rw [c8b0] | (simp only [i64_w, i32_w]; rw [c8b0]) | skip)
   have H' := Aside0.mk H
   clear H
   have hcz10_0 : w7.cell? ⟨g396, 0, none⟩ = some (.int .i64 a2_0) := bq_ B396 0
   have hcz10_1 : w7.cell? ⟨g396, 1, none⟩ = some (.int .u64 a2_1) := bq_ B396 1
   have hcz10_2 : w7.cell? ⟨g396, 2, none⟩ = some (.int .u64 a2_2) := bq_ B396 2
   have hcz10_3 : w7.cell? ⟨g396, 3, none⟩ = some (.int .u64 a2_3) := bq_ B396 3
   have hcz10_4 : w7.cell? ⟨g396, 4, none⟩ = some (.int .u64 a2_4) := bq_ B396 4
   have hcz10_5 : w7.cell? ⟨g396, 5, none⟩ = some (.slice A2_5 l2_5.length c2_5) := bq_ B396 5
   have hcz10_6 : w7.cell? ⟨g396, 6, none⟩ = some (.slice A2_6 l2_6.length c2_6) := bq_ B396 6
   have hfz10_0 := blk_frozen B396.out 0
   have hfz10_1 := blk_frozen B396.out 1
   have hfz10_2 := blk_frozen B396.out 2
   have hfz10_3 := blk_frozen B396.out 3
   have hfz10_4 := blk_frozen B396.out 4
   have hfz10_5 := blk_frozen B396.out 5
   have hfz10_6 := blk_frozen B396.out 6
   go_wp2
   go_meet
   case rel => exact ⟨_, (true), (by first | rfl | (simp; done) | (simp [*]; done) | (simp; rfl) | (simp; decide +kernel)), H', ⟨by first | omega | exact Nat.le_refl _⟩, ⟨by (with_reducible repeat (first | apply Kd.R_alloc | apply Kd.R_drewN | apply Kd.R_drew)); exact HO399.out⟩, ⟨by exact B396.out⟩, ⟨by repeat (first | (with_reducible first | exact HB.out | apply below_alloc | apply pw_below_drewN | apply below_drew1 | refine below_set ?_ GE396.out) | exact HB.out)⟩⟩
 case rest =>
  clear HC5
  try clear c1
  try clear c2
  try clear p2
  try clear p6
  try clear c8
  try clear c8b0
  try clear c8b1
  try clear c8b2
  try clear c10
  try clear hcz10_0
  try clear hcz10_1
  try clear hcz10_2
  try clear hcz10_3
  try clear hcz10_4
  try clear hcz10_5
  try clear hcz10_6
  try clear hcz9_0
  try clear hcz9_1
  try clear hcz9_2
  try clear hcz9_3
  try clear hcz9_4
  try clear hcz9_5
  try clear hcz9_6
  try clear hfz10_0
  try clear hfz10_1
  try clear hfz10_2
  try clear hfz10_3
  try clear hfz10_4
  try clear hfz10_5
  try clear hfz10_6
  try clear hfz9_0
  try clear hfz9_1
  try clear hfz9_2
  try clear hfz9_3
  try clear hfz9_4
  try clear hfz9_5
  try clear hfz9_6
  obtain ⟨kq, x28_4, rfl, HA, HJ4, HO_1, B396, HB⟩ := hcut
  cases kq with
  | zero => exact absurd HA.out (by simp [attestorlaw07_TreeBinds.j0])
  | succ kj4 =>
   have H := HA.out
   clear HA
   simp only [attestorlaw07_TreeBinds.j0] at H
   by_cases c11 : x28_4 = true
   ·subst c11
    have H1 : ((attestorlaw07_lives.f kj4).bind fun t400 => (some t400)) = some r := by rw [if_pos rfl] at H; exact H
    clear H
    have H := H1
    clear H1
    replace H := Option.bind_eq_some_iff.mp H
    obtain ⟨t400, A120, H⟩ := H
    have A12 := Aside0.mk A120
    clear A120
    obtain rfl := Option.some.inj H
    go_wp2_with (first | ((with_reducible refine gate_callee (f := 21) rfl ?_); refine goesL_ (some 29) rfl rfl Tryd.func21 (by kernel_rfl) rfl #[] rfl (by (try simp only [List.map_toArray, List.map_cons, List.map_nil]); first | done | rfl | (go_simp; done)) ?_; (with_reducible refine (attestorlaw07_lives.calls kj4  t400 _ ?side1 A12.out).mono ?_); (case side1 => repeat (first | exact (GL.below HRG.out HB.out) | (with_reducible refine GL.alloc ?_ _) | (with_reducible refine GL.drewN ?_ _) | (with_reducible refine GL.drew ?_))); rintro e w13 ⟨rfl, hb⟩; refine ⟨_, rfl, ?_⟩; have n0_ := Aside0.mk (Kd.R_below (by (with_reducible repeat (first | apply Kd.R_alloc | apply Kd.R_drewN | apply Kd.R_drew)); exact HO_1.out) hb); have n1_ := Aside0.mk (blk_below (g := g396) (o := .cells #[.int .i64 a2_0, .int .u64 a2_1, .int .u64 a2_2, .int .u64 a2_3, .int .u64 a2_4, .slice A2_5 l2_5.length c2_5, .slice A2_6 l2_6.length c2_6] 47 (0, 0)) (by exact B396.out) hb); have n2_ := Aside0.mk (below_step (by repeat (first | (with_reducible first | exact HB.out | apply below_alloc | apply pw_below_drewN | apply below_drew1 | refine below_set ?_ GE396.out) | exact HB.out)) hb); clear HO_1; clear B396; clear HB; have HO_1 := n0_; have B396 := n1_; have HB := n2_; clear n0_ n1_ n2_; (try clear hb); (try clear hb2); (try clear hk); (try clear hi)))
    go_ret
    exact ⟨by first | rfl | (simp [errW_none, errW_some] <;> rfl) | (simp [*, errW_none, errW_some] <;> rfl), by repeat (first | (with_reducible first | exact HB.out | apply below_alloc | apply pw_below_drewN | apply below_drew1 | refine below_set ?_ GE396.out) | exact HB.out)⟩
   ·replace c11 := Bool.eq_false_iff.mpr c11
    subst c11
    have H1 : (if (t397.length : Int) = 0 then ((tree_Climb.f (wrap64 (Int.tmod a0 4)) a2_0 a2_1 a2_2 l2_5).bind fun bt401 => (attestorlaw07_TreeBinds.j1 kj4 (([(⟨bt401.1, bt401.2⟩ : S36)] : List (S36))) (wrap64 (Int.tmod a0 4)) a2_0 a2_1 a2_2 a2_3 a2_4 l2_5 l2_6)) else (attestorlaw07_TreeBinds.j1 kj4 t397 (wrap64 (Int.tmod a0 4)) a2_0 a2_1 a2_2 a2_3 a2_4 l2_5 l2_6)) = some r := by rw [if_neg (show ¬ (false = true) by decide)] at H; exact H
    clear H
    have H := H1
    clear H1
    have HC14 := Aside0.mk H
    clear H
    obtain ⟨Ao15, co15, eo15⟩ := Kd.R_slice HO_1.out
    subst eo15
    go_upto_if 32 with (fail)
    go_cut [1] (fun v1 wc => ∃ (kq : Nat) (x1_13 : List (S36)), Aside0 (attestorlaw07_TreeBinds.j1 kq x1_13 (wrap64 (Int.tmod a0 4)) a2_0 a2_1 a2_2 a2_3 a2_4 l2_5 l2_6 = some r) ∧ Aside0 (kq ≤ kj4) ∧ Aside0 (Kd.R k36 36 wc w.heap.size (fun _ => True) v1 x1_13) ∧ Aside0 (wc.heap[g396]? = some (.cells #[.int .i64 a2_0, .int .u64 a2_1, .int .u64 a2_2, .int .u64 a2_3, .int .u64 a2_4, (.slice A2_5 l2_5.length c2_5), (.slice A2_6 l2_6.length c2_6)] 47 (0, 0))) ∧ Aside0 (Below w.heap.size w wc))
    case first =>
     have H := HC14.out
     clear HC14
     by_cases c16 : (t397.length : Int) = 0
     ·rw [if_pos c16] at H
      have c16b0 : ((t397.length : Int) == 0) = true := beq_iff_eq.mpr c16
      have c16b1 : ((t397.length : Int) != 0) = false := bne_eq_false_iff_eq.mpr c16
      clear c16
      (first | rw [c16b0] | (simp only [i64_w, i32_w]; rw [c16b0]) | skip)
      replace H := Option.bind_eq_some_iff.mp H
      obtain ⟨⟨t401, t402⟩, A170, H⟩ := H
      replace H : (attestorlaw07_TreeBinds.j1 kj4 (([(⟨t401, t402⟩ : S36)] : List (S36))) (wrap64 (Int.tmod a0 4)) a2_0 a2_1 a2_2 a2_3 a2_4 l2_5 l2_6) = some r := H
      have A17 := Aside0.mk A170
      clear A170
      obtain ⟨y403, hy403⟩ : ∃ y_ : List (S36), y_ = (([(⟨t401, t402⟩ : S36)] : List (S36))) := ⟨_, rfl⟩
      replace H : (attestorlaw07_TreeBinds.j1 kj4 y403 (wrap64 (Int.tmod a0 4)) a2_0 a2_1 a2_2 a2_3 a2_4 l2_5 l2_6) = some r := by first | (rw [hy403]; with_reducible exact H) | (have H2_ := (Option.bind_some _ _).symm.trans H; rw [hy403]; with_reducible exact H2_) | (have H2_ := (Option.bind_some _ _).symm.trans H; with_reducible exact H2_) | with_reducible exact H | (rw [hy403]; exact H) | exact H
      have Ny403 := Aside0.mk hy403
      clear hy403
      have H' := Aside0.mk H
      clear H
      have hcz18_0 : wc.cell? ⟨g396, 0, none⟩ = some (.int .i64 a2_0) := bq_ B396 0
      have hcz18_1 : wc.cell? ⟨g396, 1, none⟩ = some (.int .u64 a2_1) := bq_ B396 1
      have hcz18_2 : wc.cell? ⟨g396, 2, none⟩ = some (.int .u64 a2_2) := bq_ B396 2
      have hcz18_3 : wc.cell? ⟨g396, 3, none⟩ = some (.int .u64 a2_3) := bq_ B396 3
      have hcz18_4 : wc.cell? ⟨g396, 4, none⟩ = some (.int .u64 a2_4) := bq_ B396 4
      have hcz18_5 : wc.cell? ⟨g396, 5, none⟩ = some (.slice A2_5 l2_5.length c2_5) := bq_ B396 5
      have hcz18_6 : wc.cell? ⟨g396, 6, none⟩ = some (.slice A2_6 l2_6.length c2_6) := bq_ B396 6
      have hfz18_0 := blk_frozen B396.out 0
      have hfz18_1 := blk_frozen B396.out 1
      have hfz18_2 := blk_frozen B396.out 2
      have hfz18_3 := blk_frozen B396.out 3
      have hfz18_4 := blk_frozen B396.out 4
      have hfz18_5 := blk_frozen B396.out 5
      have hfz18_6 := blk_frozen B396.out 6
      go_wp2_with (first | ((with_reducible refine gate_callee (f := 24) rfl ?_); refine goesL_ (some 40) rfl rfl Tryd.func24 (by kernel_rfl) rfl #[.int .i64 (wrap64 (Int.tmod a0 4)), .int .i64 a2_0, .agg #[.int .u64 a2_1, .int .u64 a2_2], .slice A2_5 l2_5.length c2_5] rfl (by (try simp only [List.map_toArray, List.map_cons, List.map_nil]); first | done | rfl | (go_simp; done)) ?_; (with_reducible refine (tree_Climb.calls (wrap64 (Int.tmod a0 4)) a2_0 a2_1 a2_2 _ _ l2_5 t401 t402 _ ?side1 ?side2 ?side3 A17.out).mono ?_); (case side1 => repeat (first | exact (Kd.C_below HR2_5.out HB.out) | (with_reducible refine Kd.C_alloc ?_ _) | (with_reducible refine Kd.C_drewN ?_ _) | (with_reducible refine Kd.C_drew ?_))); (case side2 => exact HC2_5.out); (case side3 => repeat (first | exact (GL.below HRG.out HB.out) | (with_reducible refine GL.alloc ?_ _) | (with_reducible refine GL.drewN ?_ _) | (with_reducible refine GL.drew ?_))); rintro e w19 ⟨rfl, hb⟩; refine ⟨_, rfl, ?_⟩; have n0_ := Aside0.mk (Kd.R_below (by (with_reducible repeat (first | apply Kd.R_alloc | apply Kd.R_drewN | apply Kd.R_drew)); exact HO_1.out) hb); have n1_ := Aside0.mk (blk_below (g := g396) (o := .cells #[.int .i64 a2_0, .int .u64 a2_1, .int .u64 a2_2, .int .u64 a2_3, .int .u64 a2_4, .slice A2_5 l2_5.length c2_5, .slice A2_6 l2_6.length c2_6] 47 (0, 0)) (by exact B396.out) hb); have n2_ := Aside0.mk (below_step (by repeat (first | (with_reducible first | exact HB.out | apply below_alloc | apply pw_below_drewN | apply below_drew1 | refine below_set ?_ GE396.out) | exact HB.out)) hb); clear HO_1; clear B396; clear HB; have HO_1 := n0_; have B396 := n1_; have HB := n2_; clear n0_ n1_ n2_; (try clear hb); (try clear hb2); (try clear hk); (try clear hi)) | ((with_reducible refine gate_dst (N := 41) rfl ?_); (try (refine gate_guard (by rfl) ?_; dsimp only)); refine Kd.R_lit k36 _ 36 ?hg (N := 41) ?hd (xs := ([(⟨t401, t402⟩ : S36)] : List (S36))) (inner := [.int .u64 t401, .int .u64 t402]) (ok := fun _ => True) (okp := fun _ => True) ?hr ?hp (fun _ hk => hk) trivial (Below.refl _ _) (Nat.le_refl _) (by simp) ?_; (case hd => rfl); (case hg => rfl); (case hr => first | (go_simp; done) | (go_simp; rfl)); (case hp => exact (Reps.c2 (show Kd.M k36 _ _ _ (⟨t401, t402⟩ : S36) [.int .u64 t401, .int .u64 t402] from (k36_mkM _ _ _ (⟨t401, t402⟩ : S36) )) (Reps.none _ _))); intro v404 w20 ho21 hb hg_ hnew_; clear hg_ hnew_; (first | rw [← Ny403.out] at ho21 | (simp only [Int.reduceToNat] at ho21; rw [← Ny403.out] at ho21)); have n0_ := Aside0.mk (Kd.R_elder' (by (with_reducible repeat (first | apply Kd.R_alloc | apply Kd.R_drewN | apply Kd.R_drew)); exact HO_1.out) (Kd.R_base ho21) hb); have n1_ := Aside0.mk (Kd.R_lower (Kd.R_new' ho21 (Kd.R_lt (by (with_reducible repeat (first | apply Kd.R_alloc | apply Kd.R_drewN | apply Kd.R_drew)); exact HO_1.out))) (below_size (by repeat (first | (with_reducible first | exact HB.out | apply below_alloc | apply pw_below_drewN | apply below_drew1 | refine below_set ?_ GE396.out) | exact HB.out)))); have n2_ := Aside0.mk (blk_below (g := g396) (o := .cells #[.int .i64 a2_0, .int .u64 a2_1, .int .u64 a2_2, .int .u64 a2_3, .int .u64 a2_4, .slice A2_5 l2_5.length c2_5, .slice A2_6 l2_6.length c2_6] 47 (0, 0)) (by exact B396.out) hb); have n3_ := Aside0.mk (below_step (by repeat (first | (with_reducible first | exact HB.out | apply below_alloc | apply pw_below_drewN | apply below_drew1 | refine below_set ?_ GE396.out) | exact HB.out)) hb); clear HO_1; clear B396; clear HB; have HO_1 := n0_; have HO405 := n1_; have B396 := n2_; have HB := n3_; clear n0_ n1_ n2_ n3_; clear hb ho21))
      go_meet
      case rel => exact ⟨_, (y403), H', ⟨by have := HJ4.out; first | omega | exact Nat.le_refl _⟩, ⟨by (with_reducible repeat (first | apply Kd.R_alloc | apply Kd.R_drewN | apply Kd.R_drew)); exact Kd.R_mono HO405.out (fun _ hk => trivial)⟩, ⟨by exact B396.out⟩, ⟨by repeat (first | (with_reducible first | exact HB.out | apply below_alloc | apply pw_below_drewN | apply below_drew1 | refine below_set ?_ GE396.out) | exact HB.out)⟩⟩
     ·rw [if_neg c16] at H
      have c16b0 : ((t397.length : Int) == 0) = false := beq_eq_false_iff_ne.mpr c16
      have c16b1 : ((t397.length : Int) != 0) = true := bne_iff_ne.mpr c16
      have c16b2 : ¬ (t397 = []) := fun h_ => c16 (by rw [h_]; rfl)
      (first | rw [c16b0] | (simp only [i64_w, i32_w]; rw [c16b0]) | skip)
      have H' := Aside0.mk H
      clear H
      go_wp2
      go_meet
      case rel => exact ⟨_, (t397), H', ⟨by have := HJ4.out; first | omega | exact Nat.le_refl _⟩, ⟨by (with_reducible repeat (first | apply Kd.R_alloc | apply Kd.R_drewN | apply Kd.R_drew)); exact HO_1.out⟩, ⟨by exact B396.out⟩, ⟨by repeat (first | (with_reducible first | exact HB.out | apply below_alloc | apply pw_below_drewN | apply below_drew1 | refine below_set ?_ GE396.out) | exact HB.out)⟩⟩
    case rest =>
     clear HC14
     try clear c1
     try clear c2
     try clear p2
     try clear p6
     try clear c8
     try clear c8b0
     try clear c8b1
     try clear c8b2
     try clear c10
     try clear c11
     try clear c12
     try clear c16
     try clear c16b0
     try clear c16b1
     try clear c16b2
     try clear c21
     try clear hcz10_0
     try clear hcz10_1
     try clear hcz10_2
     try clear hcz10_3
     try clear hcz10_4
     try clear hcz10_5
     try clear hcz10_6
     try clear hcz18_0
     try clear hcz18_1
     try clear hcz18_2
     try clear hcz18_3
     try clear hcz18_4
     try clear hcz18_5
     try clear hcz18_6
     try clear hcz9_0
     try clear hcz9_1
     try clear hcz9_2
     try clear hcz9_3
     try clear hcz9_4
     try clear hcz9_5
     try clear hcz9_6
     try clear hfz10_0
     try clear hfz10_1
     try clear hfz10_2
     try clear hfz10_3
     try clear hfz10_4
     try clear hfz10_5
     try clear hfz10_6
     try clear hfz18_0
     try clear hfz18_1
     try clear hfz18_2
     try clear hfz18_3
     try clear hfz18_4
     try clear hfz18_5
     try clear hfz18_6
     try clear hfz9_0
     try clear hfz9_1
     try clear hfz9_2
     try clear hfz9_3
     try clear hfz9_4
     try clear hfz9_5
     try clear hfz9_6
     try clear p2
     try clear p6
     obtain ⟨kq, x1_13, HA, HJ13, HO_1, B396, HB⟩ := hcut
     cases kq with
     | zero => exact absurd HA.out (by simp [attestorlaw07_TreeBinds.j1])
     | succ kj13 =>
      have H := HA.out
      clear HA
      simp only [attestorlaw07_TreeBinds.j1] at H
      replace H := Option.bind_eq_some_iff.mp H
      obtain ⟨⟨t406, t407, t408, t409, t410, t411, t412, t413, t414⟩, A220, H⟩ := H
      replace H : ((tree_Check.f (wrap64 (Int.tmod a0 4)) x1_13 a2_0 a2_1 a2_2 l2_5).bind fun t417 => (if t417 = true then ((tree_Check.f (wrap64 (Int.tmod a0 4)) x1_13 a2_0 a2_3 a2_4 l2_6).bind fun t418 => (if t418 = true then ((attestorlaw07_same.f kj13 a2_0 a2_1 a2_2 a2_3 a2_4 l2_5 l2_6).bind fun t419 => (if t419 = true then (attestorlaw07_TreeBinds.j2 kj13 (wrap64 (Int.tmod a0 4)) t414 false t406 t407 t408 t409 t410 t411 t412 t413) else (attestorlaw07_TreeBinds.j2 kj13 (wrap64 (Int.tmod a0 4)) t414 (!t414) t406 t407 t408 t409 t410 t411 t412 t413))) else (attestorlaw07_TreeBinds.j2 kj13 (wrap64 (Int.tmod a0 4)) t414 false t406 t407 t408 t409 t410 t411 t412 t413))) else (attestorlaw07_TreeBinds.j2 kj13 (wrap64 (Int.tmod a0 4)) t414 false t406 t407 t408 t409 t410 t411 t412 t413))) = some r := H
      have A22 := Aside0.mk A220
      clear A220
      have HC23 := Aside0.mk H
      clear H
      have hcz24_0 : wc.cell? ⟨g396, 0, none⟩ = some (.int .i64 a2_0) := bq_ B396 0
      have hcz24_1 : wc.cell? ⟨g396, 1, none⟩ = some (.int .u64 a2_1) := bq_ B396 1
      have hcz24_2 : wc.cell? ⟨g396, 2, none⟩ = some (.int .u64 a2_2) := bq_ B396 2
      have hcz24_3 : wc.cell? ⟨g396, 3, none⟩ = some (.int .u64 a2_3) := bq_ B396 3
      have hcz24_4 : wc.cell? ⟨g396, 4, none⟩ = some (.int .u64 a2_4) := bq_ B396 4
      have hcz24_5 : wc.cell? ⟨g396, 5, none⟩ = some (.slice A2_5 l2_5.length c2_5) := bq_ B396 5
      have hcz24_6 : wc.cell? ⟨g396, 6, none⟩ = some (.slice A2_6 l2_6.length c2_6) := bq_ B396 6
      have hfz24_0 := blk_frozen B396.out 0
      have hfz24_1 := blk_frozen B396.out 1
      have hfz24_2 := blk_frozen B396.out 2
      have hfz24_3 := blk_frozen B396.out 3
      have hfz24_4 := blk_frozen B396.out 4
      have hfz24_5 := blk_frozen B396.out 5
      have hfz24_6 := blk_frozen B396.out 6
      go_upto_region 8 with (first | ((with_reducible refine gate_callee (f := 28) rfl ?_); refine goesL_ (some 54) rfl rfl Tryd.func28 (by kernel_rfl) rfl #[.int .i64 (wrap64 (Int.tmod a0 4)), .int .i64 a2_0, .agg #[.int .u64 a2_1, .int .u64 a2_2], .agg #[.int .u64 a2_3, .int .u64 a2_4], .slice A2_5 l2_5.length c2_5, .slice A2_6 l2_6.length c2_6] rfl (by (try simp only [List.map_toArray, List.map_cons, List.map_nil]); first | done | rfl | (go_simp; done)) ?_; (with_reducible refine (tree_Clash.calls (wrap64 (Int.tmod a0 4)) a2_0 a2_1 a2_2 a2_3 a2_4 _ _ l2_5 _ _ l2_6 t406 t407 t408 t409 t410 t411 t412 t413 t414 _ ?side1 ?side2 ?side3 ?side4 ?side5 A22.out).mono ?_); (case side1 => repeat (first | exact (Kd.C_below HR2_5.out HB.out) | (with_reducible refine Kd.C_alloc ?_ _) | (with_reducible refine Kd.C_drewN ?_ _) | (with_reducible refine Kd.C_drew ?_))); (case side2 => exact HC2_5.out); (case side3 => repeat (first | exact (Kd.C_below HR2_6.out HB.out) | (with_reducible refine Kd.C_alloc ?_ _) | (with_reducible refine Kd.C_drewN ?_ _) | (with_reducible refine Kd.C_drew ?_))); (case side4 => exact HC2_6.out); (case side5 => repeat (first | exact (GL.below HRG.out HB.out) | (with_reducible refine GL.alloc ?_ _) | (with_reducible refine GL.drewN ?_ _) | (with_reducible refine GL.drew ?_))); rintro e w25 ⟨rfl, hb⟩; refine ⟨_, rfl, ?_⟩; have n0_ := Aside0.mk (Kd.R_below (by (with_reducible repeat (first | apply Kd.R_alloc | apply Kd.R_drewN | apply Kd.R_drew)); exact HO_1.out) hb); have n1_ := Aside0.mk (blk_below (g := g396) (o := .cells #[.int .i64 a2_0, .int .u64 a2_1, .int .u64 a2_2, .int .u64 a2_3, .int .u64 a2_4, .slice A2_5 l2_5.length c2_5, .slice A2_6 l2_6.length c2_6] 47 (0, 0)) (by exact B396.out) hb); have n2_ := Aside0.mk (below_step (by repeat (first | (with_reducible first | exact HB.out | apply below_alloc | apply pw_below_drewN | apply below_drew1 | refine below_set ?_ GE396.out) | exact HB.out)) hb); clear HO_1; clear B396; clear HB; have HO_1 := n0_; have B396 := n1_; have HB := n2_; clear n0_ n1_ n2_; (try clear hb); (try clear hb2); (try clear hk); (try clear hi)) | ((with_reducible refine gate_dst (N := 8) rfl ?_); (try (refine gate_guard (by rfl) ?_; dsimp only)); refine box_event ?hg (N := 8) ?hd (cs := #[.int .u64 0, .int .u64 0, .int .u64 0, .int .u64 0]) (t := 48) ?hr ?_; (case hd => rfl); (case hg => rfl); (case hr => first | (go_simp; done) | (go_simp; rfl)); intro g415 hg w26 hbox hb; have n0_ := Aside0.mk (Kd.R_below (by (with_reducible repeat (first | apply Kd.R_alloc | apply Kd.R_drewN | apply Kd.R_drew)); exact HO_1.out) hb); have n1_ := Aside0.mk (blk_below (g := g396) (o := .cells #[.int .i64 a2_0, .int .u64 a2_1, .int .u64 a2_2, .int .u64 a2_3, .int .u64 a2_4, .slice A2_5 l2_5.length c2_5, .slice A2_6 l2_6.length c2_6] 47 (0, 0)) (by exact B396.out) hb); have n2_ := Aside0.mk (below_step (by repeat (first | (with_reducible first | exact HB.out | apply below_alloc | apply pw_below_drewN | apply below_drew1 | refine below_set ?_ GE396.out) | exact HB.out)) hb); have n3_ := Aside0.mk (hbox); have n4_ := Aside0.mk ((by rw [hg]; exact (below_size (by repeat (first | (with_reducible first | exact HB.out | apply below_alloc | apply pw_below_drewN | apply below_drew1 | refine below_set ?_ GE396.out) | exact HB.out))) : w.heap.size ≤ g415)); have n5_ := Aside0.mk ((by rw [hg]; exact (below_size (by repeat (first | (with_reducible first | exact HB.out | apply below_alloc | apply pw_below_drewN | apply below_drew1 | refine below_set ?_ GE396.out) | exact HB.out))) : w.heap.size ≤ g415)); have n6_ := Aside0.mk ((by rw [hg]; exact Nat.ne_of_lt (blk_lt (g := g396) (o := .cells #[.int .i64 a2_0, .int .u64 a2_1, .int .u64 a2_2, .int .u64 a2_3, .int .u64 a2_4, .slice A2_5 l2_5.length c2_5, .slice A2_6 l2_6.length c2_6] 47 (0, 0)) (by exact B396.out)) : g396 ≠ g415)); have n7_ := Aside0.mk ((by rw [hg]; exact Nat.ne_of_gt (blk_lt (g := g396) (o := .cells #[.int .i64 a2_0, .int .u64 a2_1, .int .u64 a2_2, .int .u64 a2_3, .int .u64 a2_4, .slice A2_5 l2_5.length c2_5, .slice A2_6 l2_6.length c2_6] 47 (0, 0)) (by exact B396.out)) : g415 ≠ g396)); clear HO_1; clear B396; clear HB; have HO_1 := n0_; have B396 := n1_; have HB := n2_; have B415 := n3_; have GW415 := n4_; have GE415 := n5_; have NB396_415 := n6_; have NB415_396 := n7_; clear n0_ n1_ n2_ n3_ n4_ n5_ n6_ n7_; clear hb hbox hg) | ((with_reducible refine gate_dst (N := 9) rfl ?_); (try (refine gate_guard (by rfl) ?_; dsimp only)); refine box_event ?hg (N := 9) ?hd (cs := #[.int .u64 0, .int .u64 0, .int .u64 0, .int .u64 0]) (t := 48) ?hr ?_; (case hd => rfl); (case hg => rfl); (case hr => first | (go_simp; done) | (go_simp; rfl)); intro g416 hg w27 hbox hb; have n0_ := Aside0.mk (Kd.R_below (by (with_reducible repeat (first | apply Kd.R_alloc | apply Kd.R_drewN | apply Kd.R_drew)); exact HO_1.out) hb); have n1_ := Aside0.mk (blk_below (g := g396) (o := .cells #[.int .i64 a2_0, .int .u64 a2_1, .int .u64 a2_2, .int .u64 a2_3, .int .u64 a2_4, .slice A2_5 l2_5.length c2_5, .slice A2_6 l2_6.length c2_6] 47 (0, 0)) (by exact B396.out) hb); have n2_ := Aside0.mk (blk_below (g := g415) (o := .cells #[.int .u64 0, .int .u64 0, .int .u64 0, .int .u64 0] 48 (0, 0)) (by exact B415.out) hb); have n3_ := Aside0.mk (below_step (by repeat (first | (with_reducible first | exact HB.out | apply below_alloc | apply pw_below_drewN | apply below_drew1 | refine below_set ?_ GE396.out | refine below_set ?_ GE415.out) | exact HB.out)) hb); have n4_ := Aside0.mk (hbox); have n5_ := Aside0.mk ((by rw [hg]; exact (below_size (by repeat (first | (with_reducible first | exact HB.out | apply below_alloc | apply pw_below_drewN | apply below_drew1 | refine below_set ?_ GE396.out | refine below_set ?_ GE415.out) | exact HB.out))) : w.heap.size ≤ g416)); have n6_ := Aside0.mk ((by rw [hg]; exact (below_size (by repeat (first | (with_reducible first | exact HB.out | apply below_alloc | apply pw_below_drewN | apply below_drew1 | refine below_set ?_ GE396.out | refine below_set ?_ GE415.out) | exact HB.out))) : w.heap.size ≤ g416)); have n7_ := Aside0.mk ((by rw [hg]; exact Nat.ne_of_lt (blk_lt (g := g396) (o := .cells #[.int .i64 a2_0, .int .u64 a2_1, .int .u64 a2_2, .int .u64 a2_3, .int .u64 a2_4, .slice A2_5 l2_5.length c2_5, .slice A2_6 l2_6.length c2_6] 47 (0, 0)) (by exact B396.out)) : g396 ≠ g416)); have n8_ := Aside0.mk ((by rw [hg]; exact Nat.ne_of_gt (blk_lt (g := g396) (o := .cells #[.int .i64 a2_0, .int .u64 a2_1, .int .u64 a2_2, .int .u64 a2_3, .int .u64 a2_4, .slice A2_5 l2_5.length c2_5, .slice A2_6 l2_6.length c2_6] 47 (0, 0)) (by exact B396.out)) : g416 ≠ g396)); have n9_ := Aside0.mk ((by rw [hg]; exact Nat.ne_of_lt (blk_lt (g := g415) (o := .cells #[.int .u64 0, .int .u64 0, .int .u64 0, .int .u64 0] 48 (0, 0)) (by exact B415.out)) : g415 ≠ g416)); have n10_ := Aside0.mk ((by rw [hg]; exact Nat.ne_of_gt (blk_lt (g := g415) (o := .cells #[.int .u64 0, .int .u64 0, .int .u64 0, .int .u64 0] 48 (0, 0)) (by exact B415.out)) : g416 ≠ g415)); clear HO_1; clear B396; clear B415; clear HB; have HO_1 := n0_; have B396 := n1_; have B415 := n2_; have HB := n3_; have B416 := n4_; have GW416 := n5_; have GE416 := n6_; have NB396_416 := n7_; have NB416_396 := n8_; have NB415_416 := n9_; have NB416_415 := n10_; clear n0_ n1_ n2_ n3_ n4_ n5_ n6_ n7_ n8_ n9_ n10_; clear hb hbox hg; have hnb28 := NB415_396.out; have hnc28 := NB396_415.out; have hnb29 := NB415_416.out; have hnc29 := NB416_415.out; have hcz30_0 : w27.cell? ⟨g415, 0, none⟩ = some (.int .u64 0) := bq_ B415 0; have hcz30_1 : w27.cell? ⟨g415, 1, none⟩ = some (.int .u64 0) := bq_ B415 1; have hcz30_2 : w27.cell? ⟨g415, 2, none⟩ = some (.int .u64 0) := bq_ B415 2; have hcz30_3 : w27.cell? ⟨g415, 3, none⟩ = some (.int .u64 0) := bq_ B415 3; have hfz30_0 := blk_frozen B415.out 0; have hfz30_1 := blk_frozen B415.out 1; have hfz30_2 := blk_frozen B415.out 2; have hfz30_3 := blk_frozen B415.out 3; have hnb31 := NB416_396.out; have hnc31 := NB396_416.out; have hcz32_0 : w27.cell? ⟨g416, 0, none⟩ = some (.int .u64 0) := bq_ B416 0; have hcz32_1 : w27.cell? ⟨g416, 1, none⟩ = some (.int .u64 0) := bq_ B416 1; have hcz32_2 : w27.cell? ⟨g416, 2, none⟩ = some (.int .u64 0) := bq_ B416 2; have hcz32_3 : w27.cell? ⟨g416, 3, none⟩ = some (.int .u64 0) := bq_ B416 3; have hfz32_0 := blk_frozen B416.out 0; have hfz32_1 := blk_frozen B416.out 1; have hfz32_2 := blk_frozen B416.out 2; have hfz32_3 := blk_frozen B416.out 3))
      (try simp only [Act.put, sa_, sb_, sc_])
      go_cut [86] (fun v86 wc => ∃ (kq : Nat) (x86_22 : Bool), v86 = .bool x86_22 ∧ Aside0 (attestorlaw07_TreeBinds.j2 kq (wrap64 (Int.tmod a0 4)) t414 x86_22 t406 t407 t408 t409 t410 t411 t412 t413 = some r) ∧ Aside0 (kq ≤ kj13) ∧ Aside0 (wc.heap[g396]? = some (.cells #[.int .i64 a2_0, .int .u64 a2_1, .int .u64 a2_2, .int .u64 a2_3, .int .u64 a2_4, (.slice A2_5 l2_5.length c2_5), (.slice A2_6 l2_6.length c2_6)] 47 (0, 0))) ∧ Aside0 (wc.heap[g415]? = some (.cells #[.int .u64 t406, .int .u64 t407, .int .u64 t408, .int .u64 t409] 48 (0, 0))) ∧ Aside0 (wc.heap[g416]? = some (.cells #[.int .u64 t410, .int .u64 t411, .int .u64 t412, .int .u64 t413] 48 (0, 0))) ∧ Aside0 (Below w.heap.size w wc))
      case first =>
       have H := HC23.out
       clear HC23
       replace H := Option.bind_eq_some_iff.mp H
       obtain ⟨t417, A330, H⟩ := H
       have A33 := Aside0.mk A330
       clear A330
       by_cases c34 : t417 = true
       ·subst c34
        have H1 : ((tree_Check.f (wrap64 (Int.tmod a0 4)) x1_13 a2_0 a2_3 a2_4 l2_6).bind fun t418 => (if t418 = true then ((attestorlaw07_same.f kj13 a2_0 a2_1 a2_2 a2_3 a2_4 l2_5 l2_6).bind fun t419 => (if t419 = true then (attestorlaw07_TreeBinds.j2 kj13 (wrap64 (Int.tmod a0 4)) t414 false t406 t407 t408 t409 t410 t411 t412 t413) else (attestorlaw07_TreeBinds.j2 kj13 (wrap64 (Int.tmod a0 4)) t414 (!t414) t406 t407 t408 t409 t410 t411 t412 t413))) else (attestorlaw07_TreeBinds.j2 kj13 (wrap64 (Int.tmod a0 4)) t414 false t406 t407 t408 t409 t410 t411 t412 t413))) = some r := by rw [if_pos rfl] at H; exact H
        clear H
        have H := H1
        clear H1
        replace H := Option.bind_eq_some_iff.mp H
        obtain ⟨t418, A350, H⟩ := H
        have A35 := Aside0.mk A350
        clear A350
        by_cases c36 : t418 = true
        ·subst c36
         have H1 : ((attestorlaw07_same.f kj13 a2_0 a2_1 a2_2 a2_3 a2_4 l2_5 l2_6).bind fun t419 => (if t419 = true then (attestorlaw07_TreeBinds.j2 kj13 (wrap64 (Int.tmod a0 4)) t414 false t406 t407 t408 t409 t410 t411 t412 t413) else (attestorlaw07_TreeBinds.j2 kj13 (wrap64 (Int.tmod a0 4)) t414 (!t414) t406 t407 t408 t409 t410 t411 t412 t413))) = some r := by rw [if_pos rfl] at H; exact H
         clear H
         have H := H1
         clear H1
         replace H := Option.bind_eq_some_iff.mp H
         obtain ⟨t419, A370, H⟩ := H
         have A37 := Aside0.mk A370
         clear A370
         by_cases c38 : t419 = true
         ·subst c38
          have H1 : (attestorlaw07_TreeBinds.j2 kj13 (wrap64 (Int.tmod a0 4)) t414 false t406 t407 t408 t409 t410 t411 t412 t413) = some r := by rw [if_pos rfl] at H; exact H
          clear H
          have H := H1
          clear H1
          have H' := Aside0.mk H
          clear H
          have hnb39 := NB396_415.out
          have hnc39 := NB415_396.out
          have hnb40 := NB396_416.out
          have hnc40 := NB416_396.out
          have hcz41_0 : w27.cell? ⟨g396, 0, none⟩ = some (.int .i64 a2_0) := bq_ B396 0
          have hcz41_1 : w27.cell? ⟨g396, 1, none⟩ = some (.int .u64 a2_1) := bq_ B396 1
          have hcz41_2 : w27.cell? ⟨g396, 2, none⟩ = some (.int .u64 a2_2) := bq_ B396 2
          have hcz41_3 : w27.cell? ⟨g396, 3, none⟩ = some (.int .u64 a2_3) := bq_ B396 3
          have hcz41_4 : w27.cell? ⟨g396, 4, none⟩ = some (.int .u64 a2_4) := bq_ B396 4
          have hcz41_5 : w27.cell? ⟨g396, 5, none⟩ = some (.slice A2_5 l2_5.length c2_5) := bq_ B396 5
          have hcz41_6 : w27.cell? ⟨g396, 6, none⟩ = some (.slice A2_6 l2_6.length c2_6) := bq_ B396 6
          have hfz41_0 := blk_frozen B396.out 0
          have hfz41_1 := blk_frozen B396.out 1
          have hfz41_2 := blk_frozen B396.out 2
          have hfz41_3 := blk_frozen B396.out 3
          have hfz41_4 := blk_frozen B396.out 4
          have hfz41_5 := blk_frozen B396.out 5
          have hfz41_6 := blk_frozen B396.out 6
          obtain ⟨Ao42, co42, eo42⟩ := Kd.R_slice HO_1.out
          subst eo42
          go_wp2_with (first | ((with_reducible refine gate_callee (f := 26) rfl ?_); refine goesL_ (some 66) rfl rfl Tryd.func26 (by kernel_rfl) rfl #[.int .i64 (wrap64 (Int.tmod a0 4)), .slice Ao42 x1_13.length co42, .int .i64 a2_0, .agg #[.int .u64 a2_1, .int .u64 a2_2], .slice A2_5 l2_5.length c2_5] rfl (by (try simp only [List.map_toArray, List.map_cons, List.map_nil]); first | done | rfl | (go_simp; done)) ?_; (with_reducible refine (tree_Check.calls (wrap64 (Int.tmod a0 4)) _ _ x1_13 a2_0 a2_1 a2_2 _ _ l2_5 true _ ?side1 ?side2 ?side3 ?side4 ?side5 A33.out).mono ?_); (case side1 => refine (Kd.R_reads' (e := 36) (base := w.heap.size) (ok := fun k_ => True) (n := x1_13.length) (c := co42) ?_).2.2; exact (by (with_reducible repeat (first | apply Kd.R_alloc | apply Kd.R_drewN | apply Kd.R_drew)); exact (Kd.R_mono (Kd.R_mono (Kd.R_far (p := ⟨g416, 3, none⟩) (Kd.R_far (p := ⟨g416, 2, none⟩) (Kd.R_far (p := ⟨g416, 1, none⟩) (Kd.R_far (p := ⟨g416, 0, none⟩) (Kd.R_far (p := ⟨g415, 3, none⟩) (Kd.R_far (p := ⟨g415, 2, none⟩) (Kd.R_far (p := ⟨g415, 1, none⟩) (Kd.R_far (p := ⟨g415, 0, none⟩) (Kd.R_types (Kd.R_types HO_1.out B415.out (by decide)) B416.out (by decide)) (fun _ hk => hk.1.2) (.int .u64 t406)) (fun _ hk => hk.1.2) (.int .u64 t407)) (fun _ hk => hk.1.2) (.int .u64 t408)) (fun _ hk => hk.1.2) (.int .u64 t409)) (fun _ hk => hk.2) (.int .u64 t410)) (fun _ hk => hk.2) (.int .u64 t411)) (fun _ hk => hk.2) (.int .u64 t412)) (fun _ hk => hk.2) (.int .u64 t413)) (fun _ h_ => h_.1)) (fun _ h_ => h_.1)))); (case side2 => exact (Kd.R_reads' HO_1.out).2.1); (case side3 => exact Kd.C_below HR2_5.out (by repeat (first | (with_reducible first | exact HB.out | apply below_alloc | apply pw_below_drewN | apply below_drew1 | refine below_set ?_ GE396.out | refine below_set ?_ GE415.out | refine below_set ?_ GE416.out) | exact HB.out))); (case side4 => exact HC2_5.out); (case side5 => exact GL.below HRG.out (by repeat (first | (with_reducible first | exact HB.out | apply below_alloc | apply pw_below_drewN | apply below_drew1 | refine below_set ?_ GE396.out | refine below_set ?_ GE415.out | refine below_set ?_ GE416.out) | exact HB.out))); rintro e w43 ⟨rfl, hb⟩; refine ⟨_, rfl, ?_⟩; have n0_ := Aside0.mk (Kd.R_below (by (with_reducible repeat (first | apply Kd.R_alloc | apply Kd.R_drewN | apply Kd.R_drew)); exact (Kd.R_mono (Kd.R_mono (Kd.R_far (p := ⟨g416, 3, none⟩) (Kd.R_far (p := ⟨g416, 2, none⟩) (Kd.R_far (p := ⟨g416, 1, none⟩) (Kd.R_far (p := ⟨g416, 0, none⟩) (Kd.R_far (p := ⟨g415, 3, none⟩) (Kd.R_far (p := ⟨g415, 2, none⟩) (Kd.R_far (p := ⟨g415, 1, none⟩) (Kd.R_far (p := ⟨g415, 0, none⟩) (Kd.R_types (Kd.R_types HO_1.out B415.out (by decide)) B416.out (by decide)) (fun _ hk => hk.1.2) (.int .u64 t406)) (fun _ hk => hk.1.2) (.int .u64 t407)) (fun _ hk => hk.1.2) (.int .u64 t408)) (fun _ hk => hk.1.2) (.int .u64 t409)) (fun _ hk => hk.2) (.int .u64 t410)) (fun _ hk => hk.2) (.int .u64 t411)) (fun _ hk => hk.2) (.int .u64 t412)) (fun _ hk => hk.2) (.int .u64 t413)) (fun _ h_ => h_.1)) (fun _ h_ => h_.1))) hb); have n1_ := Aside0.mk (blk_below (g := g396) (o := .cells #[.int .i64 a2_0, .int .u64 a2_1, .int .u64 a2_2, .int .u64 a2_3, .int .u64 a2_4, .slice A2_5 l2_5.length c2_5, .slice A2_6 l2_6.length c2_6] 47 (0, 0)) (by refine blk_far ?_ NB396_416.out _; refine blk_far ?_ NB396_416.out _; refine blk_far ?_ NB396_416.out _; refine blk_far ?_ NB396_416.out _; refine blk_far ?_ NB396_415.out _; refine blk_far ?_ NB396_415.out _; refine blk_far ?_ NB396_415.out _; refine blk_far ?_ NB396_415.out _; exact B396.out) hb); have n2_ := Aside0.mk (blk_below (g := g415) (o := .cells #[.int .u64 t406, .int .u64 t407, .int .u64 t408, .int .u64 t409] 48 (0, 0)) (by refine blk_far ?_ NB415_416.out _; refine blk_far ?_ NB415_416.out _; refine blk_far ?_ NB415_416.out _; refine blk_far ?_ NB415_416.out _; refine blk_put (cs := #[.int .u64 t406, .int .u64 t407, .int .u64 t408, .int .u64 0]) ?_ 3 _ rfl; refine blk_put (cs := #[.int .u64 t406, .int .u64 t407, .int .u64 0, .int .u64 0]) ?_ 2 _ rfl; refine blk_put (cs := #[.int .u64 t406, .int .u64 0, .int .u64 0, .int .u64 0]) ?_ 1 _ rfl; refine blk_put (cs := #[.int .u64 0, .int .u64 0, .int .u64 0, .int .u64 0]) ?_ 0 _ rfl; exact B415.out) hb); have n3_ := Aside0.mk (blk_below (g := g416) (o := .cells #[.int .u64 t410, .int .u64 t411, .int .u64 t412, .int .u64 t413] 48 (0, 0)) (by refine blk_put (cs := #[.int .u64 t410, .int .u64 t411, .int .u64 t412, .int .u64 0]) ?_ 3 _ rfl; refine blk_put (cs := #[.int .u64 t410, .int .u64 t411, .int .u64 0, .int .u64 0]) ?_ 2 _ rfl; refine blk_put (cs := #[.int .u64 t410, .int .u64 0, .int .u64 0, .int .u64 0]) ?_ 1 _ rfl; refine blk_put (cs := #[.int .u64 0, .int .u64 0, .int .u64 0, .int .u64 0]) ?_ 0 _ rfl; refine blk_far ?_ NB416_415.out _; refine blk_far ?_ NB416_415.out _; refine blk_far ?_ NB416_415.out _; refine blk_far ?_ NB416_415.out _; exact B416.out) hb); have n4_ := Aside0.mk (below_step (by repeat (first | (with_reducible first | exact HB.out | apply below_alloc | apply pw_below_drewN | apply below_drew1 | refine below_set ?_ GE396.out | refine below_set ?_ GE415.out | refine below_set ?_ GE416.out) | exact HB.out)) hb); clear HO_1; clear B396; clear B415; clear B416; clear HB; have HO_1 := n0_; have B396 := n1_; have B415 := n2_; have B416 := n3_; have HB := n4_; clear n0_ n1_ n2_ n3_ n4_; (try clear hb); (try clear hb2); (try clear hk); (try clear hi); have hcz44_0 : w43.cell? ⟨g396, 0, none⟩ = some (.int .i64 a2_0) := bq_ B396 0; have hcz44_1 : w43.cell? ⟨g396, 1, none⟩ = some (.int .u64 a2_1) := bq_ B396 1; have hcz44_2 : w43.cell? ⟨g396, 2, none⟩ = some (.int .u64 a2_2) := bq_ B396 2; have hcz44_3 : w43.cell? ⟨g396, 3, none⟩ = some (.int .u64 a2_3) := bq_ B396 3; have hcz44_4 : w43.cell? ⟨g396, 4, none⟩ = some (.int .u64 a2_4) := bq_ B396 4; have hcz44_5 : w43.cell? ⟨g396, 5, none⟩ = some (.slice A2_5 l2_5.length c2_5) := bq_ B396 5; have hcz44_6 : w43.cell? ⟨g396, 6, none⟩ = some (.slice A2_6 l2_6.length c2_6) := bq_ B396 6; have hfz44_0 := blk_frozen B396.out 0; have hfz44_1 := blk_frozen B396.out 1; have hfz44_2 := blk_frozen B396.out 2; have hfz44_3 := blk_frozen B396.out 3; have hfz44_4 := blk_frozen B396.out 4; have hfz44_5 := blk_frozen B396.out 5; have hfz44_6 := blk_frozen B396.out 6) | (go_at_call 26; (with_reducible refine (tree_Check.calls (wrap64 (Int.tmod a0 4)) _ _ x1_13 a2_0 a2_3 a2_4 _ _ l2_6 true _ ?side1 ?side2 ?side3 ?side4 ?side5 A35.out).mono ?_); (case side1 => repeat (first | exact (Kd.R_reads' HO_1.out).2.2 | (with_reducible refine Kd.C_alloc ?_ _) | (with_reducible refine Kd.C_drewN ?_ _) | (with_reducible refine Kd.C_drew ?_))); (case side2 => exact (Kd.R_reads' HO_1.out).2.1); (case side3 => repeat (first | exact (Kd.C_below HR2_6.out HB.out) | (with_reducible refine Kd.C_alloc ?_ _) | (with_reducible refine Kd.C_drewN ?_ _) | (with_reducible refine Kd.C_drew ?_))); (case side4 => exact HC2_6.out); (case side5 => repeat (first | exact (GL.below HRG.out HB.out) | (with_reducible refine GL.alloc ?_ _) | (with_reducible refine GL.drewN ?_ _) | (with_reducible refine GL.drew ?_))); rintro e w45 ⟨rfl, hb⟩; have n0_ := Aside0.mk (Kd.R_below (by (with_reducible repeat (first | apply Kd.R_alloc | apply Kd.R_drewN | apply Kd.R_drew)); exact HO_1.out) hb); have n1_ := Aside0.mk (blk_below (g := g396) (o := .cells #[.int .i64 a2_0, .int .u64 a2_1, .int .u64 a2_2, .int .u64 a2_3, .int .u64 a2_4, .slice A2_5 l2_5.length c2_5, .slice A2_6 l2_6.length c2_6] 47 (0, 0)) (by exact B396.out) hb); have n2_ := Aside0.mk (blk_below (g := g415) (o := .cells #[.int .u64 t406, .int .u64 t407, .int .u64 t408, .int .u64 t409] 48 (0, 0)) (by exact B415.out) hb); have n3_ := Aside0.mk (blk_below (g := g416) (o := .cells #[.int .u64 t410, .int .u64 t411, .int .u64 t412, .int .u64 t413] 48 (0, 0)) (by exact B416.out) hb); have n4_ := Aside0.mk (below_step (by repeat (first | (with_reducible first | exact HB.out | apply below_alloc | apply pw_below_drewN | apply below_drew1 | refine below_set ?_ GE396.out | refine below_set ?_ GE415.out | refine below_set ?_ GE416.out) | exact HB.out)) hb); clear HO_1; clear B396; clear B415; clear B416; clear HB; have HO_1 := n0_; have B396 := n1_; have B415 := n2_; have B416 := n3_; have HB := n4_; clear n0_ n1_ n2_ n3_ n4_; (try clear hb); (try clear hb2); (try clear hk); (try clear hi); have hcz46_0 : w45.cell? ⟨g396, 0, none⟩ = some (.int .i64 a2_0) := bq_ B396 0; have hcz46_1 : w45.cell? ⟨g396, 1, none⟩ = some (.int .u64 a2_1) := bq_ B396 1; have hcz46_2 : w45.cell? ⟨g396, 2, none⟩ = some (.int .u64 a2_2) := bq_ B396 2; have hcz46_3 : w45.cell? ⟨g396, 3, none⟩ = some (.int .u64 a2_3) := bq_ B396 3; have hcz46_4 : w45.cell? ⟨g396, 4, none⟩ = some (.int .u64 a2_4) := bq_ B396 4; have hcz46_5 : w45.cell? ⟨g396, 5, none⟩ = some (.slice A2_5 l2_5.length c2_5) := bq_ B396 5; have hcz46_6 : w45.cell? ⟨g396, 6, none⟩ = some (.slice A2_6 l2_6.length c2_6) := bq_ B396 6; have hfz46_0 := blk_frozen B396.out 0; have hfz46_1 := blk_frozen B396.out 1; have hfz46_2 := blk_frozen B396.out 2; have hfz46_3 := blk_frozen B396.out 3; have hfz46_4 := blk_frozen B396.out 4; have hfz46_5 := blk_frozen B396.out 5; have hfz46_6 := blk_frozen B396.out 6) | (go_at_call 35; (with_reducible refine (attestorlaw07_same.calls kj13 a2_0 a2_1 a2_2 a2_3 a2_4 _ _ l2_5 _ _ l2_6 true _ ?side1 ?side2 ?side3 ?side4 A37.out).mono ?_); (case side1 => repeat (first | exact (Kd.C_below HR2_5.out HB.out) | (with_reducible refine Kd.C_alloc ?_ _) | (with_reducible refine Kd.C_drewN ?_ _) | (with_reducible refine Kd.C_drew ?_))); (case side2 => exact HC2_5.out); (case side3 => repeat (first | exact (Kd.C_below HR2_6.out HB.out) | (with_reducible refine Kd.C_alloc ?_ _) | (with_reducible refine Kd.C_drewN ?_ _) | (with_reducible refine Kd.C_drew ?_))); (case side4 => exact HC2_6.out); rintro e w47 ⟨rfl, hb⟩; have n0_ := Aside0.mk (Kd.R_below (by (with_reducible repeat (first | apply Kd.R_alloc | apply Kd.R_drewN | apply Kd.R_drew)); exact HO_1.out) hb); have n1_ := Aside0.mk (blk_below (g := g396) (o := .cells #[.int .i64 a2_0, .int .u64 a2_1, .int .u64 a2_2, .int .u64 a2_3, .int .u64 a2_4, .slice A2_5 l2_5.length c2_5, .slice A2_6 l2_6.length c2_6] 47 (0, 0)) (by exact B396.out) hb); have n2_ := Aside0.mk (blk_below (g := g415) (o := .cells #[.int .u64 t406, .int .u64 t407, .int .u64 t408, .int .u64 t409] 48 (0, 0)) (by exact B415.out) hb); have n3_ := Aside0.mk (blk_below (g := g416) (o := .cells #[.int .u64 t410, .int .u64 t411, .int .u64 t412, .int .u64 t413] 48 (0, 0)) (by exact B416.out) hb); have n4_ := Aside0.mk (below_step (by repeat (first | (with_reducible first | exact HB.out | apply below_alloc | apply pw_below_drewN | apply below_drew1 | refine below_set ?_ GE396.out | refine below_set ?_ GE415.out | refine below_set ?_ GE416.out) | exact HB.out)) hb); clear HO_1; clear B396; clear B415; clear B416; clear HB; have HO_1 := n0_; have B396 := n1_; have B415 := n2_; have B416 := n3_; have HB := n4_; clear n0_ n1_ n2_ n3_ n4_; (try clear hb); (try clear hb2); (try clear hk); (try clear hi)))
          go_meet
          case rel => exact ⟨_, (false), (by first | rfl | (simp; done) | (simp [*]; done) | (simp; rfl) | (simp; decide +kernel)), H', ⟨by have := HJ4.out; have := HJ13.out; first | omega | exact Nat.le_refl _⟩, ⟨by exact B396.out⟩, ⟨by exact B415.out⟩, ⟨by exact B416.out⟩, ⟨by repeat (first | (with_reducible first | exact HB.out | apply below_alloc | apply pw_below_drewN | apply below_drew1 | refine below_set ?_ GE396.out | refine below_set ?_ GE415.out | refine below_set ?_ GE416.out) | exact HB.out)⟩⟩
         ·replace c38 := Bool.eq_false_iff.mpr c38
          subst c38
          have H1 : (attestorlaw07_TreeBinds.j2 kj13 (wrap64 (Int.tmod a0 4)) t414 (!t414) t406 t407 t408 t409 t410 t411 t412 t413) = some r := by rw [if_neg (show ¬ (false = true) by decide)] at H; exact H
          clear H
          have H := H1
          clear H1
          have H' := Aside0.mk H
          clear H
          have hnb48 := NB396_415.out
          have hnc48 := NB415_396.out
          have hnb49 := NB396_416.out
          have hnc49 := NB416_396.out
          have hcz50_0 : w27.cell? ⟨g396, 0, none⟩ = some (.int .i64 a2_0) := bq_ B396 0
          have hcz50_1 : w27.cell? ⟨g396, 1, none⟩ = some (.int .u64 a2_1) := bq_ B396 1
          have hcz50_2 : w27.cell? ⟨g396, 2, none⟩ = some (.int .u64 a2_2) := bq_ B396 2
          have hcz50_3 : w27.cell? ⟨g396, 3, none⟩ = some (.int .u64 a2_3) := bq_ B396 3
          have hcz50_4 : w27.cell? ⟨g396, 4, none⟩ = some (.int .u64 a2_4) := bq_ B396 4
          have hcz50_5 : w27.cell? ⟨g396, 5, none⟩ = some (.slice A2_5 l2_5.length c2_5) := bq_ B396 5
          have hcz50_6 : w27.cell? ⟨g396, 6, none⟩ = some (.slice A2_6 l2_6.length c2_6) := bq_ B396 6
          have hfz50_0 := blk_frozen B396.out 0
          have hfz50_1 := blk_frozen B396.out 1
          have hfz50_2 := blk_frozen B396.out 2
          have hfz50_3 := blk_frozen B396.out 3
          have hfz50_4 := blk_frozen B396.out 4
          have hfz50_5 := blk_frozen B396.out 5
          have hfz50_6 := blk_frozen B396.out 6
          obtain ⟨Ao51, co51, eo51⟩ := Kd.R_slice HO_1.out
          subst eo51
          go_wp2_with (first | ((with_reducible refine gate_callee (f := 26) rfl ?_); refine goesL_ (some 66) rfl rfl Tryd.func26 (by kernel_rfl) rfl #[.int .i64 (wrap64 (Int.tmod a0 4)), .slice Ao51 x1_13.length co51, .int .i64 a2_0, .agg #[.int .u64 a2_1, .int .u64 a2_2], .slice A2_5 l2_5.length c2_5] rfl (by (try simp only [List.map_toArray, List.map_cons, List.map_nil]); first | done | rfl | (go_simp; done)) ?_; (with_reducible refine (tree_Check.calls (wrap64 (Int.tmod a0 4)) _ _ x1_13 a2_0 a2_1 a2_2 _ _ l2_5 true _ ?side1 ?side2 ?side3 ?side4 ?side5 A33.out).mono ?_); (case side1 => refine (Kd.R_reads' (e := 36) (base := w.heap.size) (ok := fun k_ => True) (n := x1_13.length) (c := co51) ?_).2.2; exact (by (with_reducible repeat (first | apply Kd.R_alloc | apply Kd.R_drewN | apply Kd.R_drew)); exact (Kd.R_mono (Kd.R_mono (Kd.R_far (p := ⟨g416, 3, none⟩) (Kd.R_far (p := ⟨g416, 2, none⟩) (Kd.R_far (p := ⟨g416, 1, none⟩) (Kd.R_far (p := ⟨g416, 0, none⟩) (Kd.R_far (p := ⟨g415, 3, none⟩) (Kd.R_far (p := ⟨g415, 2, none⟩) (Kd.R_far (p := ⟨g415, 1, none⟩) (Kd.R_far (p := ⟨g415, 0, none⟩) (Kd.R_types (Kd.R_types HO_1.out B415.out (by decide)) B416.out (by decide)) (fun _ hk => hk.1.2) (.int .u64 t406)) (fun _ hk => hk.1.2) (.int .u64 t407)) (fun _ hk => hk.1.2) (.int .u64 t408)) (fun _ hk => hk.1.2) (.int .u64 t409)) (fun _ hk => hk.2) (.int .u64 t410)) (fun _ hk => hk.2) (.int .u64 t411)) (fun _ hk => hk.2) (.int .u64 t412)) (fun _ hk => hk.2) (.int .u64 t413)) (fun _ h_ => h_.1)) (fun _ h_ => h_.1)))); (case side2 => exact (Kd.R_reads' HO_1.out).2.1); (case side3 => exact Kd.C_below HR2_5.out (by repeat (first | (with_reducible first | exact HB.out | apply below_alloc | apply pw_below_drewN | apply below_drew1 | refine below_set ?_ GE396.out | refine below_set ?_ GE415.out | refine below_set ?_ GE416.out) | exact HB.out))); (case side4 => exact HC2_5.out); (case side5 => exact GL.below HRG.out (by repeat (first | (with_reducible first | exact HB.out | apply below_alloc | apply pw_below_drewN | apply below_drew1 | refine below_set ?_ GE396.out | refine below_set ?_ GE415.out | refine below_set ?_ GE416.out) | exact HB.out))); rintro e w52 ⟨rfl, hb⟩; refine ⟨_, rfl, ?_⟩; have n0_ := Aside0.mk (Kd.R_below (by (with_reducible repeat (first | apply Kd.R_alloc | apply Kd.R_drewN | apply Kd.R_drew)); exact (Kd.R_mono (Kd.R_mono (Kd.R_far (p := ⟨g416, 3, none⟩) (Kd.R_far (p := ⟨g416, 2, none⟩) (Kd.R_far (p := ⟨g416, 1, none⟩) (Kd.R_far (p := ⟨g416, 0, none⟩) (Kd.R_far (p := ⟨g415, 3, none⟩) (Kd.R_far (p := ⟨g415, 2, none⟩) (Kd.R_far (p := ⟨g415, 1, none⟩) (Kd.R_far (p := ⟨g415, 0, none⟩) (Kd.R_types (Kd.R_types HO_1.out B415.out (by decide)) B416.out (by decide)) (fun _ hk => hk.1.2) (.int .u64 t406)) (fun _ hk => hk.1.2) (.int .u64 t407)) (fun _ hk => hk.1.2) (.int .u64 t408)) (fun _ hk => hk.1.2) (.int .u64 t409)) (fun _ hk => hk.2) (.int .u64 t410)) (fun _ hk => hk.2) (.int .u64 t411)) (fun _ hk => hk.2) (.int .u64 t412)) (fun _ hk => hk.2) (.int .u64 t413)) (fun _ h_ => h_.1)) (fun _ h_ => h_.1))) hb); have n1_ := Aside0.mk (blk_below (g := g396) (o := .cells #[.int .i64 a2_0, .int .u64 a2_1, .int .u64 a2_2, .int .u64 a2_3, .int .u64 a2_4, .slice A2_5 l2_5.length c2_5, .slice A2_6 l2_6.length c2_6] 47 (0, 0)) (by refine blk_far ?_ NB396_416.out _; refine blk_far ?_ NB396_416.out _; refine blk_far ?_ NB396_416.out _; refine blk_far ?_ NB396_416.out _; refine blk_far ?_ NB396_415.out _; refine blk_far ?_ NB396_415.out _; refine blk_far ?_ NB396_415.out _; refine blk_far ?_ NB396_415.out _; exact B396.out) hb); have n2_ := Aside0.mk (blk_below (g := g415) (o := .cells #[.int .u64 t406, .int .u64 t407, .int .u64 t408, .int .u64 t409] 48 (0, 0)) (by refine blk_far ?_ NB415_416.out _; refine blk_far ?_ NB415_416.out _; refine blk_far ?_ NB415_416.out _; refine blk_far ?_ NB415_416.out _; refine blk_put (cs := #[.int .u64 t406, .int .u64 t407, .int .u64 t408, .int .u64 0]) ?_ 3 _ rfl; refine blk_put (cs := #[.int .u64 t406, .int .u64 t407, .int .u64 0, .int .u64 0]) ?_ 2 _ rfl; refine blk_put (cs := #[.int .u64 t406, .int .u64 0, .int .u64 0, .int .u64 0]) ?_ 1 _ rfl; refine blk_put (cs := #[.int .u64 0, .int .u64 0, .int .u64 0, .int .u64 0]) ?_ 0 _ rfl; exact B415.out) hb); have n3_ := Aside0.mk (blk_below (g := g416) (o := .cells #[.int .u64 t410, .int .u64 t411, .int .u64 t412, .int .u64 t413] 48 (0, 0)) (by refine blk_put (cs := #[.int .u64 t410, .int .u64 t411, .int .u64 t412, .int .u64 0]) ?_ 3 _ rfl; refine blk_put (cs := #[.int .u64 t410, .int .u64 t411, .int .u64 0, .int .u64 0]) ?_ 2 _ rfl; refine blk_put (cs := #[.int .u64 t410, .int .u64 0, .int .u64 0, .int .u64 0]) ?_ 1 _ rfl; refine blk_put (cs := #[.int .u64 0, .int .u64 0, .int .u64 0, .int .u64 0]) ?_ 0 _ rfl; refine blk_far ?_ NB416_415.out _; refine blk_far ?_ NB416_415.out _; refine blk_far ?_ NB416_415.out _; refine blk_far ?_ NB416_415.out _; exact B416.out) hb); have n4_ := Aside0.mk (below_step (by repeat (first | (with_reducible first | exact HB.out | apply below_alloc | apply pw_below_drewN | apply below_drew1 | refine below_set ?_ GE396.out | refine below_set ?_ GE415.out | refine below_set ?_ GE416.out) | exact HB.out)) hb); clear HO_1; clear B396; clear B415; clear B416; clear HB; have HO_1 := n0_; have B396 := n1_; have B415 := n2_; have B416 := n3_; have HB := n4_; clear n0_ n1_ n2_ n3_ n4_; (try clear hb); (try clear hb2); (try clear hk); (try clear hi); have hcz53_0 : w52.cell? ⟨g396, 0, none⟩ = some (.int .i64 a2_0) := bq_ B396 0; have hcz53_1 : w52.cell? ⟨g396, 1, none⟩ = some (.int .u64 a2_1) := bq_ B396 1; have hcz53_2 : w52.cell? ⟨g396, 2, none⟩ = some (.int .u64 a2_2) := bq_ B396 2; have hcz53_3 : w52.cell? ⟨g396, 3, none⟩ = some (.int .u64 a2_3) := bq_ B396 3; have hcz53_4 : w52.cell? ⟨g396, 4, none⟩ = some (.int .u64 a2_4) := bq_ B396 4; have hcz53_5 : w52.cell? ⟨g396, 5, none⟩ = some (.slice A2_5 l2_5.length c2_5) := bq_ B396 5; have hcz53_6 : w52.cell? ⟨g396, 6, none⟩ = some (.slice A2_6 l2_6.length c2_6) := bq_ B396 6; have hfz53_0 := blk_frozen B396.out 0; have hfz53_1 := blk_frozen B396.out 1; have hfz53_2 := blk_frozen B396.out 2; have hfz53_3 := blk_frozen B396.out 3; have hfz53_4 := blk_frozen B396.out 4; have hfz53_5 := blk_frozen B396.out 5; have hfz53_6 := blk_frozen B396.out 6) | (go_at_call 26; (with_reducible refine (tree_Check.calls (wrap64 (Int.tmod a0 4)) _ _ x1_13 a2_0 a2_3 a2_4 _ _ l2_6 true _ ?side1 ?side2 ?side3 ?side4 ?side5 A35.out).mono ?_); (case side1 => repeat (first | exact (Kd.R_reads' HO_1.out).2.2 | (with_reducible refine Kd.C_alloc ?_ _) | (with_reducible refine Kd.C_drewN ?_ _) | (with_reducible refine Kd.C_drew ?_))); (case side2 => exact (Kd.R_reads' HO_1.out).2.1); (case side3 => repeat (first | exact (Kd.C_below HR2_6.out HB.out) | (with_reducible refine Kd.C_alloc ?_ _) | (with_reducible refine Kd.C_drewN ?_ _) | (with_reducible refine Kd.C_drew ?_))); (case side4 => exact HC2_6.out); (case side5 => repeat (first | exact (GL.below HRG.out HB.out) | (with_reducible refine GL.alloc ?_ _) | (with_reducible refine GL.drewN ?_ _) | (with_reducible refine GL.drew ?_))); rintro e w54 ⟨rfl, hb⟩; have n0_ := Aside0.mk (Kd.R_below (by (with_reducible repeat (first | apply Kd.R_alloc | apply Kd.R_drewN | apply Kd.R_drew)); exact HO_1.out) hb); have n1_ := Aside0.mk (blk_below (g := g396) (o := .cells #[.int .i64 a2_0, .int .u64 a2_1, .int .u64 a2_2, .int .u64 a2_3, .int .u64 a2_4, .slice A2_5 l2_5.length c2_5, .slice A2_6 l2_6.length c2_6] 47 (0, 0)) (by exact B396.out) hb); have n2_ := Aside0.mk (blk_below (g := g415) (o := .cells #[.int .u64 t406, .int .u64 t407, .int .u64 t408, .int .u64 t409] 48 (0, 0)) (by exact B415.out) hb); have n3_ := Aside0.mk (blk_below (g := g416) (o := .cells #[.int .u64 t410, .int .u64 t411, .int .u64 t412, .int .u64 t413] 48 (0, 0)) (by exact B416.out) hb); have n4_ := Aside0.mk (below_step (by repeat (first | (with_reducible first | exact HB.out | apply below_alloc | apply pw_below_drewN | apply below_drew1 | refine below_set ?_ GE396.out | refine below_set ?_ GE415.out | refine below_set ?_ GE416.out) | exact HB.out)) hb); clear HO_1; clear B396; clear B415; clear B416; clear HB; have HO_1 := n0_; have B396 := n1_; have B415 := n2_; have B416 := n3_; have HB := n4_; clear n0_ n1_ n2_ n3_ n4_; (try clear hb); (try clear hb2); (try clear hk); (try clear hi); have hcz55_0 : w54.cell? ⟨g396, 0, none⟩ = some (.int .i64 a2_0) := bq_ B396 0; have hcz55_1 : w54.cell? ⟨g396, 1, none⟩ = some (.int .u64 a2_1) := bq_ B396 1; have hcz55_2 : w54.cell? ⟨g396, 2, none⟩ = some (.int .u64 a2_2) := bq_ B396 2; have hcz55_3 : w54.cell? ⟨g396, 3, none⟩ = some (.int .u64 a2_3) := bq_ B396 3; have hcz55_4 : w54.cell? ⟨g396, 4, none⟩ = some (.int .u64 a2_4) := bq_ B396 4; have hcz55_5 : w54.cell? ⟨g396, 5, none⟩ = some (.slice A2_5 l2_5.length c2_5) := bq_ B396 5; have hcz55_6 : w54.cell? ⟨g396, 6, none⟩ = some (.slice A2_6 l2_6.length c2_6) := bq_ B396 6; have hfz55_0 := blk_frozen B396.out 0; have hfz55_1 := blk_frozen B396.out 1; have hfz55_2 := blk_frozen B396.out 2; have hfz55_3 := blk_frozen B396.out 3; have hfz55_4 := blk_frozen B396.out 4; have hfz55_5 := blk_frozen B396.out 5; have hfz55_6 := blk_frozen B396.out 6) | (go_at_call 35; (with_reducible refine (attestorlaw07_same.calls kj13 a2_0 a2_1 a2_2 a2_3 a2_4 _ _ l2_5 _ _ l2_6 false _ ?side1 ?side2 ?side3 ?side4 A37.out).mono ?_); (case side1 => repeat (first | exact (Kd.C_below HR2_5.out HB.out) | (with_reducible refine Kd.C_alloc ?_ _) | (with_reducible refine Kd.C_drewN ?_ _) | (with_reducible refine Kd.C_drew ?_))); (case side2 => exact HC2_5.out); (case side3 => repeat (first | exact (Kd.C_below HR2_6.out HB.out) | (with_reducible refine Kd.C_alloc ?_ _) | (with_reducible refine Kd.C_drewN ?_ _) | (with_reducible refine Kd.C_drew ?_))); (case side4 => exact HC2_6.out); rintro e w56 ⟨rfl, hb⟩; have n0_ := Aside0.mk (Kd.R_below (by (with_reducible repeat (first | apply Kd.R_alloc | apply Kd.R_drewN | apply Kd.R_drew)); exact HO_1.out) hb); have n1_ := Aside0.mk (blk_below (g := g396) (o := .cells #[.int .i64 a2_0, .int .u64 a2_1, .int .u64 a2_2, .int .u64 a2_3, .int .u64 a2_4, .slice A2_5 l2_5.length c2_5, .slice A2_6 l2_6.length c2_6] 47 (0, 0)) (by exact B396.out) hb); have n2_ := Aside0.mk (blk_below (g := g415) (o := .cells #[.int .u64 t406, .int .u64 t407, .int .u64 t408, .int .u64 t409] 48 (0, 0)) (by exact B415.out) hb); have n3_ := Aside0.mk (blk_below (g := g416) (o := .cells #[.int .u64 t410, .int .u64 t411, .int .u64 t412, .int .u64 t413] 48 (0, 0)) (by exact B416.out) hb); have n4_ := Aside0.mk (below_step (by repeat (first | (with_reducible first | exact HB.out | apply below_alloc | apply pw_below_drewN | apply below_drew1 | refine below_set ?_ GE396.out | refine below_set ?_ GE415.out | refine below_set ?_ GE416.out) | exact HB.out)) hb); clear HO_1; clear B396; clear B415; clear B416; clear HB; have HO_1 := n0_; have B396 := n1_; have B415 := n2_; have B416 := n3_; have HB := n4_; clear n0_ n1_ n2_ n3_ n4_; (try clear hb); (try clear hb2); (try clear hk); (try clear hi)))
          go_meet
          case rel => exact ⟨_, (!t414), (by first | rfl | (simp; done) | (simp [*]; done) | (simp; rfl) | (simp; decide +kernel)), H', ⟨by have := HJ4.out; have := HJ13.out; first | omega | exact Nat.le_refl _⟩, ⟨by exact B396.out⟩, ⟨by exact B415.out⟩, ⟨by exact B416.out⟩, ⟨by repeat (first | (with_reducible first | exact HB.out | apply below_alloc | apply pw_below_drewN | apply below_drew1 | refine below_set ?_ GE396.out | refine below_set ?_ GE415.out | refine below_set ?_ GE416.out) | exact HB.out)⟩⟩
        ·replace c36 := Bool.eq_false_iff.mpr c36
         subst c36
         have H1 : (attestorlaw07_TreeBinds.j2 kj13 (wrap64 (Int.tmod a0 4)) t414 false t406 t407 t408 t409 t410 t411 t412 t413) = some r := by rw [if_neg (show ¬ (false = true) by decide)] at H; exact H
         clear H
         have H := H1
         clear H1
         have H' := Aside0.mk H
         clear H
         have hnb57 := NB396_415.out
         have hnc57 := NB415_396.out
         have hnb58 := NB396_416.out
         have hnc58 := NB416_396.out
         have hcz59_0 : w27.cell? ⟨g396, 0, none⟩ = some (.int .i64 a2_0) := bq_ B396 0
         have hcz59_1 : w27.cell? ⟨g396, 1, none⟩ = some (.int .u64 a2_1) := bq_ B396 1
         have hcz59_2 : w27.cell? ⟨g396, 2, none⟩ = some (.int .u64 a2_2) := bq_ B396 2
         have hcz59_3 : w27.cell? ⟨g396, 3, none⟩ = some (.int .u64 a2_3) := bq_ B396 3
         have hcz59_4 : w27.cell? ⟨g396, 4, none⟩ = some (.int .u64 a2_4) := bq_ B396 4
         have hcz59_5 : w27.cell? ⟨g396, 5, none⟩ = some (.slice A2_5 l2_5.length c2_5) := bq_ B396 5
         have hcz59_6 : w27.cell? ⟨g396, 6, none⟩ = some (.slice A2_6 l2_6.length c2_6) := bq_ B396 6
         have hfz59_0 := blk_frozen B396.out 0
         have hfz59_1 := blk_frozen B396.out 1
         have hfz59_2 := blk_frozen B396.out 2
         have hfz59_3 := blk_frozen B396.out 3
         have hfz59_4 := blk_frozen B396.out 4
         have hfz59_5 := blk_frozen B396.out 5
         have hfz59_6 := blk_frozen B396.out 6
         obtain ⟨Ao60, co60, eo60⟩ := Kd.R_slice HO_1.out
         subst eo60
         go_wp2_with (first | ((with_reducible refine gate_callee (f := 26) rfl ?_); refine goesL_ (some 66) rfl rfl Tryd.func26 (by kernel_rfl) rfl #[.int .i64 (wrap64 (Int.tmod a0 4)), .slice Ao60 x1_13.length co60, .int .i64 a2_0, .agg #[.int .u64 a2_1, .int .u64 a2_2], .slice A2_5 l2_5.length c2_5] rfl (by (try simp only [List.map_toArray, List.map_cons, List.map_nil]); first | done | rfl | (go_simp; done)) ?_; (with_reducible refine (tree_Check.calls (wrap64 (Int.tmod a0 4)) _ _ x1_13 a2_0 a2_1 a2_2 _ _ l2_5 true _ ?side1 ?side2 ?side3 ?side4 ?side5 A33.out).mono ?_); (case side1 => refine (Kd.R_reads' (e := 36) (base := w.heap.size) (ok := fun k_ => True) (n := x1_13.length) (c := co60) ?_).2.2; exact (by (with_reducible repeat (first | apply Kd.R_alloc | apply Kd.R_drewN | apply Kd.R_drew)); exact (Kd.R_mono (Kd.R_mono (Kd.R_far (p := ⟨g416, 3, none⟩) (Kd.R_far (p := ⟨g416, 2, none⟩) (Kd.R_far (p := ⟨g416, 1, none⟩) (Kd.R_far (p := ⟨g416, 0, none⟩) (Kd.R_far (p := ⟨g415, 3, none⟩) (Kd.R_far (p := ⟨g415, 2, none⟩) (Kd.R_far (p := ⟨g415, 1, none⟩) (Kd.R_far (p := ⟨g415, 0, none⟩) (Kd.R_types (Kd.R_types HO_1.out B415.out (by decide)) B416.out (by decide)) (fun _ hk => hk.1.2) (.int .u64 t406)) (fun _ hk => hk.1.2) (.int .u64 t407)) (fun _ hk => hk.1.2) (.int .u64 t408)) (fun _ hk => hk.1.2) (.int .u64 t409)) (fun _ hk => hk.2) (.int .u64 t410)) (fun _ hk => hk.2) (.int .u64 t411)) (fun _ hk => hk.2) (.int .u64 t412)) (fun _ hk => hk.2) (.int .u64 t413)) (fun _ h_ => h_.1)) (fun _ h_ => h_.1)))); (case side2 => exact (Kd.R_reads' HO_1.out).2.1); (case side3 => exact Kd.C_below HR2_5.out (by repeat (first | (with_reducible first | exact HB.out | apply below_alloc | apply pw_below_drewN | apply below_drew1 | refine below_set ?_ GE396.out | refine below_set ?_ GE415.out | refine below_set ?_ GE416.out) | exact HB.out))); (case side4 => exact HC2_5.out); (case side5 => exact GL.below HRG.out (by repeat (first | (with_reducible first | exact HB.out | apply below_alloc | apply pw_below_drewN | apply below_drew1 | refine below_set ?_ GE396.out | refine below_set ?_ GE415.out | refine below_set ?_ GE416.out) | exact HB.out))); rintro e w61 ⟨rfl, hb⟩; refine ⟨_, rfl, ?_⟩; have n0_ := Aside0.mk (Kd.R_below (by (with_reducible repeat (first | apply Kd.R_alloc | apply Kd.R_drewN | apply Kd.R_drew)); exact (Kd.R_mono (Kd.R_mono (Kd.R_far (p := ⟨g416, 3, none⟩) (Kd.R_far (p := ⟨g416, 2, none⟩) (Kd.R_far (p := ⟨g416, 1, none⟩) (Kd.R_far (p := ⟨g416, 0, none⟩) (Kd.R_far (p := ⟨g415, 3, none⟩) (Kd.R_far (p := ⟨g415, 2, none⟩) (Kd.R_far (p := ⟨g415, 1, none⟩) (Kd.R_far (p := ⟨g415, 0, none⟩) (Kd.R_types (Kd.R_types HO_1.out B415.out (by decide)) B416.out (by decide)) (fun _ hk => hk.1.2) (.int .u64 t406)) (fun _ hk => hk.1.2) (.int .u64 t407)) (fun _ hk => hk.1.2) (.int .u64 t408)) (fun _ hk => hk.1.2) (.int .u64 t409)) (fun _ hk => hk.2) (.int .u64 t410)) (fun _ hk => hk.2) (.int .u64 t411)) (fun _ hk => hk.2) (.int .u64 t412)) (fun _ hk => hk.2) (.int .u64 t413)) (fun _ h_ => h_.1)) (fun _ h_ => h_.1))) hb); have n1_ := Aside0.mk (blk_below (g := g396) (o := .cells #[.int .i64 a2_0, .int .u64 a2_1, .int .u64 a2_2, .int .u64 a2_3, .int .u64 a2_4, .slice A2_5 l2_5.length c2_5, .slice A2_6 l2_6.length c2_6] 47 (0, 0)) (by refine blk_far ?_ NB396_416.out _; refine blk_far ?_ NB396_416.out _; refine blk_far ?_ NB396_416.out _; refine blk_far ?_ NB396_416.out _; refine blk_far ?_ NB396_415.out _; refine blk_far ?_ NB396_415.out _; refine blk_far ?_ NB396_415.out _; refine blk_far ?_ NB396_415.out _; exact B396.out) hb); have n2_ := Aside0.mk (blk_below (g := g415) (o := .cells #[.int .u64 t406, .int .u64 t407, .int .u64 t408, .int .u64 t409] 48 (0, 0)) (by refine blk_far ?_ NB415_416.out _; refine blk_far ?_ NB415_416.out _; refine blk_far ?_ NB415_416.out _; refine blk_far ?_ NB415_416.out _; refine blk_put (cs := #[.int .u64 t406, .int .u64 t407, .int .u64 t408, .int .u64 0]) ?_ 3 _ rfl; refine blk_put (cs := #[.int .u64 t406, .int .u64 t407, .int .u64 0, .int .u64 0]) ?_ 2 _ rfl; refine blk_put (cs := #[.int .u64 t406, .int .u64 0, .int .u64 0, .int .u64 0]) ?_ 1 _ rfl; refine blk_put (cs := #[.int .u64 0, .int .u64 0, .int .u64 0, .int .u64 0]) ?_ 0 _ rfl; exact B415.out) hb); have n3_ := Aside0.mk (blk_below (g := g416) (o := .cells #[.int .u64 t410, .int .u64 t411, .int .u64 t412, .int .u64 t413] 48 (0, 0)) (by refine blk_put (cs := #[.int .u64 t410, .int .u64 t411, .int .u64 t412, .int .u64 0]) ?_ 3 _ rfl; refine blk_put (cs := #[.int .u64 t410, .int .u64 t411, .int .u64 0, .int .u64 0]) ?_ 2 _ rfl; refine blk_put (cs := #[.int .u64 t410, .int .u64 0, .int .u64 0, .int .u64 0]) ?_ 1 _ rfl; refine blk_put (cs := #[.int .u64 0, .int .u64 0, .int .u64 0, .int .u64 0]) ?_ 0 _ rfl; refine blk_far ?_ NB416_415.out _; refine blk_far ?_ NB416_415.out _; refine blk_far ?_ NB416_415.out _; refine blk_far ?_ NB416_415.out _; exact B416.out) hb); have n4_ := Aside0.mk (below_step (by repeat (first | (with_reducible first | exact HB.out | apply below_alloc | apply pw_below_drewN | apply below_drew1 | refine below_set ?_ GE396.out | refine below_set ?_ GE415.out | refine below_set ?_ GE416.out) | exact HB.out)) hb); clear HO_1; clear B396; clear B415; clear B416; clear HB; have HO_1 := n0_; have B396 := n1_; have B415 := n2_; have B416 := n3_; have HB := n4_; clear n0_ n1_ n2_ n3_ n4_; (try clear hb); (try clear hb2); (try clear hk); (try clear hi); have hcz62_0 : w61.cell? ⟨g396, 0, none⟩ = some (.int .i64 a2_0) := bq_ B396 0; have hcz62_1 : w61.cell? ⟨g396, 1, none⟩ = some (.int .u64 a2_1) := bq_ B396 1; have hcz62_2 : w61.cell? ⟨g396, 2, none⟩ = some (.int .u64 a2_2) := bq_ B396 2; have hcz62_3 : w61.cell? ⟨g396, 3, none⟩ = some (.int .u64 a2_3) := bq_ B396 3; have hcz62_4 : w61.cell? ⟨g396, 4, none⟩ = some (.int .u64 a2_4) := bq_ B396 4; have hcz62_5 : w61.cell? ⟨g396, 5, none⟩ = some (.slice A2_5 l2_5.length c2_5) := bq_ B396 5; have hcz62_6 : w61.cell? ⟨g396, 6, none⟩ = some (.slice A2_6 l2_6.length c2_6) := bq_ B396 6; have hfz62_0 := blk_frozen B396.out 0; have hfz62_1 := blk_frozen B396.out 1; have hfz62_2 := blk_frozen B396.out 2; have hfz62_3 := blk_frozen B396.out 3; have hfz62_4 := blk_frozen B396.out 4; have hfz62_5 := blk_frozen B396.out 5; have hfz62_6 := blk_frozen B396.out 6) | (go_at_call 26; (with_reducible refine (tree_Check.calls (wrap64 (Int.tmod a0 4)) _ _ x1_13 a2_0 a2_3 a2_4 _ _ l2_6 false _ ?side1 ?side2 ?side3 ?side4 ?side5 A35.out).mono ?_); (case side1 => repeat (first | exact (Kd.R_reads' HO_1.out).2.2 | (with_reducible refine Kd.C_alloc ?_ _) | (with_reducible refine Kd.C_drewN ?_ _) | (with_reducible refine Kd.C_drew ?_))); (case side2 => exact (Kd.R_reads' HO_1.out).2.1); (case side3 => repeat (first | exact (Kd.C_below HR2_6.out HB.out) | (with_reducible refine Kd.C_alloc ?_ _) | (with_reducible refine Kd.C_drewN ?_ _) | (with_reducible refine Kd.C_drew ?_))); (case side4 => exact HC2_6.out); (case side5 => repeat (first | exact (GL.below HRG.out HB.out) | (with_reducible refine GL.alloc ?_ _) | (with_reducible refine GL.drewN ?_ _) | (with_reducible refine GL.drew ?_))); rintro e w63 ⟨rfl, hb⟩; have n0_ := Aside0.mk (Kd.R_below (by (with_reducible repeat (first | apply Kd.R_alloc | apply Kd.R_drewN | apply Kd.R_drew)); exact HO_1.out) hb); have n1_ := Aside0.mk (blk_below (g := g396) (o := .cells #[.int .i64 a2_0, .int .u64 a2_1, .int .u64 a2_2, .int .u64 a2_3, .int .u64 a2_4, .slice A2_5 l2_5.length c2_5, .slice A2_6 l2_6.length c2_6] 47 (0, 0)) (by exact B396.out) hb); have n2_ := Aside0.mk (blk_below (g := g415) (o := .cells #[.int .u64 t406, .int .u64 t407, .int .u64 t408, .int .u64 t409] 48 (0, 0)) (by exact B415.out) hb); have n3_ := Aside0.mk (blk_below (g := g416) (o := .cells #[.int .u64 t410, .int .u64 t411, .int .u64 t412, .int .u64 t413] 48 (0, 0)) (by exact B416.out) hb); have n4_ := Aside0.mk (below_step (by repeat (first | (with_reducible first | exact HB.out | apply below_alloc | apply pw_below_drewN | apply below_drew1 | refine below_set ?_ GE396.out | refine below_set ?_ GE415.out | refine below_set ?_ GE416.out) | exact HB.out)) hb); clear HO_1; clear B396; clear B415; clear B416; clear HB; have HO_1 := n0_; have B396 := n1_; have B415 := n2_; have B416 := n3_; have HB := n4_; clear n0_ n1_ n2_ n3_ n4_; (try clear hb); (try clear hb2); (try clear hk); (try clear hi)))
         go_meet
         case rel => exact ⟨_, (false), (by first | rfl | (simp; done) | (simp [*]; done) | (simp; rfl) | (simp; decide +kernel)), H', ⟨by have := HJ4.out; have := HJ13.out; first | omega | exact Nat.le_refl _⟩, ⟨by exact B396.out⟩, ⟨by exact B415.out⟩, ⟨by exact B416.out⟩, ⟨by repeat (first | (with_reducible first | exact HB.out | apply below_alloc | apply pw_below_drewN | apply below_drew1 | refine below_set ?_ GE396.out | refine below_set ?_ GE415.out | refine below_set ?_ GE416.out) | exact HB.out)⟩⟩
       ·replace c34 := Bool.eq_false_iff.mpr c34
        subst c34
        have H1 : (attestorlaw07_TreeBinds.j2 kj13 (wrap64 (Int.tmod a0 4)) t414 false t406 t407 t408 t409 t410 t411 t412 t413) = some r := by rw [if_neg (show ¬ (false = true) by decide)] at H; exact H
        clear H
        have H := H1
        clear H1
        have H' := Aside0.mk H
        clear H
        have hnb64 := NB396_415.out
        have hnc64 := NB415_396.out
        have hnb65 := NB396_416.out
        have hnc65 := NB416_396.out
        have hcz66_0 : w27.cell? ⟨g396, 0, none⟩ = some (.int .i64 a2_0) := bq_ B396 0
        have hcz66_1 : w27.cell? ⟨g396, 1, none⟩ = some (.int .u64 a2_1) := bq_ B396 1
        have hcz66_2 : w27.cell? ⟨g396, 2, none⟩ = some (.int .u64 a2_2) := bq_ B396 2
        have hcz66_3 : w27.cell? ⟨g396, 3, none⟩ = some (.int .u64 a2_3) := bq_ B396 3
        have hcz66_4 : w27.cell? ⟨g396, 4, none⟩ = some (.int .u64 a2_4) := bq_ B396 4
        have hcz66_5 : w27.cell? ⟨g396, 5, none⟩ = some (.slice A2_5 l2_5.length c2_5) := bq_ B396 5
        have hcz66_6 : w27.cell? ⟨g396, 6, none⟩ = some (.slice A2_6 l2_6.length c2_6) := bq_ B396 6
        have hfz66_0 := blk_frozen B396.out 0
        have hfz66_1 := blk_frozen B396.out 1
        have hfz66_2 := blk_frozen B396.out 2
        have hfz66_3 := blk_frozen B396.out 3
        have hfz66_4 := blk_frozen B396.out 4
        have hfz66_5 := blk_frozen B396.out 5
        have hfz66_6 := blk_frozen B396.out 6
        obtain ⟨Ao67, co67, eo67⟩ := Kd.R_slice HO_1.out
        subst eo67
        go_wp2_with (first | ((with_reducible refine gate_callee (f := 26) rfl ?_); refine goesL_ (some 66) rfl rfl Tryd.func26 (by kernel_rfl) rfl #[.int .i64 (wrap64 (Int.tmod a0 4)), .slice Ao67 x1_13.length co67, .int .i64 a2_0, .agg #[.int .u64 a2_1, .int .u64 a2_2], .slice A2_5 l2_5.length c2_5] rfl (by (try simp only [List.map_toArray, List.map_cons, List.map_nil]); first | done | rfl | (go_simp; done)) ?_; (with_reducible refine (tree_Check.calls (wrap64 (Int.tmod a0 4)) _ _ x1_13 a2_0 a2_1 a2_2 _ _ l2_5 false _ ?side1 ?side2 ?side3 ?side4 ?side5 A33.out).mono ?_); (case side1 => refine (Kd.R_reads' (e := 36) (base := w.heap.size) (ok := fun k_ => True) (n := x1_13.length) (c := co67) ?_).2.2; exact (by (with_reducible repeat (first | apply Kd.R_alloc | apply Kd.R_drewN | apply Kd.R_drew)); exact (Kd.R_mono (Kd.R_mono (Kd.R_far (p := ⟨g416, 3, none⟩) (Kd.R_far (p := ⟨g416, 2, none⟩) (Kd.R_far (p := ⟨g416, 1, none⟩) (Kd.R_far (p := ⟨g416, 0, none⟩) (Kd.R_far (p := ⟨g415, 3, none⟩) (Kd.R_far (p := ⟨g415, 2, none⟩) (Kd.R_far (p := ⟨g415, 1, none⟩) (Kd.R_far (p := ⟨g415, 0, none⟩) (Kd.R_types (Kd.R_types HO_1.out B415.out (by decide)) B416.out (by decide)) (fun _ hk => hk.1.2) (.int .u64 t406)) (fun _ hk => hk.1.2) (.int .u64 t407)) (fun _ hk => hk.1.2) (.int .u64 t408)) (fun _ hk => hk.1.2) (.int .u64 t409)) (fun _ hk => hk.2) (.int .u64 t410)) (fun _ hk => hk.2) (.int .u64 t411)) (fun _ hk => hk.2) (.int .u64 t412)) (fun _ hk => hk.2) (.int .u64 t413)) (fun _ h_ => h_.1)) (fun _ h_ => h_.1)))); (case side2 => exact (Kd.R_reads' HO_1.out).2.1); (case side3 => exact Kd.C_below HR2_5.out (by repeat (first | (with_reducible first | exact HB.out | apply below_alloc | apply pw_below_drewN | apply below_drew1 | refine below_set ?_ GE396.out | refine below_set ?_ GE415.out | refine below_set ?_ GE416.out) | exact HB.out))); (case side4 => exact HC2_5.out); (case side5 => exact GL.below HRG.out (by repeat (first | (with_reducible first | exact HB.out | apply below_alloc | apply pw_below_drewN | apply below_drew1 | refine below_set ?_ GE396.out | refine below_set ?_ GE415.out | refine below_set ?_ GE416.out) | exact HB.out))); rintro e w68 ⟨rfl, hb⟩; refine ⟨_, rfl, ?_⟩; have n0_ := Aside0.mk (Kd.R_below (by (with_reducible repeat (first | apply Kd.R_alloc | apply Kd.R_drewN | apply Kd.R_drew)); exact (Kd.R_mono (Kd.R_mono (Kd.R_far (p := ⟨g416, 3, none⟩) (Kd.R_far (p := ⟨g416, 2, none⟩) (Kd.R_far (p := ⟨g416, 1, none⟩) (Kd.R_far (p := ⟨g416, 0, none⟩) (Kd.R_far (p := ⟨g415, 3, none⟩) (Kd.R_far (p := ⟨g415, 2, none⟩) (Kd.R_far (p := ⟨g415, 1, none⟩) (Kd.R_far (p := ⟨g415, 0, none⟩) (Kd.R_types (Kd.R_types HO_1.out B415.out (by decide)) B416.out (by decide)) (fun _ hk => hk.1.2) (.int .u64 t406)) (fun _ hk => hk.1.2) (.int .u64 t407)) (fun _ hk => hk.1.2) (.int .u64 t408)) (fun _ hk => hk.1.2) (.int .u64 t409)) (fun _ hk => hk.2) (.int .u64 t410)) (fun _ hk => hk.2) (.int .u64 t411)) (fun _ hk => hk.2) (.int .u64 t412)) (fun _ hk => hk.2) (.int .u64 t413)) (fun _ h_ => h_.1)) (fun _ h_ => h_.1))) hb); have n1_ := Aside0.mk (blk_below (g := g396) (o := .cells #[.int .i64 a2_0, .int .u64 a2_1, .int .u64 a2_2, .int .u64 a2_3, .int .u64 a2_4, .slice A2_5 l2_5.length c2_5, .slice A2_6 l2_6.length c2_6] 47 (0, 0)) (by refine blk_far ?_ NB396_416.out _; refine blk_far ?_ NB396_416.out _; refine blk_far ?_ NB396_416.out _; refine blk_far ?_ NB396_416.out _; refine blk_far ?_ NB396_415.out _; refine blk_far ?_ NB396_415.out _; refine blk_far ?_ NB396_415.out _; refine blk_far ?_ NB396_415.out _; exact B396.out) hb); have n2_ := Aside0.mk (blk_below (g := g415) (o := .cells #[.int .u64 t406, .int .u64 t407, .int .u64 t408, .int .u64 t409] 48 (0, 0)) (by refine blk_far ?_ NB415_416.out _; refine blk_far ?_ NB415_416.out _; refine blk_far ?_ NB415_416.out _; refine blk_far ?_ NB415_416.out _; refine blk_put (cs := #[.int .u64 t406, .int .u64 t407, .int .u64 t408, .int .u64 0]) ?_ 3 _ rfl; refine blk_put (cs := #[.int .u64 t406, .int .u64 t407, .int .u64 0, .int .u64 0]) ?_ 2 _ rfl; refine blk_put (cs := #[.int .u64 t406, .int .u64 0, .int .u64 0, .int .u64 0]) ?_ 1 _ rfl; refine blk_put (cs := #[.int .u64 0, .int .u64 0, .int .u64 0, .int .u64 0]) ?_ 0 _ rfl; exact B415.out) hb); have n3_ := Aside0.mk (blk_below (g := g416) (o := .cells #[.int .u64 t410, .int .u64 t411, .int .u64 t412, .int .u64 t413] 48 (0, 0)) (by refine blk_put (cs := #[.int .u64 t410, .int .u64 t411, .int .u64 t412, .int .u64 0]) ?_ 3 _ rfl; refine blk_put (cs := #[.int .u64 t410, .int .u64 t411, .int .u64 0, .int .u64 0]) ?_ 2 _ rfl; refine blk_put (cs := #[.int .u64 t410, .int .u64 0, .int .u64 0, .int .u64 0]) ?_ 1 _ rfl; refine blk_put (cs := #[.int .u64 0, .int .u64 0, .int .u64 0, .int .u64 0]) ?_ 0 _ rfl; refine blk_far ?_ NB416_415.out _; refine blk_far ?_ NB416_415.out _; refine blk_far ?_ NB416_415.out _; refine blk_far ?_ NB416_415.out _; exact B416.out) hb); have n4_ := Aside0.mk (below_step (by repeat (first | (with_reducible first | exact HB.out | apply below_alloc | apply pw_below_drewN | apply below_drew1 | refine below_set ?_ GE396.out | refine below_set ?_ GE415.out | refine below_set ?_ GE416.out) | exact HB.out)) hb); clear HO_1; clear B396; clear B415; clear B416; clear HB; have HO_1 := n0_; have B396 := n1_; have B415 := n2_; have B416 := n3_; have HB := n4_; clear n0_ n1_ n2_ n3_ n4_; (try clear hb); (try clear hb2); (try clear hk); (try clear hi)))
        go_meet
        case rel => exact ⟨_, (false), (by first | rfl | (simp; done) | (simp [*]; done) | (simp; rfl) | (simp; decide +kernel)), H', ⟨by have := HJ4.out; have := HJ13.out; first | omega | exact Nat.le_refl _⟩, ⟨by exact B396.out⟩, ⟨by exact B415.out⟩, ⟨by exact B416.out⟩, ⟨by repeat (first | (with_reducible first | exact HB.out | apply below_alloc | apply pw_below_drewN | apply below_drew1 | refine below_set ?_ GE396.out | refine below_set ?_ GE415.out | refine below_set ?_ GE416.out) | exact HB.out)⟩⟩
      case rest =>
       clear HC23
       try clear c1
       try clear c2
       try clear p2
       try clear c3
       try clear c4
       try clear c5
       try clear c6
       try clear p6
       try clear c8
       try clear c8b0
       try clear c8b1
       try clear c8b2
       try clear c10
       try clear c11
       try clear c12
       try clear c16
       try clear c16b0
       try clear c16b1
       try clear c16b2
       try clear c21
       try clear c24
       try clear c26
       try clear c28
       try clear c29
       try clear c31
       try clear c34
       try clear c36
       try clear c38
       try clear c39
       try clear c40
       try clear c48
       try clear c49
       try clear c57
       try clear c58
       try clear c64
       try clear p64
       try clear c65
       try clear hcz10_0
       try clear hcz10_1
       try clear hcz10_2
       try clear hcz10_3
       try clear hcz10_4
       try clear hcz10_5
       try clear hcz10_6
       try clear hcz18_0
       try clear hcz18_1
       try clear hcz18_2
       try clear hcz18_3
       try clear hcz18_4
       try clear hcz18_5
       try clear hcz18_6
       try clear hcz24_0
       try clear hcz24_1
       try clear hcz24_2
       try clear hcz24_3
       try clear hcz24_4
       try clear hcz24_5
       try clear hcz24_6
       try clear hcz30_0
       try clear hcz30_1
       try clear hcz30_2
       try clear hcz30_3
       try clear hcz32_0
       try clear hcz32_1
       try clear hcz32_2
       try clear hcz32_3
       try clear hcz41_0
       try clear hcz41_1
       try clear hcz41_2
       try clear hcz41_3
       try clear hcz41_4
       try clear hcz41_5
       try clear hcz41_6
       try clear hcz44_0
       try clear hcz44_1
       try clear hcz44_2
       try clear hcz44_3
       try clear hcz44_4
       try clear hcz44_5
       try clear hcz44_6
       try clear hcz46_0
       try clear hcz46_1
       try clear hcz46_2
       try clear hcz46_3
       try clear hcz46_4
       try clear hcz46_5
       try clear hcz46_6
       try clear hcz50_0
       try clear hcz50_1
       try clear hcz50_2
       try clear hcz50_3
       try clear hcz50_4
       try clear hcz50_5
       try clear hcz50_6
       try clear hcz53_0
       try clear hcz53_1
       try clear hcz53_2
       try clear hcz53_3
       try clear hcz53_4
       try clear hcz53_5
       try clear hcz53_6
       try clear hcz55_0
       try clear hcz55_1
       try clear hcz55_2
       try clear hcz55_3
       try clear hcz55_4
       try clear hcz55_5
       try clear hcz55_6
       try clear hcz59_0
       try clear hcz59_1
       try clear hcz59_2
       try clear hcz59_3
       try clear hcz59_4
       try clear hcz59_5
       try clear hcz59_6
       try clear hcz62_0
       try clear hcz62_1
       try clear hcz62_2
       try clear hcz62_3
       try clear hcz62_4
       try clear hcz62_5
       try clear hcz62_6
       try clear hcz66_0
       try clear hcz66_1
       try clear hcz66_2
       try clear hcz66_3
       try clear hcz66_4
       try clear hcz66_5
       try clear hcz66_6
       try clear hcz9_0
       try clear hcz9_1
       try clear hcz9_2
       try clear hcz9_3
       try clear hcz9_4
       try clear hcz9_5
       try clear hcz9_6
       try clear hfz10_0
       try clear hfz10_1
       try clear hfz10_2
       try clear hfz10_3
       try clear hfz10_4
       try clear hfz10_5
       try clear hfz10_6
       try clear hfz18_0
       try clear hfz18_1
       try clear hfz18_2
       try clear hfz18_3
       try clear hfz18_4
       try clear hfz18_5
       try clear hfz18_6
       try clear hfz24_0
       try clear hfz24_1
       try clear hfz24_2
       try clear hfz24_3
       try clear hfz24_4
       try clear hfz24_5
       try clear hfz24_6
       try clear hfz30_0
       try clear hfz30_1
       try clear hfz30_2
       try clear hfz30_3
       try clear hfz32_0
       try clear hfz32_1
       try clear hfz32_2
       try clear hfz32_3
       try clear hfz41_0
       try clear hfz41_1
       try clear hfz41_2
       try clear hfz41_3
       try clear hfz41_4
       try clear hfz41_5
       try clear hfz41_6
       try clear hfz44_0
       try clear hfz44_1
       try clear hfz44_2
       try clear hfz44_3
       try clear hfz44_4
       try clear hfz44_5
       try clear hfz44_6
       try clear hfz46_0
       try clear hfz46_1
       try clear hfz46_2
       try clear hfz46_3
       try clear hfz46_4
       try clear hfz46_5
       try clear hfz46_6
       try clear hfz50_0
       try clear hfz50_1
       try clear hfz50_2
       try clear hfz50_3
       try clear hfz50_4
       try clear hfz50_5
       try clear hfz50_6
       try clear hfz53_0
       try clear hfz53_1
       try clear hfz53_2
       try clear hfz53_3
       try clear hfz53_4
       try clear hfz53_5
       try clear hfz53_6
       try clear hfz55_0
       try clear hfz55_1
       try clear hfz55_2
       try clear hfz55_3
       try clear hfz55_4
       try clear hfz55_5
       try clear hfz55_6
       try clear hfz59_0
       try clear hfz59_1
       try clear hfz59_2
       try clear hfz59_3
       try clear hfz59_4
       try clear hfz59_5
       try clear hfz59_6
       try clear hfz62_0
       try clear hfz62_1
       try clear hfz62_2
       try clear hfz62_3
       try clear hfz62_4
       try clear hfz62_5
       try clear hfz62_6
       try clear hfz66_0
       try clear hfz66_1
       try clear hfz66_2
       try clear hfz66_3
       try clear hfz66_4
       try clear hfz66_5
       try clear hfz66_6
       try clear hfz9_0
       try clear hfz9_1
       try clear hfz9_2
       try clear hfz9_3
       try clear hfz9_4
       try clear hfz9_5
       try clear hfz9_6
       try clear p2
       try clear p6
       obtain ⟨kq, x86_22, rfl, HA, HJ22, B396, B415, B416, HB⟩ := hcut
       cases kq with
       | zero => exact absurd HA.out (by simp [attestorlaw07_TreeBinds.j2])
       | succ kj22 =>
        have H := HA.out
        clear HA
        simp only [attestorlaw07_TreeBinds.j2] at H
        by_cases c69 : x86_22 = true
        ·subst c69
         have H1 : (none) = some r := by rw [if_pos rfl] at H; exact H
         clear H
         have H := H1
         clear H1
         exact absurd H (by simp)
        ·replace c69 := Bool.eq_false_iff.mpr c69
         subst c69
         have H1 : (if t414 = true then (if ((!(t406 == t410) || (!(t407 == t411))) || ((!(t408 == t412) || (!(t409 == t413))))) = true then ((sponge_Node.f kj22 (wrap64 (Int.tmod a0 4)) t406 t407 t408 t409).bind fun bt420 => ((sponge_Node.f kj22 (wrap64 (Int.tmod a0 4)) t410 t411 t412 t413).bind fun bt422 => (if (bt420.1 == bt422.1 && (bt420.2 == bt422.2)) = true then ((attestorlaw07_lives.f kj22).bind fun t424 => (some t424)) else (none)))) else (none)) else ((attestorlaw07_lives.f kj22).bind fun t425 => (some t425))) = some r := by rw [if_neg (show ¬ (false = true) by decide)] at H; exact H
         clear H
         have H := H1
         clear H1
         by_cases c70 : t414 = true
         ·subst c70
          have H1 : (if ((!(t406 == t410) || (!(t407 == t411))) || ((!(t408 == t412) || (!(t409 == t413))))) = true then ((sponge_Node.f kj22 (wrap64 (Int.tmod a0 4)) t406 t407 t408 t409).bind fun bt420 => ((sponge_Node.f kj22 (wrap64 (Int.tmod a0 4)) t410 t411 t412 t413).bind fun bt422 => (if (bt420.1 == bt422.1 && (bt420.2 == bt422.2)) = true then ((attestorlaw07_lives.f kj22).bind fun t424 => (some t424)) else (none)))) else (none)) = some r := by rw [if_pos rfl] at H; exact H
          clear H
          have H := H1
          clear H1
          by_cases c71 : ((!(t406 == t410) || (!(t407 == t411))) || ((!(t408 == t412) || (!(t409 == t413))))) = true
          ·rw [if_pos c71] at H
           have c71b0 : ((!(t406 == t410) || (!(t407 == t411))) || ((!(t408 == t412) || (!(t409 == t413))))) = true := c71
           clear c71
           replace H := Option.bind_eq_some_iff.mp H
           obtain ⟨⟨t420, t421⟩, A720, H⟩ := H
           replace H : ((sponge_Node.f kj22 (wrap64 (Int.tmod a0 4)) t410 t411 t412 t413).bind fun bt422 => (if (t420 == bt422.1 && (t421 == bt422.2)) = true then ((attestorlaw07_lives.f kj22).bind fun t424 => (some t424)) else (none))) = some r := H
           have A72 := Aside0.mk A720
           clear A720
           replace H := Option.bind_eq_some_iff.mp H
           obtain ⟨⟨t422, t423⟩, A730, H⟩ := H
           replace H : (if (t420 == t422 && (t421 == t423)) = true then ((attestorlaw07_lives.f kj22).bind fun t424 => (some t424)) else (none)) = some r := H
           have A73 := Aside0.mk A730
           clear A730
           by_cases c74 : (t420 == t422 && (t421 == t423)) = true
           ·rw [if_pos c74] at H
            have c74b0 : (t420 == t422 && (t421 == t423)) = true := c74
            (try (have c74b1 : decide (t420 = t422 && (t421 == t423)) = true := by simpa using c74))
            (try (have c74b2 : (t420 == t422 && (t421 == t423)) = true := by simpa using c74))
            clear c74
            replace H := Option.bind_eq_some_iff.mp H
            obtain ⟨t424, A750, H⟩ := H
            have A75 := Aside0.mk A750
            clear A750
            obtain rfl := Option.some.inj H
            try go_wp2
            have n0_ := Aside0.mk (blk_drew B396.out)
            have n1_ := Aside0.mk (blk_drew B415.out)
            have n2_ := Aside0.mk (blk_drew B416.out)
            have n3_ := Aside0.mk (below_drew1 HB.out)
            clear B396
            clear B415
            clear B416
            clear HB
            have B396 := n0_
            have B415 := n1_
            have B416 := n2_
            have HB := n3_
            clear n0_ n1_ n2_ n3_
            refine start_ (n := 26) (S := fun w' => w'.cell? ⟨g415, 0, none⟩ = some (.int .u64 t406) ∧ w'.cell? ⟨g415, 1, none⟩ = some (.int .u64 t407) ∧ w'.cell? ⟨g415, 2, none⟩ = some (.int .u64 t408) ∧ w'.cell? ⟨g415, 3, none⟩ = some (.int .u64 t409) ∧ w'.cell? ⟨g416, 0, none⟩ = some (.int .u64 t410) ∧ w'.cell? ⟨g416, 1, none⟩ = some (.int .u64 t411) ∧ w'.cell? ⟨g416, 2, none⟩ = some (.int .u64 t412) ∧ w'.cell? ⟨g416, 3, none⟩ = some (.int .u64 t413)) (ds := []) z10_0_ (by kernel_rfl) rfl rfl ⟨bq_ B415 0, bq_ B415 1, bq_ B415 2, bq_ B415 3, bq_ B416 0, bq_ B416 1, bq_ B416 2, bq_ B416 3⟩ (fun hL => ?_); refine with_tabW attestorlaw07_TreeBinds.tab10 attestorlaw07_TreeBinds.bits10 (fun T_ W_ => ?_)
            generalize wc.drew = w76 at B396 B415 B416 HB hL ⊢
            refine pure_ (i := 0) (N := some 87) (v := ?_) (a' := ?_) z10_1_ rfl rfl (an_ T_) (fun _ _ _ h => h) (Or.inl ⟨by rfl, ?_⟩) ?_ ?_
            rotate_left; · intro w'; go_simp; with_reducible rfl
            rotate_left; · simp only [Act.put, sa_, sb_, sc_, i64_w, i32_w]; rfl
            refine pure_ (i := 1) (N := some 88) (v := ?_) (a' := ?_) z10_2_ rfl rfl (an_ T_) (fun _ _ _ h => h) (Or.inl ⟨by rfl, ?_⟩) ?_ ?_
            rotate_left; · intro w'; go_simp; with_reducible rfl
            rotate_left; · simp only [Act.put, sa_, sb_, sc_, i64_w, i32_w]; rfl
            refine pure_ (i := 2) (N := some 89) (v := ?_) (a' := ?_) z10_3_ rfl rfl (an_ T_) (fun _ _ _ h => h) (Or.inl ⟨by rfl, ?_⟩) ?_ ?_
            rotate_left; · intro w'; go_simp; with_reducible rfl
            rotate_left; · simp only [Act.put, sa_, sb_, sc_, i64_w, i32_w]; rfl
            refine take_ (i := 3) (N := some 90) (v := ?_) (a' := ?_) z10_4_ rfl rfl (tk_ T_ W_) (fun _ _ _ h => h) (Or.inl ⟨by rfl, ?_⟩) hL ?_ ?_
            rotate_left
            ·rintro w' ⟨s0, s1, s2, s3, s4, s5, s6, s7⟩
             go_simp
             with_reducible rfl
            rotate_left
            ·simp only [Act.put, sa_, sb_, sc_, i64_w, i32_w]
             rfl
            refine take_ (i := 4) (N := some 91) (v := ?_) (a' := ?_) z10_5_ rfl rfl (tk_ T_ W_) (fun _ _ _ h => h) (Or.inl ⟨by rfl, ?_⟩) hL ?_ ?_
            rotate_left
            ·rintro w' ⟨s0, s1, s2, s3, s4, s5, s6, s7⟩
             go_simp
             with_reducible rfl
            rotate_left
            ·simp only [Act.put, sa_, sb_, sc_, i64_w, i32_w]
             rfl
            refine pure_ (i := 5) (N := some 92) (v := ?_) (a' := ?_) z10_6_ rfl rfl (an_ T_) (fun _ _ _ h => h) (Or.inl ⟨by rfl, ?_⟩) ?_ ?_
            rotate_left; · intro w'; go_simp; with_reducible rfl
            rotate_left; · simp only [Act.put, sa_, sb_, sc_, i64_w, i32_w]; rfl
            refine pure_ (i := 6) (N := some 93) (v := ?_) (a' := ?_) z10_7_ rfl rfl (an_ T_) (fun _ _ _ h => h) (Or.inl ⟨by rfl, ?_⟩) ?_ ?_
            rotate_left; · intro w'; go_simp; with_reducible rfl
            rotate_left; · simp only [Act.put, sa_, sb_, sc_, i64_w, i32_w]; rfl
            refine pure_ (i := 7) (N := some 94) (v := ?_) (a' := ?_) z10_8_ rfl rfl (an_ T_) (fun _ _ _ h => h) (Or.inl ⟨by rfl, ?_⟩) ?_ ?_
            rotate_left; · intro w'; go_simp; with_reducible rfl
            rotate_left; · simp only [Act.put, sa_, sb_, sc_, i64_w, i32_w]; rfl
            refine pure_ (i := 8) (N := some 95) (v := ?_) (a' := ?_) z10_9_ rfl rfl (an_ T_) (fun _ _ _ h => h) (Or.inl ⟨by rfl, ?_⟩) ?_ ?_
            rotate_left; · intro w'; go_simp; with_reducible rfl
            rotate_left; · simp only [Act.put, sa_, sb_, sc_, i64_w, i32_w]; rfl
            refine pure_ (i := 10) (N := some 97) (v := ?_) (a' := ?_) z10_10_ rfl rfl (an_ T_) (fun _ _ _ h => h) (Or.inl ⟨by rfl, ?_⟩) ?_ ?_
            rotate_left; · intro w'; go_simp; with_reducible rfl
            rotate_left; · simp only [Act.put, sa_, sb_, sc_, i64_w, i32_w]; rfl
            refine pure_ (i := 13) (N := some 100) (v := ?_) (a' := ?_) z10_11_ rfl rfl (an_ T_) (fun _ _ _ h => h) (Or.inl ⟨by rfl, ?_⟩) ?_ ?_
            rotate_left; · intro w'; go_simp; with_reducible rfl
            rotate_left; · simp only [Act.put, sa_, sb_, sc_, i64_w, i32_w]; rfl
            refine pure_ (i := 14) (N := some 101) (v := ?_) (a' := ?_) z10_12_ rfl rfl (an_ T_) (fun _ _ _ h => h) (Or.inl ⟨by rfl, ?_⟩) ?_ ?_
            rotate_left; · intro w'; go_simp; with_reducible rfl
            rotate_left; · simp only [Act.put, sa_, sb_, sc_, i64_w, i32_w]; rfl
            refine pure_ (i := 16) (N := some 103) (v := ?_) (a' := ?_) z10_13_ rfl rfl (an_ T_) (fun _ _ _ h => h) (Or.inl ⟨by rfl, ?_⟩) ?_ ?_
            rotate_left; · intro w'; go_simp; with_reducible rfl
            rotate_left; · simp only [Act.put, sa_, sb_, sc_, i64_w, i32_w]; rfl
            refine take_ (i := 9) (N := some 96) (v := ?_) (a' := ?_) z10_14_ rfl rfl (tk_ T_ W_) (fun _ _ _ h => h) (Or.inl ⟨by rfl, ?_⟩) hL ?_ ?_
            rotate_left
            ·rintro w' ⟨s0, s1, s2, s3, s4, s5, s6, s7⟩
             go_simp
             with_reducible rfl
            rotate_left
            ·simp only [Act.put, sa_, sb_, sc_, i64_w, i32_w]
             rfl
            refine take_ (i := 11) (N := some 98) (v := ?_) (a' := ?_) z10_15_ rfl rfl (tk_ T_ W_) (fun _ _ _ h => h) (Or.inl ⟨by rfl, ?_⟩) hL ?_ ?_
            rotate_left
            ·rintro w' ⟨s0, s1, s2, s3, s4, s5, s6, s7⟩
             go_simp
             with_reducible rfl
            rotate_left
            ·simp only [Act.put, sa_, sb_, sc_, i64_w, i32_w]
             rfl
            refine take_ (i := 15) (N := some 102) (v := ?_) (a' := ?_) z10_16_ rfl rfl (tk_ T_ W_) (fun _ _ _ h => h) (Or.inl ⟨by rfl, ?_⟩) hL ?_ ?_
            rotate_left
            ·rintro w' ⟨s0, s1, s2, s3, s4, s5, s6, s7⟩
             go_simp
             with_reducible rfl
            rotate_left
            ·simp only [Act.put, sa_, sb_, sc_, i64_w, i32_w]
             rfl
            refine take_ (i := 17) (N := some 104) (v := ?_) (a' := ?_) z10_17_ rfl rfl (tk_ T_ W_) (fun _ _ _ h => h) (Or.inl ⟨by rfl, ?_⟩) hL ?_ ?_
            rotate_left
            ·rintro w' ⟨s0, s1, s2, s3, s4, s5, s6, s7⟩
             go_simp
             with_reducible rfl
            rotate_left
            ·simp only [Act.put, sa_, sb_, sc_, i64_w, i32_w]
             rfl
            refine one_ (i := 12) (N := some 99) z10_18_ rfl rfl (on_ T_) (by decide) (fun K hK => ?_)
            refine goes_ Tryd.func36 (by kernel_rfl) rfl #[.int .i64 (wrap64 (Int.tmod a0 4)), .agg #[.int .u64 t406, .int .u64 t407], .agg #[.int .u64 t408, .int .u64 t409]] (by rfl) rfl rfl (by (try simp only [List.map_toArray, List.map_cons, List.map_nil]); first | done | rfl | (go_simp; done)) ?_
            with_reducible refine (sponge_Node.calls kj22 (wrap64 (Int.tmod a0 4)) t406 t407 t408 t409 t420 t421 _ ?side1 A72.out).mono ?_
            (case side1 => repeat (first | exact (GL.below HRG.out HB.out) | (with_reducible refine GL.alloc ?_ _) | (with_reducible refine GL.drewN ?_ _) | (with_reducible refine GL.drew ?_)))
            rintro e w77 ⟨rfl, hb⟩
            refine ⟨_, rfl, ?_⟩
            have n0_ := Aside0.mk (blk_below (g := g396) (o := .cells #[.int .i64 a2_0, .int .u64 a2_1, .int .u64 a2_2, .int .u64 a2_3, .int .u64 a2_4, .slice A2_5 l2_5.length c2_5, .slice A2_6 l2_6.length c2_6] 47 (0, 0)) (by exact B396.out) hb)
            have n1_ := Aside0.mk (blk_below (g := g415) (o := .cells #[.int .u64 t406, .int .u64 t407, .int .u64 t408, .int .u64 t409] 48 (0, 0)) (by exact B415.out) hb)
            have n2_ := Aside0.mk (blk_below (g := g416) (o := .cells #[.int .u64 t410, .int .u64 t411, .int .u64 t412, .int .u64 t413] 48 (0, 0)) (by exact B416.out) hb)
            have n3_ := Aside0.mk (below_step (by repeat (first | (with_reducible first | exact HB.out | apply below_alloc | apply pw_below_drewN | apply below_drew1 | refine below_set ?_ GE396.out | refine below_set ?_ GE415.out | refine below_set ?_ GE416.out) | exact HB.out)) hb)
            clear B396
            clear B415
            clear B416
            clear HB
            have B396 := n0_
            have B415 := n1_
            have B416 := n2_
            have HB := n3_
            clear n0_ n1_ n2_ n3_
            (try clear hb)
            (try clear hb2)
            (try clear hk)
            (try clear hi)
            refine hK.out _ _ ⟨bq_ B415 0, bq_ B415 1, bq_ B415 2, bq_ B415 3, bq_ B416 0, bq_ B416 1, bq_ B416 2, bq_ B416 3⟩ (fun hL => ?_)
            clear hK K
            refine norm_ (a' := ?_) ?_ ?_
            rotate_left
            ·show Act.put _ (some 99) _ = _
             simp only [Act.put, sa_, sb_, sc_, i64_w, i32_w]
             rfl
            refine one_ (i := 18) (N := some 105) z10_19_ rfl rfl (on_ T_) (by decide) (fun K hK => ?_)
            refine goes_ Tryd.func36 (by kernel_rfl) rfl #[.int .i64 (wrap64 (Int.tmod a0 4)), .agg #[.int .u64 t410, .int .u64 t411], .agg #[.int .u64 t412, .int .u64 t413]] (by rfl) rfl rfl (by (try simp only [List.map_toArray, List.map_cons, List.map_nil]); first | done | rfl | (go_simp; done)) ?_
            with_reducible refine (sponge_Node.calls kj22 (wrap64 (Int.tmod a0 4)) t410 t411 t412 t413 t422 t423 _ ?side1 A73.out).mono ?_
            (case side1 => repeat (first | exact (GL.below HRG.out HB.out) | (with_reducible refine GL.alloc ?_ _) | (with_reducible refine GL.drewN ?_ _) | (with_reducible refine GL.drew ?_)))
            rintro e w78 ⟨rfl, hb⟩
            refine ⟨_, rfl, ?_⟩
            have n0_ := Aside0.mk (blk_below (g := g396) (o := .cells #[.int .i64 a2_0, .int .u64 a2_1, .int .u64 a2_2, .int .u64 a2_3, .int .u64 a2_4, .slice A2_5 l2_5.length c2_5, .slice A2_6 l2_6.length c2_6] 47 (0, 0)) (by exact B396.out) hb)
            have n1_ := Aside0.mk (blk_below (g := g415) (o := .cells #[.int .u64 t406, .int .u64 t407, .int .u64 t408, .int .u64 t409] 48 (0, 0)) (by exact B415.out) hb)
            have n2_ := Aside0.mk (blk_below (g := g416) (o := .cells #[.int .u64 t410, .int .u64 t411, .int .u64 t412, .int .u64 t413] 48 (0, 0)) (by exact B416.out) hb)
            have n3_ := Aside0.mk (below_step (by repeat (first | (with_reducible first | exact HB.out | apply below_alloc | apply pw_below_drewN | apply below_drew1 | refine below_set ?_ GE396.out | refine below_set ?_ GE415.out | refine below_set ?_ GE416.out) | exact HB.out)) hb)
            clear B396
            clear B415
            clear B416
            clear HB
            have B396 := n0_
            have B415 := n1_
            have B416 := n2_
            have HB := n3_
            clear n0_ n1_ n2_ n3_
            (try clear hb)
            (try clear hb2)
            (try clear hk)
            (try clear hi)
            refine hK.out _ _ ⟨bq_ B415 0, bq_ B415 1, bq_ B415 2, bq_ B415 3, bq_ B416 0, bq_ B416 1, bq_ B416 2, bq_ B416 3⟩ (fun hL => ?_)
            clear hK K
            refine norm_ (a' := ?_) ?_ ?_
            rotate_left
            ·show Act.put _ (some 105) _ = _
             simp only [Act.put, sa_, sb_, sc_, i64_w, i32_w]
             rfl
            refine pure_ (i := 19) (N := some 106) (v := ?_) (a' := ?_) z10_20_ rfl rfl (an_ T_) (fun _ _ _ h => h) (Or.inl ⟨by rfl, ?_⟩) ?_ ?_
            rotate_left; · intro w'; go_simp; with_reducible rfl
            rotate_left; · simp only [Act.put, sa_, sb_, sc_, i64_w, i32_w]; rfl
            refine pure_ (i := 20) (N := some 107) (v := ?_) (a' := ?_) z10_21_ rfl rfl (an_ T_) (fun _ _ _ h => h) (Or.inl ⟨by rfl, ?_⟩) ?_ ?_
            rotate_left; · intro w'; go_simp; with_reducible rfl
            rotate_left; · simp only [Act.put, sa_, sb_, sc_, i64_w, i32_w]; rfl
            refine pure_ (i := 21) (N := some 108) (v := ?_) (a' := ?_) z10_22_ rfl rfl (an_ T_) (fun _ _ _ h => h) (Or.inl ⟨by rfl, ?_⟩) ?_ ?_
            rotate_left; · intro w'; go_simp; with_reducible rfl
            rotate_left; · simp only [Act.put, sa_, sb_, sc_, i64_w, i32_w]; rfl
            refine pure_ (i := 22) (N := some 109) (v := ?_) (a' := ?_) z10_23_ rfl rfl (an_ T_) (fun _ _ _ h => h) (Or.inl ⟨by rfl, ?_⟩) ?_ ?_
            rotate_left; · intro w'; go_simp; with_reducible rfl
            rotate_left; · simp only [Act.put, sa_, sb_, sc_, i64_w, i32_w]; rfl
            refine one_ (i := 23) (N := some 110) z10_24_ rfl rfl (on_ T_) (by decide) (fun K hK => ?_)
            refine goes_ Tryd.func21 (by kernel_rfl) rfl #[] (by rfl) rfl rfl (by (try simp only [List.map_toArray, List.map_cons, List.map_nil]); first | done | rfl | (go_simp; done)) ?_
            with_reducible refine (attestorlaw07_lives.calls kj22  t424 _ ?side1 A75.out).mono ?_
            (case side1 => repeat (first | exact (GL.below HRG.out HB.out) | (with_reducible refine GL.alloc ?_ _) | (with_reducible refine GL.drewN ?_ _) | (with_reducible refine GL.drew ?_)))
            rintro e w79 ⟨rfl, hb⟩
            refine ⟨_, rfl, ?_⟩
            have n0_ := Aside0.mk (blk_below (g := g396) (o := .cells #[.int .i64 a2_0, .int .u64 a2_1, .int .u64 a2_2, .int .u64 a2_3, .int .u64 a2_4, .slice A2_5 l2_5.length c2_5, .slice A2_6 l2_6.length c2_6] 47 (0, 0)) (by exact B396.out) hb)
            have n1_ := Aside0.mk (blk_below (g := g415) (o := .cells #[.int .u64 t406, .int .u64 t407, .int .u64 t408, .int .u64 t409] 48 (0, 0)) (by exact B415.out) hb)
            have n2_ := Aside0.mk (blk_below (g := g416) (o := .cells #[.int .u64 t410, .int .u64 t411, .int .u64 t412, .int .u64 t413] 48 (0, 0)) (by exact B416.out) hb)
            have n3_ := Aside0.mk (below_step (by repeat (first | (with_reducible first | exact HB.out | apply below_alloc | apply pw_below_drewN | apply below_drew1 | refine below_set ?_ GE396.out | refine below_set ?_ GE415.out | refine below_set ?_ GE416.out) | exact HB.out)) hb)
            clear B396
            clear B415
            clear B416
            clear HB
            have B396 := n0_
            have B415 := n1_
            have B416 := n2_
            have HB := n3_
            clear n0_ n1_ n2_ n3_
            (try clear hb)
            (try clear hb2)
            (try clear hk)
            (try clear hi)
            refine hK.out _ _ ⟨bq_ B415 0, bq_ B415 1, bq_ B415 2, bq_ B415 3, bq_ B416 0, bq_ B416 1, bq_ B416 2, bq_ B416 3⟩ (fun hL => ?_)
            clear hK K
            refine norm_ (a' := ?_) ?_ ?_
            rotate_left
            ·show Act.put _ (some 110) _ = _
             simp only [Act.put, sa_, sb_, sc_, i64_w, i32_w]
             rfl
            refine pure_ (i := 24) (N := some 111) (v := ?_) (a' := ?_) z10_25_ rfl rfl (an_ T_) (fun _ _ _ h => h) (Or.inl ⟨by rfl, ?_⟩) ?_ ?_
            rotate_left; · intro w'; go_simp; with_reducible rfl
            rotate_left; · simp only [Act.put, sa_, sb_, sc_, i64_w, i32_w]; rfl
            refine pure_ (i := 25) (N := some 6) (v := ?_) (a' := ?_) z10_26_ rfl rfl (an_ T_) (fun _ _ _ h => h) (Or.inl ⟨by rfl, ?_⟩) ?_ ?_
            rotate_left; · intro w'; go_simp; with_reducible rfl
            rotate_left; · simp only [Act.put, sa_, sb_, sc_, i64_w, i32_w]; rfl
            refine done_ (done_of T_.out (by kernel_rfl)) ?_
            try go_wp2
            go_ret
            exact ⟨by first | rfl | (simp [errW_none, errW_some] <;> rfl) | (simp [*, errW_none, errW_some] <;> rfl), by repeat (first | (with_reducible first | exact HB.out | apply below_alloc | apply pw_below_drewN | apply below_drew1 | refine below_set ?_ GE396.out | refine below_set ?_ GE415.out | refine below_set ?_ GE416.out) | exact HB.out)⟩
           ·rw [if_neg c74] at H
            exact absurd H (by simp)
          ·rw [if_neg c71] at H
           exact absurd H (by simp)
         ·replace c70 := Bool.eq_false_iff.mpr c70
          subst c70
          have H1 : ((attestorlaw07_lives.f kj22).bind fun t425 => (some t425)) = some r := by rw [if_neg (show ¬ (false = true) by decide)] at H; exact H
          clear H
          have H := H1
          clear H1
          replace H := Option.bind_eq_some_iff.mp H
          obtain ⟨t425, A800, H⟩ := H
          have A80 := Aside0.mk A800
          clear A800
          obtain rfl := Option.some.inj H
          try go_wp2
          have n0_ := Aside0.mk (blk_drew B396.out)
          have n1_ := Aside0.mk (blk_drew B415.out)
          have n2_ := Aside0.mk (blk_drew B416.out)
          have n3_ := Aside0.mk (below_drew1 HB.out)
          clear B396
          clear B415
          clear B416
          clear HB
          have B396 := n0_
          have B415 := n1_
          have B416 := n2_
          have HB := n3_
          clear n0_ n1_ n2_ n3_
          refine start_ (n := 26) (S := fun w' => True) (ds := []) z10_0_ (by kernel_rfl) rfl rfl trivial (fun hL => ?_); refine with_tabW attestorlaw07_TreeBinds.tab10 attestorlaw07_TreeBinds.bits10 (fun T_ W_ => ?_)
          generalize wc.drew = w81 at B396 B415 B416 HB hL ⊢
          refine pure_ (i := 0) (N := some 87) (v := ?_) (a' := ?_) z10_1_ rfl rfl (an_ T_) (fun _ _ _ h => h) (Or.inl ⟨by rfl, ?_⟩) ?_ ?_
          rotate_left; · intro w'; go_simp; with_reducible rfl
          rotate_left; · simp only [Act.put, sa_, sb_, sc_, i64_w, i32_w]; rfl
          refine pure_ (i := 1) (N := some 88) (v := ?_) (a' := ?_) z10_2_ rfl rfl (an_ T_) (fun _ _ _ h => h) (Or.inl ⟨by rfl, ?_⟩) ?_ ?_
          rotate_left; · intro w'; go_simp; with_reducible rfl
          rotate_left; · simp only [Act.put, sa_, sb_, sc_, i64_w, i32_w]; rfl
          refine pure_ (i := 2) (N := some 89) (v := ?_) (a' := ?_) z10_3_ rfl rfl (an_ T_) (fun _ _ _ h => h) (Or.inl ⟨by rfl, ?_⟩) ?_ ?_
          rotate_left; · intro w'; go_simp; with_reducible rfl
          rotate_left; · simp only [Act.put, sa_, sb_, sc_, i64_w, i32_w]; rfl
          refine pure_ (i := 3) (N := some 90) (v := undef) (a' := ?_) z10_4_ rfl rfl (an_ T_) (fun _ _ _ h => h) (Or.inr ⟨by rfl, rfl⟩) ?_ ?_
          rotate_left
          ·simp only [Act.put, sa_, sb_, sc_, i64_w, i32_w]
           rfl
          refine pure_ (i := 4) (N := some 91) (v := undef) (a' := ?_) z10_5_ rfl rfl (an_ T_) (fun _ _ _ h => h) (Or.inr ⟨by rfl, rfl⟩) ?_ ?_
          rotate_left
          ·simp only [Act.put, sa_, sb_, sc_, i64_w, i32_w]
           rfl
          refine pure_ (i := 5) (N := some 92) (v := undef) (a' := ?_) z10_6_ rfl rfl (an_ T_) (fun _ _ _ h => h) (Or.inr ⟨by rfl, rfl⟩) ?_ ?_
          rotate_left
          ·simp only [Act.put, sa_, sb_, sc_, i64_w, i32_w]
           rfl
          refine pure_ (i := 6) (N := some 93) (v := undef) (a' := ?_) z10_7_ rfl rfl (an_ T_) (fun _ _ _ h => h) (Or.inr ⟨by rfl, rfl⟩) ?_ ?_
          rotate_left
          ·simp only [Act.put, sa_, sb_, sc_, i64_w, i32_w]
           rfl
          refine pure_ (i := 7) (N := some 94) (v := undef) (a' := ?_) z10_8_ rfl rfl (an_ T_) (fun _ _ _ h => h) (Or.inr ⟨by rfl, rfl⟩) ?_ ?_
          rotate_left
          ·simp only [Act.put, sa_, sb_, sc_, i64_w, i32_w]
           rfl
          refine pure_ (i := 8) (N := some 95) (v := undef) (a' := ?_) z10_9_ rfl rfl (an_ T_) (fun _ _ _ h => h) (Or.inr ⟨by rfl, rfl⟩) ?_ ?_
          rotate_left
          ·simp only [Act.put, sa_, sb_, sc_, i64_w, i32_w]
           rfl
          refine pure_ (i := 9) (N := some 96) (v := undef) (a' := ?_) z10_27_ rfl rfl (an_ T_) (fun _ _ _ h => h) (Or.inr ⟨by rfl, rfl⟩) ?_ ?_
          rotate_left
          ·simp only [Act.put, sa_, sb_, sc_, i64_w, i32_w]
           rfl
          refine pure_ (i := 10) (N := some 97) (v := undef) (a' := ?_) z10_28_ rfl rfl (an_ T_) (fun _ _ _ h => h) (Or.inr ⟨by rfl, rfl⟩) ?_ ?_
          rotate_left
          ·simp only [Act.put, sa_, sb_, sc_, i64_w, i32_w]
           rfl
          refine pure_ (i := 11) (N := some 98) (v := undef) (a' := ?_) z10_29_ rfl rfl (an_ T_) (fun _ _ _ h => h) (Or.inr ⟨by rfl, rfl⟩) ?_ ?_
          rotate_left
          ·simp only [Act.put, sa_, sb_, sc_, i64_w, i32_w]
           rfl
          refine pure_ (i := 12) (N := some 99) (v := undef) (a' := ?_) z10_30_ rfl rfl (an_ T_) (fun _ _ _ h => h) (Or.inr ⟨by rfl, rfl⟩) ?_ ?_
          rotate_left
          ·simp only [Act.put, sa_, sb_, sc_, i64_w, i32_w]
           rfl
          refine pure_ (i := 13) (N := some 100) (v := undef) (a' := ?_) z10_31_ rfl rfl (an_ T_) (fun _ _ _ h => h) (Or.inr ⟨by rfl, rfl⟩) ?_ ?_
          rotate_left
          ·simp only [Act.put, sa_, sb_, sc_, i64_w, i32_w]
           rfl
          refine pure_ (i := 14) (N := some 101) (v := undef) (a' := ?_) z10_32_ rfl rfl (an_ T_) (fun _ _ _ h => h) (Or.inr ⟨by rfl, rfl⟩) ?_ ?_
          rotate_left
          ·simp only [Act.put, sa_, sb_, sc_, i64_w, i32_w]
           rfl
          refine pure_ (i := 15) (N := some 102) (v := undef) (a' := ?_) z10_33_ rfl rfl (an_ T_) (fun _ _ _ h => h) (Or.inr ⟨by rfl, rfl⟩) ?_ ?_
          rotate_left
          ·simp only [Act.put, sa_, sb_, sc_, i64_w, i32_w]
           rfl
          refine pure_ (i := 16) (N := some 103) (v := undef) (a' := ?_) z10_34_ rfl rfl (an_ T_) (fun _ _ _ h => h) (Or.inr ⟨by rfl, rfl⟩) ?_ ?_
          rotate_left
          ·simp only [Act.put, sa_, sb_, sc_, i64_w, i32_w]
           rfl
          refine pure_ (i := 17) (N := some 104) (v := undef) (a' := ?_) z10_18_ rfl rfl (an_ T_) (fun _ _ _ h => h) (Or.inr ⟨by rfl, rfl⟩) ?_ ?_
          rotate_left
          ·simp only [Act.put, sa_, sb_, sc_, i64_w, i32_w]
           rfl
          refine pure_ (i := 18) (N := some 105) (v := undef) (a' := ?_) z10_19_ rfl rfl (an_ T_) (fun _ _ _ h => h) (Or.inr ⟨by rfl, rfl⟩) ?_ ?_
          rotate_left
          ·simp only [Act.put, sa_, sb_, sc_, i64_w, i32_w]
           rfl
          refine pure_ (i := 19) (N := some 106) (v := undef) (a' := ?_) z10_20_ rfl rfl (an_ T_) (fun _ _ _ h => h) (Or.inr ⟨by rfl, rfl⟩) ?_ ?_
          rotate_left
          ·simp only [Act.put, sa_, sb_, sc_, i64_w, i32_w]
           rfl
          refine pure_ (i := 20) (N := some 107) (v := undef) (a' := ?_) z10_21_ rfl rfl (an_ T_) (fun _ _ _ h => h) (Or.inr ⟨by rfl, rfl⟩) ?_ ?_
          rotate_left
          ·simp only [Act.put, sa_, sb_, sc_, i64_w, i32_w]
           rfl
          refine pure_ (i := 21) (N := some 108) (v := ?_) (a' := ?_) z10_22_ rfl rfl (an_ T_) (fun _ _ _ h => h) (Or.inl ⟨by rfl, ?_⟩) ?_ ?_
          rotate_left; · intro w'; go_simp; with_reducible rfl
          rotate_left; · simp only [Act.put, sa_, sb_, sc_, i64_w, i32_w]; rfl
          refine pure_ (i := 22) (N := some 109) (v := ?_) (a' := ?_) z10_23_ rfl rfl (an_ T_) (fun _ _ _ h => h) (Or.inl ⟨by rfl, ?_⟩) ?_ ?_
          rotate_left; · intro w'; go_simp; with_reducible rfl
          rotate_left; · simp only [Act.put, sa_, sb_, sc_, i64_w, i32_w]; rfl
          refine one_ (i := 23) (N := some 110) z10_24_ rfl rfl (on_ T_) (by decide) (fun K hK => ?_)
          refine goes_ Tryd.func21 (by kernel_rfl) rfl #[] (by rfl) rfl rfl (by (try simp only [List.map_toArray, List.map_cons, List.map_nil]); first | done | rfl | (go_simp; done)) ?_
          with_reducible refine (attestorlaw07_lives.calls kj22  t425 _ ?side1 A80.out).mono ?_
          (case side1 => repeat (first | exact (GL.below HRG.out HB.out) | (with_reducible refine GL.alloc ?_ _) | (with_reducible refine GL.drewN ?_ _) | (with_reducible refine GL.drew ?_)))
          rintro e w82 ⟨rfl, hb⟩
          refine ⟨_, rfl, ?_⟩
          have n0_ := Aside0.mk (blk_below (g := g396) (o := .cells #[.int .i64 a2_0, .int .u64 a2_1, .int .u64 a2_2, .int .u64 a2_3, .int .u64 a2_4, .slice A2_5 l2_5.length c2_5, .slice A2_6 l2_6.length c2_6] 47 (0, 0)) (by exact B396.out) hb)
          have n1_ := Aside0.mk (blk_below (g := g415) (o := .cells #[.int .u64 t406, .int .u64 t407, .int .u64 t408, .int .u64 t409] 48 (0, 0)) (by exact B415.out) hb)
          have n2_ := Aside0.mk (blk_below (g := g416) (o := .cells #[.int .u64 t410, .int .u64 t411, .int .u64 t412, .int .u64 t413] 48 (0, 0)) (by exact B416.out) hb)
          have n3_ := Aside0.mk (below_step (by repeat (first | (with_reducible first | exact HB.out | apply below_alloc | apply pw_below_drewN | apply below_drew1 | refine below_set ?_ GE396.out | refine below_set ?_ GE415.out | refine below_set ?_ GE416.out) | exact HB.out)) hb)
          clear B396
          clear B415
          clear B416
          clear HB
          have B396 := n0_
          have B415 := n1_
          have B416 := n2_
          have HB := n3_
          clear n0_ n1_ n2_ n3_
          (try clear hb)
          (try clear hb2)
          (try clear hk)
          (try clear hi)
          refine hK.out _ _ trivial (fun hL => ?_)
          clear hK K
          refine norm_ (a' := ?_) ?_ ?_
          rotate_left
          ·show Act.put _ (some 110) _ = _
           simp only [Act.put, sa_, sb_, sc_, i64_w, i32_w]
           rfl
          refine pure_ (i := 24) (N := some 111) (v := ?_) (a' := ?_) z10_25_ rfl rfl (an_ T_) (fun _ _ _ h => h) (Or.inl ⟨by rfl, ?_⟩) ?_ ?_
          rotate_left; · intro w'; go_simp; with_reducible rfl
          rotate_left; · simp only [Act.put, sa_, sb_, sc_, i64_w, i32_w]; rfl
          refine pure_ (i := 25) (N := some 6) (v := ?_) (a' := ?_) z10_26_ rfl rfl (an_ T_) (fun _ _ _ h => h) (Or.inl ⟨by rfl, ?_⟩) ?_ ?_
          rotate_left; · intro w'; go_simp; with_reducible rfl
          rotate_left; · simp only [Act.put, sa_, sb_, sc_, i64_w, i32_w]; rfl
          refine done_ (done_of T_.out (by kernel_rfl)) ?_
          try go_wp2
          go_ret
          exact ⟨by first | rfl | (simp [errW_none, errW_some] <;> rfl) | (simp [*, errW_none, errW_some] <;> rfl), by repeat (first | (with_reducible first | exact HB.out | apply below_alloc | apply pw_below_drewN | apply below_drew1 | refine below_set ?_ GE396.out | refine below_set ?_ GE415.out | refine below_set ?_ GE416.out) | exact HB.out)⟩

end Go.Proofs.YtpnpmeogffodgaaDoor.Q
end
section
namespace Go.Proofs.YtpnpmeogffodgaaDoor.Q
open Go.RowKit Go.Proofs.YtpnpmeogffodgaaDoorW.PrintWords Go.Proofs.YtpnpmeogffodgaaDoorW.PrintLast Go.Proofs.YtpnpmeogffodgaaDoorW.PrintMore
open Go.Proofs.YtpnpmeogffodgaaDoor.Num
set_option linter.unusedVariables false
set_option linter.unusedSimpArgs false
theorem nodeL_nat {f : Int} (hv : 0 ≤ f ∧ f < 4) (a b c d : Nat) : ∃ x y : Nat, sponge_Node.f 200 f a b c d = some ((x : Int), (y : Int)) := by
  obtain ⟨p, g, e, D⟩ := fd_of hv.1 hv.2
  exact ⟨_, _, Node_f D 200 (by omega) ⟨a, b, c, d⟩⟩
theorem climbL_def {f : Int} (hv : 0 ≤ f ∧ f < 4) : ∀ (l : List S36) (hl : ∀ d ∈ l, nnD d) (i : Int) (x0 x1 : Nat), ∃ y0 y1 : Nat, climbL f i x0 x1 l = some ((y0 : Int), (y1 : Int))
  | [], _, i, x0, x1 => ⟨x0, x1, rfl⟩
  | d :: l, hl, i, x0, x1 => by
    obtain ⟨hd0, hd1⟩ := hl d (List.mem_cons_self ..)
    obtain ⟨p0, e0⟩ := Int.eq_ofNat_of_zero_le hd0
    obtain ⟨p1, e1⟩ := Int.eq_ofNat_of_zero_le hd1
    unfold climbL
    rw [e0, e1]
    cases ho : (Go.bits .and .i64 i 1 == 1) with
    | true =>
      obtain ⟨n0, n1, hn⟩ := nodeL_nat hv p0 p1 x0 x1
      rw [if_pos rfl, hn, Option.bind_some]
      exact climbL_def hv l (fun d hd => hl d (List.mem_cons_of_mem _ hd)) (i / 2) n0 n1
    | false =>
      obtain ⟨n0, n1, hn⟩ := nodeL_nat hv x0 x1 p0 p1
      rw [if_neg (by decide), hn, Option.bind_some]
      exact climbL_def hv l (fun d hd => hl d (List.mem_cons_of_mem _ hd)) (i / 2) n0 n1
theorem neq4_no {a b c d a' b' c' d' : Int} (h : neq4 a b c d a' b' c' d' = false) : a = a' ∧ b = b' ∧ c = c' ∧ d = d' := by
  simp only [neq4, Bool.or_eq_false_iff, Bool.not_eq_false', beq_iff_eq] at h
  exact ⟨h.1.1, h.1.2, h.2.1, h.2.2⟩
def Hit (f : Int) (R : Cl) : Prop := R.ok = true ∧ neq4 R.x0 R.x1 R.x2 R.x3 R.y0 R.y1 R.y2 R.y3 = true ∧ ∃ n : Int × Int, sponge_Node.f 200 f R.x0 R.x1 R.x2 R.x3 = some n ∧ sponge_Node.f 200 f R.y0 R.y1 R.y2 R.y3 = some n
theorem clashL_def {f : Int} (hv : 0 ≤ f ∧ f < 4) : ∀ (ps qs : List S36) (hp : ∀ d ∈ ps, nnD d) (hq : ∀ d ∈ qs, nnD d) (hl : ps.length = qs.length) (i : Int) (a0 a1 b0 b1 : Nat) (x0 x1 x2 x3 y0 y1 y2 y3 : Int) (ok : Bool), ∃ R, clashL f i ⟨a0, a1, b0, b1, x0, x1, x2, x3, y0, y1, y2, y3, ok⟩ ps qs = some R ∧
    climbL f i a0 a1 ps = some (R.a0, R.a1) ∧ climbL f i b0 b1 qs = some (R.b0, R.b1) ∧ (R.a0 = R.b0 → R.a1 = R.b1 → (R.x0 = x0 ∧ R.x1 = x1 ∧ R.x2 = x2 ∧ R.x3 = x3 ∧ R.y0 = y0 ∧ R.y1 = y1 ∧ R.y2 = y2 ∧ R.y3 = y3 ∧ R.ok = ok ∧ a0 = b0 ∧ a1 = b1 ∧ ps = qs) ∨ Hit f R)
  | [], [], _, _, _, i, a0, a1, b0, b1, x0, x1, x2, x3, y0, y1, y2, y3, ok => ⟨_, rfl, rfl, rfl, fun h0 h1 => .inl ⟨rfl, rfl, rfl, rfl, rfl, rfl, rfl, rfl, rfl, Int.ofNat.inj h0, Int.ofNat.inj h1, rfl⟩⟩
  | [], _ :: _, _, _, hl, _, _, _, _, _, _, _, _, _, _, _, _, _, _ => by simp at hl
  | _ :: _, [], _, _, hl, _, _, _, _, _, _, _, _, _, _, _, _, _, _ => by simp at hl
  | p :: ps, q :: qs, hp, hq, hl, i, a0, a1, b0, b1, x0, x1, x2, x3, y0, y1, y2, y3, ok => by
    obtain ⟨hp0, hp1⟩ := hp p (List.mem_cons_self ..)
    obtain ⟨hq0, hq1⟩ := hq q (List.mem_cons_self ..)
    obtain ⟨p0, p1⟩ := p
    obtain ⟨q0, q1⟩ := q
    obtain ⟨p0, rfl⟩ := Int.eq_ofNat_of_zero_le hp0
    obtain ⟨p1, rfl⟩ := Int.eq_ofNat_of_zero_le hp1
    obtain ⟨q0, rfl⟩ := Int.eq_ofNat_of_zero_le hq0
    obtain ⟨q1, rfl⟩ := Int.eq_ofNat_of_zero_le hq1
    have hps : ∀ d ∈ ps, nnD d := fun d hd => hp d (List.mem_cons_of_mem _ hd)
    have hqs : ∀ d ∈ qs, nnD d := fun d hd => hq d (List.mem_cons_of_mem _ hd)
    have hll : ps.length = qs.length := by simpa using hl
    simp only [clashL, clashS, climbL]
    cases ho : (Go.bits .and .i64 i 1 == 1) with
    | true =>
      obtain ⟨n0, n1, hn⟩ := nodeL_nat hv p0 p1 a0 a1
      obtain ⟨m0, m1, hm⟩ := nodeL_nat hv q0 q1 b0 b1
      simp only [if_true, hn, hm, Option.bind_some]
      cases hne : neq4 p0 p1 a0 a1 q0 q1 b0 b1 with
      | true =>
        obtain ⟨R, h1, h2, h3, h4⟩ := clashL_def hv ps qs hps hqs hll (i / 2) n0 n1 m0 m1 p0 p1 a0 a1 q0 q1 b0 b1 true
        refine ⟨R, by simpa using h1, h2, h3, fun e0 e1 => .inr ?_⟩
        rcases h4 e0 e1 with ⟨r0, r1, r2, r3, r4, r5, r6, r7, r8, ra, rb, _⟩ | hh
        · exact ⟨r8, by rw [r0, r1, r2, r3, r4, r5, r6, r7]; exact hne, ((n0 : Int), (n1 : Int)), by rw [r0, r1, r2, r3]; exact hn, by rw [r4, r5, r6, r7, ra, rb]; exact hm⟩
        · exact hh
      | false =>
        obtain ⟨R, h1, h2, h3, h4⟩ := clashL_def hv ps qs hps hqs hll (i / 2) n0 n1 m0 m1 x0 x1 x2 x3 y0 y1 y2 y3 ok
        refine ⟨R, by simpa using h1, h2, h3, fun e0 e1 => ?_⟩
        rcases h4 e0 e1 with ⟨r0, r1, r2, r3, r4, r5, r6, r7, r8, _, _, rl⟩ | hh
        · obtain ⟨k0, k1, k2, k3⟩ := neq4_no hne
          exact .inl ⟨r0, r1, r2, r3, r4, r5, r6, r7, r8, Int.ofNat.inj k2, Int.ofNat.inj k3, by rw [rl, k0, k1]⟩
        · exact .inr hh
    | false =>
      obtain ⟨n0, n1, hn⟩ := nodeL_nat hv a0 a1 p0 p1
      obtain ⟨m0, m1, hm⟩ := nodeL_nat hv b0 b1 q0 q1
      simp only [Bool.false_eq_true, if_false, hn, hm, Option.bind_some]
      cases hne : neq4 a0 a1 p0 p1 b0 b1 q0 q1 with
      | true =>
        obtain ⟨R, h1, h2, h3, h4⟩ := clashL_def hv ps qs hps hqs hll (i / 2) n0 n1 m0 m1 a0 a1 p0 p1 b0 b1 q0 q1 true
        refine ⟨R, by simpa using h1, h2, h3, fun e0 e1 => .inr ?_⟩
        rcases h4 e0 e1 with ⟨r0, r1, r2, r3, r4, r5, r6, r7, r8, ra, rb, _⟩ | hh
        · exact ⟨r8, by rw [r0, r1, r2, r3, r4, r5, r6, r7]; exact hne, ((n0 : Int), (n1 : Int)), by rw [r0, r1, r2, r3]; exact hn, by rw [r4, r5, r6, r7, ra, rb]; exact hm⟩
        · exact hh
      | false =>
        obtain ⟨R, h1, h2, h3, h4⟩ := clashL_def hv ps qs hps hqs hll (i / 2) n0 n1 m0 m1 x0 x1 x2 x3 y0 y1 y2 y3 ok
        refine ⟨R, by simpa using h1, h2, h3, fun e0 e1 => ?_⟩
        rcases h4 e0 e1 with ⟨r0, r1, r2, r3, r4, r5, r6, r7, r8, _, _, rl⟩ | hh
        · obtain ⟨k0, k1, k2, k3⟩ := neq4_no hne
          exact .inl ⟨r0, r1, r2, r3, r4, r5, r6, r7, r8, Int.ofNat.inj k0, Int.ofNat.inj k1, by rw [rl, k2, k3]⟩
        · exact .inr hh
theorem clash_def {f : Int} (hv : 0 ≤ f ∧ f < 4) (i : Int) (a0 a1 b0 b1 : Int) (ps qs : List S36) (ha : 0 ≤ a0 ∧ 0 ≤ a1) (hb : 0 ≤ b0 ∧ 0 ≤ b1) (hp : ∀ d ∈ ps, nnD d) (hq : ∀ d ∈ qs, nnD d) (hl : ps.length = qs.length) : ∃ (x0 x1 x2 x3 y0 y1 y2 y3 : Int) (ok : Bool), tree_Clash.f f i a0 a1 b0 b1 ps qs = some (x0, x1, x2, x3, y0, y1, y2, y3, ok) ∧
    (ok = true → neq4 x0 x1 x2 x3 y0 y1 y2 y3 = true ∧ ∃ n : Int × Int, sponge_Node.f 200 f x0 x1 x2 x3 = some n ∧ sponge_Node.f 200 f y0 y1 y2 y3 = some n) ∧
    (OpD f i a0 a1 ps → OpD f i b0 b1 qs → climbL f i a0 a1 ps = climbL f i b0 b1 qs → ok = false → a0 = b0 ∧ a1 = b1 ∧ ps = qs) := by
  obtain ⟨a0, rfl⟩ := Int.eq_ofNat_of_zero_le ha.1
  obtain ⟨a1, rfl⟩ := Int.eq_ofNat_of_zero_le ha.2
  obtain ⟨b0, rfl⟩ := Int.eq_ofNat_of_zero_le hb.1
  obtain ⟨b1, rfl⟩ := Int.eq_ofNat_of_zero_le hb.2
  unfold tree_Clash.f
  rw [if_pos hl, opens_f, Option.bind_some]
  by_cases o1 : OpD f i a0 a1 ps
  · rw [decide_eq_true o1, if_pos rfl, opens_f, Option.bind_some]
    by_cases o2 : OpD f i b0 b1 qs
    · rw [decide_eq_true o2, if_pos rfl]
      obtain ⟨R, h1, h2, h3, h4⟩ := clashL_def hv ps qs hp hq hl i a0 a1 b0 b1 0 0 0 0 0 0 0 0 false
      rw [h1, Option.bind_some]
      by_cases hd : R.a0 = R.b0 ∧ R.a1 = R.b1
      · rw [if_neg (by simp [hd.1, hd.2])]
        refine ⟨_, _, _, _, _, _, _, _, _, rfl, fun hok => ?_, fun _ _ _ hok => ?_⟩
        · rcases h4 hd.1 hd.2 with ⟨_, _, _, _, _, _, _, _, r8, _⟩ | hh
          · rw [r8] at hok; cases hok
          · exact hh.2
        · rcases h4 hd.1 hd.2 with ⟨_, _, _, _, _, _, _, _, _, ra, rb, rl⟩ | hh
          · exact ⟨by rw [ra], by rw [rb], rl⟩
          · rw [hh.1] at hok; cases hok
      · rw [if_pos (by
          by_cases e0 : R.a0 = R.b0
          · have e1 : ¬ R.a1 = R.b1 := fun e1 => hd ⟨e0, e1⟩
            simp [e0, e1]
          · simp [e0])]
        refine ⟨0, 0, 0, 0, 0, 0, 0, 0, false, rfl, fun h => (by cases h), fun _ _ he _ => ?_⟩
        rw [h2, h3] at he
        simp only [Option.some.injEq, Prod.mk.injEq] at he
        exact absurd he hd
    · rw [decide_eq_false o2, if_neg (by decide)]
      exact ⟨0, 0, 0, 0, 0, 0, 0, 0, false, rfl, fun h => (by cases h), fun _ h => absurd h o2⟩
  · rw [decide_eq_false o1, if_neg (by decide)]
    exact ⟨0, 0, 0, 0, 0, 0, 0, 0, false, rfl, fun h => (by cases h), fun h => absurd h o1⟩
theorem check_def {f : Int} (hv : 0 ≤ f ∧ f < 4) (i a b : Int) (cap l : List S36) (ha : 0 ≤ a ∧ 0 ≤ b) (hl : ∀ d ∈ l, nnD d) (hll : l.length ≤ 39) : ∃ r : Bool, tree_Check.f f cap i a b l = some r ∧ (r = true → OpD f i a b l ∧ climbL f i a b l = some ((rd_T36 cap (i / ((2 ^ l.length : Nat) : Int))).f0, (rd_T36 cap (i / ((2 ^ l.length : Nat) : Int))).f1)) := by
  obtain ⟨a, rfl⟩ := Int.eq_ofNat_of_zero_le ha.1
  obtain ⟨b, rfl⟩ := Int.eq_ofNat_of_zero_le ha.2
  have no : ∃ r : Bool, some false = some r ∧ (r = true → OpD f i a b l ∧ climbL f i a b l = some ((rd_T36 cap (i / ((2 ^ l.length : Nat) : Int))).f0, (rd_T36 cap (i / ((2 ^ l.length : Nat) : Int))).f1)) := ⟨false, rfl, fun h => by cases h⟩
  unfold tree_Check.f
  rw [height_f, Option.bind_some]
  by_cases h0 : lgI (cap.length : Int) < 0
  · rw [if_pos h0]; exact no
  · rw [if_neg h0, opens_f, Option.bind_some]
    by_cases ho : OpD f i a b l
    · rw [decide_eq_true ho, if_pos rfl, proper_f, Option.bind_some]
      by_cases hc : cap.all (okD (fp f)) = true
      · rw [if_pos hc]
        by_cases h18 : wrap64 (lgI (cap.length : Int) + (l.length : Int)) > 18
        · rw [if_pos h18]; exact no
        · rw [if_neg h18, shr_of i l.length (by omega)]
          by_cases hb : i / ((2 ^ l.length : Nat) : Int) ≥ (cap.length : Int)
          · rw [if_pos hb]; exact no
          · rw [if_neg hb]
            obtain ⟨y0, y1, hy⟩ := climbL_def hv l hl i a b
            have hp := Nat.pow_pos (n := l.length) (show 0 < 2 by decide)
            have h5 : 0 ≤ i / ((2 ^ l.length : Nat) : Int) := Int.ediv_nonneg ho.2.1 (by omega)
            rw [show tree_climb.f f i a b l = some ((y0 : Int), (y1 : Int)) from hy, Option.bind_some, if_pos h5, if_pos (by omega)]
            refine ⟨_, rfl, fun h => ⟨ho, ?_⟩⟩
            simp only [Bool.and_eq_true, beq_iff_eq] at h
            rw [hy, h.1, h.2]
      · rw [if_neg hc]; exact no
    · rw [decide_eq_false ho, if_neg (by decide)]; exact no
theorem equal_l (p q : List S36) (hl : p.length = q.length) (hb : p.length ≤ 1000) : ∀ n j k, n + j = p.length → n < k → ∃ b : Bool, attestorref07_Equal.l0 k p q (j : Int) = some b ∧ (p = q → b = true)
  | _, _, 0, _, hk => by omega
  | 0, j, k + 1, hj, _ => ⟨true, by rw [attestorref07_Equal.l0, if_neg (by omega)], fun _ => rfl⟩
  | n + 1, j, k + 1, hj, hk => by
    obtain ⟨b, h1, h2⟩ := equal_l p q hl hb n (j + 1) k (by omega) (by omega)
    rw [attestorref07_Equal.l0, if_pos (by omega), if_pos (by omega), if_pos (by omega), show wrap64 ((j : Int) + 1) = ((j + 1 : Nat) : Int) by unfold wrap64; omega, h1]
    split
    · rename_i hne
      exact ⟨false, rfl, fun e => by subst e; simp at hne⟩
    · exact ⟨b, rfl, h2⟩
theorem same_def (i a0 a1 b0 b1 : Int) (p q : List S36) (hl : p.length = q.length) (hb : p.length ≤ 1000) (k : Nat) (hk : 1001 < k) : ∃ b : Bool, attestorlaw07_same.f k i a0 a1 b0 b1 p q = some b ∧ (a0 = b0 → a1 = b1 → p = q → b = true) := by
  unfold attestorlaw07_same.f
  by_cases h : (a0 == b0 && (a1 == b1)) = true
  · rw [if_pos h]
    obtain ⟨b, h1, h2⟩ := equal_l p q hl hb p.length 0 k rfl (by omega)
    refine ⟨b, ?_, fun _ _ e => h2 e⟩
    rw [show attestorref07_Equal.f k p q = some b from by unfold attestorref07_Equal.f; rw [if_pos (by omega)]; exact h1]
    rfl
  · rw [if_neg h]
    exact ⟨false, rfl, fun e0 e1 _ => by subst e0; subst e1; simp at h⟩
theorem climb_def {f : Int} (hv : 0 ≤ f ∧ f < 4) (i a b : Int) (l : List S36) (ha : 0 ≤ a ∧ 0 ≤ b) (hl : ∀ d ∈ l, nnD d) : ∃ y : Int × Int, tree_Climb.f f i a b l = some y := by
  obtain ⟨a, rfl⟩ := Int.eq_ofNat_of_zero_le ha.1
  obtain ⟨b, rfl⟩ := Int.eq_ofNat_of_zero_le ha.2
  unfold tree_Climb.f
  rw [opens_f, Option.bind_some]
  by_cases ho : OpD f i a b l
  · obtain ⟨y0, y1, hy⟩ := climbL_def hv l hl i a b
    rw [decide_eq_true ho, if_pos rfl, show tree_climb.f f i a b l = some ((y0 : Int), (y1 : Int)) from hy]
    exact ⟨_, rfl⟩
  · rw [decide_eq_false ho, if_neg (by decide)]
    exact ⟨_, rfl⟩
theorem binds_true (a0 : Int) (h0 : 0 ≤ a0) (h1 : a0 < 256) (cap : List S36) (i c0 c1 d0 d1 : Int) (p q : List S36) (hc : 0 ≤ c0 ∧ 0 ≤ c1) (hd : 0 ≤ d0 ∧ 0 ≤ d1) (hp : ∀ d ∈ p, nnD d) (hq : ∀ d ∈ q, nnD d) : attestorlaw07_TreeBinds.f 2000 a0 cap i c0 c1 d0 d1 p q = some true := by
  have hv : 0 ≤ wrap64 (Int.tmod a0 4) ∧ wrap64 (Int.tmod a0 4) < 4 := by
    rw [Int.tmod_eq_emod_of_nonneg h0]
    unfold wrap64
    omega
  have hlv : ∀ k, 80 ≤ k → ((attestorlaw07_lives.f k).bind fun t => some t) = some true := fun k hk => by rw [lives_true k hk]; rfl
  unfold attestorlaw07_TreeBinds.f
  generalize wrap64 (Int.tmod a0 4) = f at hv ⊢
  refine bnd (cut_f cap 70 (by omega)) ?_
  generalize cap.take 70 = cap
  by_cases hl : p.length = q.length
  · rw [if_pos (by omega)]
    by_cases h18 : p.length ≤ 18
    · rw [decide_eq_false (by omega)]
      have J1 : ∀ cap, attestorlaw07_TreeBinds.j1 1999 cap f i c0 c1 d0 d1 p q = some true := by
        intro cap
        obtain ⟨x0, x1, x2, x3, y0, y1, y2, y3, ok, hcl, hok, hno⟩ := clash_def hv i c0 c1 d0 d1 p q hc hd hp hq hl
        obtain ⟨r1, hr1, hr1t⟩ := check_def hv i c0 c1 cap p hc hp (by omega)
        obtain ⟨r2, hr2, hr2t⟩ := check_def hv i d0 d1 cap q hd hq (by omega)
        obtain ⟨sm, hsm, hsmt⟩ := same_def i c0 c1 d0 d1 p q hl (by omega) 1998 (by omega)
        have J2 : attestorlaw07_TreeBinds.j2 1998 f ok false x0 x1 x2 x3 y0 y1 y2 y3 = some true := by
          rw [attestorlaw07_TreeBinds.j2, if_neg (by decide)]
          cases ok with
          | false => rw [if_neg (by decide)]; exact hlv 1997 (by omega)
          | true =>
            obtain ⟨hne, n, hn1, hn2⟩ := hok rfl
            have e1 : sponge_Node.f 1997 f x0 x1 x2 x3 = some n := at_rounds (g := fun k => sponge_Node.f k f x0 x1 x2 x3) (sponge_Node.mono f x0 x1 x2 x3) (by omega) hn1
            have e2 : sponge_Node.f 1997 f y0 y1 y2 y3 = some n := at_rounds (g := fun k => sponge_Node.f k f y0 y1 y2 y3) (sponge_Node.mono f y0 y1 y2 y3) (by omega) hn2
            unfold neq4 at hne
            rw [if_pos rfl, if_pos hne, e1, Option.bind_some, e2, Option.bind_some, if_pos (by simp)]
            exact hlv 1997 (by omega)
        rw [attestorlaw07_TreeBinds.j1]
        refine bnd hcl (bnd hr1 ?_)
        cases r1 with
        | false => rw [if_neg (by decide)]; exact J2
        | true =>
          rw [if_pos rfl]
          refine bnd hr2 ?_
          cases r2 with
          | false => rw [if_neg (by decide)]; exact J2
          | true =>
            rw [if_pos rfl]
            refine bnd hsm ?_
            cases sm with
            | true => rw [if_pos rfl]; exact J2
            | false =>
              rw [if_neg (by decide)]
              cases ok with
              | true => exact J2
              | false =>
                obtain ⟨o1, k1⟩ := hr1t rfl
                obtain ⟨o2, k2⟩ := hr2t rfl
                rw [← hl] at k2
                obtain ⟨e0, e1, e2⟩ := hno o1 o2 (k1.trans k2.symm) rfl
                exact absurd (hsmt e0 e1 e2) (by decide)
      show attestorlaw07_TreeBinds.j0 (1999 + 1) cap f false i c0 c1 d0 d1 p q = some true
      rw [attestorlaw07_TreeBinds.j0, if_neg (by decide)]
      by_cases hz : (cap.length : Int) = 0
      · rw [if_pos hz]
        obtain ⟨y, hy⟩ := climb_def hv i c0 c1 p hc hp
        exact bnd hy (J1 _)
      · rw [if_neg hz]
        exact J1 _
    · rw [decide_eq_true (by omega)]
      show attestorlaw07_TreeBinds.j0 (1999 + 1) cap f true i c0 c1 d0 d1 p q = some true
      rw [attestorlaw07_TreeBinds.j0, if_pos rfl]
      exact hlv 1999 (by omega)
  · rw [if_neg (by omega)]
    show attestorlaw07_TreeBinds.j0 (1999 + 1) cap f true i c0 c1 d0 d1 p q = some true
    rw [attestorlaw07_TreeBinds.j0, if_pos rfl]
    exact hlv 1999 (by omega)
end Go.Proofs.YtpnpmeogffodgaaDoor.Q
end
section
namespace Go.Proofs.YtpnpmeogffodgaaDoor.Q
open Go.ChangeShapes Go.WideShapes Go.ChangeAt Go.WideMaps Go.WideElems Go.RowKit
open Go.Proofs.YtpnpmeogffodgaaDoorW.PrintWords Go.Proofs.YtpnpmeogffodgaaDoorW.PrintLast Go.Proofs.YtpnpmeogffodgaaDoorW.PrintMore
open Go.Proofs.YtpnpmeogffodgaaDoor.Opn
set_option linter.unusedVariables false

set_option maxRecDepth 100000 in
theorem treeBinds_lifted (os : Os) (started : os.Started) (H : Type) (enc : TypeId × Value → H) :
    ReturnsInHanded {} Tryd.checked os 10 .any (fun w args => (Rows.treeBindsSpec.pre enc Tryd.prog Tryd.f10 [] false w args ∧ laidMetH Tryd.prog laid1 w) ∧ sizedMet enc Tryd.prog Tryd.f10 (OpenSpec.ofChange Rows.treeBindsSpec) false w args)
      (Rows.treeBindsSpec.post enc Tryd.prog Tryd.f10 false true false false) := by
  refine returnsInHanded_of_change_and (C := Tryd.checked) (X := (fun w _ => laidMetH Tryd.prog laid1 w)) (fun _ _ _ hh h => h.of_heap hh) own started (by kernel_rfl) Tryd.func10
    (ChangeSpec.witness_shaped (enc := enc) (C := Tryd.checked) (os := os) (X := (fun w _ => laidMetH Tryd.prog laid1 w)) false (World.doorLaid Tryd.prog 400 os) #[.int .u8 0, .slice none 0 0, .agg #[.int .i64 0, .int .u64 0, .int .u64 0, .int .u64 0, .int .u64 0, .slice none 0 0, .slice none 0 0]] 8 rfl (World.shaped_of_RefB (by kernel_rfl) (by kernel_rfl)) (by kernel_rfl) (by kernel_rfl) (by kernel_rfl) (door_met os _)) ?_
  intro W base args ds gs before hval0 hW _ _ hL _
  have hval : ∀ (j : Nat) t v, Tryd.f10.params[j]? = some t → args[j]? = some v → Value.okWide Tryd.prog W .any base t v := hval0
  have hW' := hW
  obtain ⟨p, q, hA0, hV, rfl, hfz, hnd⟩ := hW
  have hA : DataW.TrodAll enc Tryd.prog W 0 (fun _ => true) true Tryd.f10.params.toList args.toList ds p := hA0
  rw [Tryd.params10] at hA hval
  obtain ⟨v0, vs0, d0, ds0, p0, q0, hargs, rfl, rfl, h0, r0⟩ := trodAll_cons hA
  obtain ⟨v1, vs1, d1, ds1, p1, q1, rfl, rfl, rfl, h1, r1⟩ := trodAll_cons r0
  obtain ⟨v2, vs2, d2, ds2, p2, q2, rfl, rfl, rfl, h2, r2⟩ := trodAll_cons r1
  obtain ⟨rfl, rfl, rfl⟩ := trodAll_nil r2
  obtain rfl : args = #[v0, v1, v2] := by cases args; simp_all
  obtain ⟨rfl, rfl⟩ := trodVars_none hV
  obtain ⟨a0, rfl, rfl, rfl, w0⟩ := open_int Tryd.underlying5 (hval 0 5 v0 rfl rfl) h0
  obtain ⟨a1, len1, cap1, rfl⟩ := okWide_slice Tryd.underlying22 (hval 1 22 v1 rfl rfl)
  have k1 := h1
  have lt1 : ∀ x ∈ p1, x.block < W.heap.size := by obtain ⟨m, hm⟩ := k1; exact DataW.trod_lt m _ _ _ hm
  obtain ⟨m1, hm1⟩ := h1
  obtain ⟨l1, ⟨A1, c1, hc1, hle1, hC1⟩, hw1⟩ := opn22 (enc := enc) (W := W) m1 _ _ hm1
  simp only [Value.cells, List.cons.injEq, and_true, Value.slice.injEq] at hc1
  obtain ⟨rfl, rfl, rfl⟩ := hc1
  have k2 := h2
  have lt2 : ∀ x ∈ p2, x.block < W.heap.size := by obtain ⟨m, hm⟩ := k2; exact DataW.trod_lt m _ _ _ hm
  obtain ⟨cs2, rfl, _⟩ := okWide_struct Tryd.underlying47 (hval 2 47 v2 rfl rfl)
  obtain ⟨m2, hm2⟩ := h2
  obtain ⟨a2_0, a2_1, a2_2, a2_3, a2_4, A2_5, c2_5, l2_5, A2_6, c2_6, l2_6, hcs2, w2_0, w2_1, w2_2, w2_3, w2_4, hle2_5, hC2_5, w2_5, hle2_6, hC2_6, w2_6⟩ := flat47 m2 _ _ hm2
  obtain rfl : cs2 = #[.int .i64 a2_0, .int .u64 a2_1, .int .u64 a2_2, .int .u64 a2_3, .int .u64 a2_4, .slice A2_5 l2_5.length c2_5, .slice A2_6 l2_6.length c2_6] := by cases cs2; simp only [Value.cells] at hcs2; subst hcs2; rfl
  clear hA0 hval0
  refine (attestorlaw07_TreeBinds.calls 2000 a0 a1 cap1 l1 a2_0 a2_1 a2_2 a2_3 a2_4 A2_5 c2_5 l2_5 A2_6 c2_6 l2_6 true W hC1 hle1 hC2_5 hle2_5 hC2_6 hle2_6 (gl_of_laid hL) (binds_true a0 (wf_u8 w0).1 (wf_u8 w0).2 l1 a2_0 a2_1 a2_2 a2_3 a2_4 l2_5 l2_6 ⟨(wf_u64 w2_1).1, (wf_u64 w2_2).1⟩ ⟨(wf_u64 w2_3).1, (wf_u64 w2_4).1⟩ (nn_of w2_5) (nn_of w2_6))).mono fun e W' ⟨he, bel⟩ => ?_
  subst he
  exact ⟨_, rfl, _, _, _, [], _, [], hW', trodAll_mk1 (shut_bool Tryd.underlying4 _), (trodAll_cons_mk (shut_int Tryd.underlying5 w0) (trodAll_cons_mk (Below.trod laidOut (by kernel_rfl) (of_decide_eq_true (by kernel_rfl)) k1 bel lt1) (trodAll_cons_mk (Below.trod laidOut (by kernel_rfl) (of_decide_eq_true (by kernel_rfl)) k2 bel lt2) trodAll_mk0))), rfl, bel.frame _, fun h => by cases h⟩
theorem treeBinds_row : Rows.TreeBindsSaid :=
  OpenClaim.holds_of_wide 10 Tryd.f10 rfl rfl rfl rfl rfl rfl rfl ⟨rfl, rfl, rfl, rfl, rfl⟩ rfl rfl rfl rfl rfl (by kernel_rfl) Tryd.func10 (by kernel_rfl)
    (of_decide_eq_true (by kernel_rfl)) (by unfold Func.isWrapper; first | (rw [if_pos (by decide +kernel)]; kernel_rfl) | (rw [if_neg (by decide +kernel)]; exact ⟨rfl, rfl⟩))
    (fun os started H enc _ => treeBinds_lifted os started H enc)
theorem treeBinds_card : Rows.TreeBindsCardSaid :=
  Claim7.holds_tied_plain_at .later [] [.widerDeep, .data, .data] true Rows.treeBindsCard.stood.harness false
    treeBinds_row (fun _ h => by cases h) (by kernel_rfl) (fun _ h => by cases h) treeBinds_row_tie rfl ⟨rfl, rfl⟩ (by kernel_rfl) rfl
    (fun f fn hf hfn => by
      obtain rfl : f = 10 := Option.some.inj ((show Tryd.prog.funcNamed "attestor/attestorlaw07.TreeBinds" = some 10 by kernel_rfl).symm.trans hf) |>.symm
      obtain rfl : fn = Tryd.f10 := (Option.some.inj (Tryd.func10.symm.trans hfn)).symm
      exact ⟨by kernel_rfl, fun j t ht => by
        rw [Tryd.params10] at ht
        have hm : t ∈ [5, 22, 47] := by simpa using Array.mem_of_getElem? ht
        have hall : ([5, 22, 47].all fun u => !Tryd.prog.wantsStandIn u) = true := by kernel_rfl
        exact (show Tryd.prog.wantsStandIn t = false by simpa using List.all_eq_true.1 hall t hm)⟩)
    (by kernel_rfl)
end Go.Proofs.YtpnpmeogffodgaaDoor.Q
namespace Go.Proofs.YtpnpmeogffodgaaDoor
/-- Under a short name, for the claim. -/
theorem treeBinds_holds : Rows.TreeBindsCardSaid := Q.treeBinds_card
end Go.Proofs.YtpnpmeogffodgaaDoor
#print axioms Go.Proofs.YtpnpmeogffodgaaDoor.treeBinds_holds
end
