/- Several texts in one, in build order. What they prove, each by its own first remark:
Written by our own copy of a printing program (a twelfth state) out of the translation. Not trusted: Lean checks it.
Of PSb what this claim needs.
tree.height by hand (with math/bits.TrailingZeros of a power of two): what it computes, and its contract.
'==' of arrays as one Bool.
The contract of an instance of slices.Clone: what it hands back reads as what came in, and is memory of its own. -/
import Derived.Test.YtpnpmeogffodgaaDoorM2
import Derived.Test.YtpnpmeogffodgaaDoorM3
import Derived.ChangeKeysEq
import Derived.WalkSpells
section
namespace Go.Proofs.YtpnpmeogffodgaaDoor.Q
open Go.RowKit Go.Proofs.YtpnpmeogffodgaaDoorW.PrintWords Go.Proofs.YtpnpmeogffodgaaDoorW.PrintLast Go.Proofs.YtpnpmeogffodgaaDoorW.PrintMore
attribute [local go_sem] max2_int min2_int max_two min_two max_three min_three max_four min_four run_store_fnV run_store_fnc run_store_nfn   -- for this text's walks alone
set_option linter.unusedVariables false
set_option linter.unusedSimpArgs false

abbrev z72_0_ : Array Bool := #[false, false, false, false, false, false, false, false, false, false, false, false]
abbrev z72_1_ : Array Bool := #[true, false, false, false, false, false, false, false, false, false, false, false]
abbrev z72_2_ : Array Bool := #[true, true, false, false, false, false, false, false, false, false, false, false]
abbrev z72_3_ : Array Bool := #[true, true, true, false, false, false, false, false, false, false, false, false]
abbrev z72_4_ : Array Bool := #[true, true, true, true, false, false, false, false, false, false, false, false]
abbrev z72_5_ : Array Bool := #[true, true, true, true, false, true, false, false, false, false, false, false]
abbrev z72_6_ : Array Bool := #[true, true, true, true, false, true, true, false, false, false, false, false]
abbrev z72_7_ : Array Bool := #[true, true, true, true, false, true, true, true, false, false, false, false]
abbrev z72_8_ : Array Bool := #[true, true, true, true, true, true, true, true, false, false, false, false]
abbrev z72_9_ : Array Bool := #[true, true, true, true, true, true, true, true, true, false, false, false]
abbrev z72_10_ : Array Bool := #[true, true, true, true, true, true, true, true, true, true, false, false]
abbrev z72_11_ : Array Bool := #[true, true, true, true, true, true, true, true, true, true, true, false]
abbrev z72_12_ : Array Bool := #[true, true, true, true, true, true, true, true, true, true, true, true]
abbrev z72_13_ : Array Bool := #[false, false, false, false, false, false, false, false, false, false, false]
abbrev z72_14_ : Array Bool := #[true, false, false, false, false, false, false, false, false, false, false]
abbrev z72_15_ : Array Bool := #[true, true, false, false, false, false, false, false, false, false, false]
abbrev z72_16_ : Array Bool := #[true, true, true, false, false, false, false, false, false, false, false]
abbrev z72_17_ : Array Bool := #[true, true, true, true, false, false, false, false, false, false, false]
abbrev z72_18_ : Array Bool := #[true, true, true, true, false, true, false, false, false, false, false]
abbrev z72_19_ : Array Bool := #[true, true, true, true, true, true, false, false, false, false, false]
abbrev z72_20_ : Array Bool := #[true, true, true, true, true, true, true, false, false, false, false]
abbrev z72_21_ : Array Bool := #[true, true, true, true, true, true, true, true, false, false, false]
abbrev z72_22_ : Array Bool := #[true, true, true, true, true, true, true, true, true, false, false]
abbrev z72_23_ : Array Bool := #[true, true, true, true, true, true, true, true, true, true, false]
abbrev z72_24_ : Array Bool := #[true, true, true, true, true, true, true, true, true, true, true]
abbrev z72_25_ : Array Bool := #[false, false, false, false, false, false, false, false, false, false, false, false, false, false, false, false]
abbrev z72_26_ : Array Bool := #[true, false, false, false, false, false, false, false, false, false, false, false, false, false, false, false]
abbrev z72_27_ : Array Bool := #[true, true, false, false, false, false, false, false, false, false, false, false, false, false, false, false]
abbrev z72_28_ : Array Bool := #[true, true, true, false, false, false, false, false, false, false, false, false, false, false, false, false]
abbrev z72_29_ : Array Bool := #[true, true, true, true, false, false, false, false, false, false, false, false, false, false, false, false]
abbrev z72_30_ : Array Bool := #[true, true, true, true, false, true, false, false, false, false, false, false, false, false, false, false]
abbrev z72_31_ : Array Bool := #[true, true, true, true, false, true, true, false, false, false, false, false, false, false, false, false]
abbrev z72_32_ : Array Bool := #[true, true, true, true, false, true, true, true, false, false, false, false, false, false, false, false]
abbrev z72_33_ : Array Bool := #[true, true, true, true, false, true, true, true, false, true, false, false, false, false, false, false]
abbrev z72_34_ : Array Bool := #[true, true, true, true, false, true, true, true, false, true, true, false, false, false, false, false]
abbrev z72_35_ : Array Bool := #[true, true, true, true, true, true, true, true, false, true, true, false, false, false, false, false]
abbrev z72_36_ : Array Bool := #[true, true, true, true, true, true, true, true, true, true, true, false, false, false, false, false]
abbrev z72_37_ : Array Bool := #[true, true, true, true, true, true, true, true, true, true, true, true, false, false, false, false]
abbrev z72_38_ : Array Bool := #[true, true, true, true, true, true, true, true, true, true, true, true, true, false, false, false]
abbrev z72_39_ : Array Bool := #[true, true, true, true, true, true, true, true, true, true, true, true, true, true, false, false]
abbrev z72_40_ : Array Bool := #[true, true, true, true, true, true, true, true, true, true, true, true, true, true, true, false]
abbrev z72_41_ : Array Bool := #[true, true, true, true, true, true, true, true, true, true, true, true, true, true, true, true]
/-! ### attestorref06_Round: function 72 -/
mutual
def attestorref06_Round.j0 : Nat → Int → Int → Bool → Int → Int → Int → Int → Option (Int × Int × Int × Int)
  | 0, _, _, _, _, _, _, _ => none
  | k + 1, x0, x1, x23, x249000, x249001, x249002, x249003 => if x23 = true then (some (0, 0, 0, 0)) else (attestorref06_Round.l0 k x0 x1 0 x249000 x249001 x249002 x249003)
def attestorref06_Round.l0 : Nat → Int → Int → Int → Int → Int → Int → Int → Option (Int × Int × Int × Int)
  | 0, _, _, _, _, _, _, _ => none
  | k + 1, x0, x1, x7, x249000, x249001, x249002, x249003 => if x7 < 4 then (if 0 ≤ x7 then ((attestorref06_Constant.f k x0 x1 x7).bind fun t251 => ((attestorref01_Add.f x0 (rd ([x249000, x249001, x249002, x249003] : List Int) x7) t251).bind fun t252 => (attestorref06_Round.l0 k x0 x1 (wrap64 (x7 + 1)) (updv x249000 0 x7 t252) (updv x249001 1 x7 t252) (updv x249002 2 x7 t252) (updv x249003 3 x7 t252)))) else (none)) else (attestorref06_Round.l1 k x0 0 x249000 x249001 x249002 x249003)
def attestorref06_Round.l1 : Nat → Int → Int → Int → Int → Int → Int → Option (Int × Int × Int × Int)
  | 0, _, _, _, _, _, _ => none
  | k + 1, x0, x8, x249000, x249001, x249002, x249003 => if x8 < 4 then (if 0 ≤ x8 then ((attestorref01_Exponent.f k x0).bind fun t253 => ((attestorref01_Pow.f k x0 (rd ([x249000, x249001, x249002, x249003] : List Int) x8) (IntKind.u64.wrap (t253))).bind fun t254 => (attestorref06_Round.l1 k x0 (wrap64 (x8 + 1)) (updv x249000 0 x8 t254) (updv x249001 1 x8 t254) (updv x249002 2 x8 t254) (updv x249003 3 x8 t254)))) else (none)) else (attestorref06_Round.l2 k x0 0 x249000 x249001 x249002 x249003 0 0 0 0)
def attestorref06_Round.l2 : Nat → Int → Int → Int → Int → Int → Int → Int → Int → Int → Int → Option (Int × Int × Int × Int)
  | 0, _, _, _, _, _, _, _, _, _, _ => none
  | k + 1, x0, x10, x249000, x249001, x249002, x249003, x256000, x256001, x256002, x256003 => if x10 < 4 then ((attestorref06_row.f x10).bind fun bt256 => (attestorref06_Round.l3 k x0 x10 0 x249000 x249001 x249002 x249003 x256000 x256001 x256002 x256003 bt256.1 bt256.2.1 bt256.2.2.1 bt256.2.2.2)) else (some (x256000, x256001, x256002, x256003))
def attestorref06_Round.l3 : Nat → Int → Int → Int → Int → Int → Int → Int → Int → Int → Int → Int → Int → Int → Int → Int → Option (Int × Int × Int × Int)
  | 0, _, _, _, _, _, _, _, _, _, _, _, _, _, _, _ => none
  | k + 1, x0, x10, x12, x249000, x249001, x249002, x249003, x256000, x256001, x256002, x256003, x261000, x261001, x261002, x261003 => if x12 < 4 then (if 0 ≤ x10 then (if x10 < 4 then (if 0 ≤ x12 then ((attestorref01_Mul.f x0 (rd ([x261000, x261001, x261002, x261003] : List Int) x12) (rd ([x249000, x249001, x249002, x249003] : List Int) x12)).bind fun t261 => ((attestorref01_Add.f x0 (rd ([x256000, x256001, x256002, x256003] : List Int) x10) t261).bind fun t262 => (attestorref06_Round.l3 k x0 x10 (wrap64 (x12 + 1)) x249000 x249001 x249002 x249003 (updv x256000 0 x10 t262) (updv x256001 1 x10 t262) (updv x256002 2 x10 t262) (updv x256003 3 x10 t262) x261000 x261001 x261002 x261003))) else (none)) else (none)) else (none)) else (attestorref06_Round.l2 k x0 (wrap64 (x10 + 1)) x249000 x249001 x249002 x249003 x256000 x256001 x256002 x256003)
end
def attestorref06_Round.f (k : Nat) (a0 : Int) (a1 : Int) (a2_0 : Int) (a2_1 : Int) (a2_2 : Int) (a2_3 : Int) : Option (Int × Int × Int × Int) := (attestorref01_Valid.f a0).bind fun t250 => (if t250 = true then (if a1 < 0 then (attestorref06_Round.j0 k a0 a1 true a2_0 a2_1 a2_2 a2_3) else (attestorref06_Round.j0 k a0 a1 (decide (a1 > 7)) a2_0 a2_1 a2_2 a2_3)) else (attestorref06_Round.j0 k a0 a1 true a2_0 a2_1 a2_2 a2_3))
theorem attestorref06_Round.mono_l : ∀ k, (∀ y0 y1 y2 y3 y4 y5 y6, LeO (attestorref06_Round.j0 k y0 y1 y2 y3 y4 y5 y6) (attestorref06_Round.j0 (k + 1) y0 y1 y2 y3 y4 y5 y6)) ∧ (∀ y0 y1 y2 y3 y4 y5 y6, LeO (attestorref06_Round.l0 k y0 y1 y2 y3 y4 y5 y6) (attestorref06_Round.l0 (k + 1) y0 y1 y2 y3 y4 y5 y6)) ∧ (∀ y0 y1 y2 y3 y4 y5, LeO (attestorref06_Round.l1 k y0 y1 y2 y3 y4 y5) (attestorref06_Round.l1 (k + 1) y0 y1 y2 y3 y4 y5)) ∧ (∀ y0 y1 y2 y3 y4 y5 y6 y7 y8 y9, LeO (attestorref06_Round.l2 k y0 y1 y2 y3 y4 y5 y6 y7 y8 y9) (attestorref06_Round.l2 (k + 1) y0 y1 y2 y3 y4 y5 y6 y7 y8 y9)) ∧ (∀ y0 y1 y2 y3 y4 y5 y6 y7 y8 y9 y10 y11 y12 y13 y14, LeO (attestorref06_Round.l3 k y0 y1 y2 y3 y4 y5 y6 y7 y8 y9 y10 y11 y12 y13 y14) (attestorref06_Round.l3 (k + 1) y0 y1 y2 y3 y4 y5 y6 y7 y8 y9 y10 y11 y12 y13 y14))
  | 0 => ⟨fun _ _ _ _ _ _ _ r h => by simp [attestorref06_Round.j0] at h, fun _ _ _ _ _ _ _ r h => by simp [attestorref06_Round.l0] at h, fun _ _ _ _ _ _ r h => by simp [attestorref06_Round.l1] at h, fun _ _ _ _ _ _ _ _ _ _ r h => by simp [attestorref06_Round.l2] at h, fun _ _ _ _ _ _ _ _ _ _ _ _ _ _ _ r h => by simp [attestorref06_Round.l3] at h⟩
  | k + 1 => by
    obtain ⟨ih0, ih1, ih2, ih3, ih4⟩ := attestorref06_Round.mono_l k
    refine ⟨?_, ?_, ?_, ?_, ?_⟩
    · intro y0 y1 y2 y3 y4 y5 y6
      unfold attestorref06_Round.j0
      repeat' first
      | (with_reducible exact ih0 _ _ _ _ _ _ _)
      | (with_reducible exact ih1 _ _ _ _ _ _ _)
      | (with_reducible exact ih2 _ _ _ _ _ _)
      | (with_reducible exact ih3 _ _ _ _ _ _ _ _ _ _)
      | (with_reducible exact ih4 _ _ _ _ _ _ _ _ _ _ _ _ _ _ _)
      | (with_reducible exact attestorref01_Exponent.mono _ _)
      | (with_reducible exact attestorref01_Pow.mono _ _ _ _)
      | (with_reducible exact attestorref06_Constant.mono _ _ _ _)
      | (with_reducible exact LeO.refl _)
      | (with_reducible exact LeO.none _)
      | (with_reducible refine LeO.ite ?_ ?_)
      | (with_reducible refine LeO.bind ?_ (fun _ => ?_))
      | exact ih0 _ _ _ _ _ _ _
      | exact ih1 _ _ _ _ _ _ _
      | exact ih2 _ _ _ _ _ _
      | exact ih3 _ _ _ _ _ _ _ _ _ _
      | exact ih4 _ _ _ _ _ _ _ _ _ _ _ _ _ _ _
      | exact attestorref01_Exponent.mono _ _
      | exact attestorref01_Pow.mono _ _ _ _
      | exact attestorref06_Constant.mono _ _ _ _
      | exact LeO.none _
      | refine LeO.ite ?_ ?_
      | refine LeO.bind ?_ (fun _ => ?_)
    · intro y0 y1 y2 y3 y4 y5 y6
      unfold attestorref06_Round.l0
      repeat' first
      | (with_reducible exact ih0 _ _ _ _ _ _ _)
      | (with_reducible exact ih1 _ _ _ _ _ _ _)
      | (with_reducible exact ih2 _ _ _ _ _ _)
      | (with_reducible exact ih3 _ _ _ _ _ _ _ _ _ _)
      | (with_reducible exact ih4 _ _ _ _ _ _ _ _ _ _ _ _ _ _ _)
      | (with_reducible exact attestorref01_Exponent.mono _ _)
      | (with_reducible exact attestorref01_Pow.mono _ _ _ _)
      | (with_reducible exact attestorref06_Constant.mono _ _ _ _)
      | (with_reducible exact LeO.refl _)
      | (with_reducible exact LeO.none _)
      | (with_reducible refine LeO.ite ?_ ?_)
      | (with_reducible refine LeO.bind ?_ (fun _ => ?_))
      | exact ih0 _ _ _ _ _ _ _
      | exact ih1 _ _ _ _ _ _ _
      | exact ih2 _ _ _ _ _ _
      | exact ih3 _ _ _ _ _ _ _ _ _ _
      | exact ih4 _ _ _ _ _ _ _ _ _ _ _ _ _ _ _
      | exact attestorref01_Exponent.mono _ _
      | exact attestorref01_Pow.mono _ _ _ _
      | exact attestorref06_Constant.mono _ _ _ _
      | exact LeO.none _
      | refine LeO.ite ?_ ?_
      | refine LeO.bind ?_ (fun _ => ?_)
    · intro y0 y1 y2 y3 y4 y5
      unfold attestorref06_Round.l1
      repeat' first
      | (with_reducible exact ih0 _ _ _ _ _ _ _)
      | (with_reducible exact ih1 _ _ _ _ _ _ _)
      | (with_reducible exact ih2 _ _ _ _ _ _)
      | (with_reducible exact ih3 _ _ _ _ _ _ _ _ _ _)
      | (with_reducible exact ih4 _ _ _ _ _ _ _ _ _ _ _ _ _ _ _)
      | (with_reducible exact attestorref01_Exponent.mono _ _)
      | (with_reducible exact attestorref01_Pow.mono _ _ _ _)
      | (with_reducible exact attestorref06_Constant.mono _ _ _ _)
      | (with_reducible exact LeO.refl _)
      | (with_reducible exact LeO.none _)
      | (with_reducible refine LeO.ite ?_ ?_)
      | (with_reducible refine LeO.bind ?_ (fun _ => ?_))
      | exact ih0 _ _ _ _ _ _ _
      | exact ih1 _ _ _ _ _ _ _
      | exact ih2 _ _ _ _ _ _
      | exact ih3 _ _ _ _ _ _ _ _ _ _
      | exact ih4 _ _ _ _ _ _ _ _ _ _ _ _ _ _ _
      | exact attestorref01_Exponent.mono _ _
      | exact attestorref01_Pow.mono _ _ _ _
      | exact attestorref06_Constant.mono _ _ _ _
      | exact LeO.none _
      | refine LeO.ite ?_ ?_
      | refine LeO.bind ?_ (fun _ => ?_)
    · intro y0 y1 y2 y3 y4 y5 y6 y7 y8 y9
      unfold attestorref06_Round.l2
      repeat' first
      | (with_reducible exact ih0 _ _ _ _ _ _ _)
      | (with_reducible exact ih1 _ _ _ _ _ _ _)
      | (with_reducible exact ih2 _ _ _ _ _ _)
      | (with_reducible exact ih3 _ _ _ _ _ _ _ _ _ _)
      | (with_reducible exact ih4 _ _ _ _ _ _ _ _ _ _ _ _ _ _ _)
      | (with_reducible exact attestorref01_Exponent.mono _ _)
      | (with_reducible exact attestorref01_Pow.mono _ _ _ _)
      | (with_reducible exact attestorref06_Constant.mono _ _ _ _)
      | (with_reducible exact LeO.refl _)
      | (with_reducible exact LeO.none _)
      | (with_reducible refine LeO.ite ?_ ?_)
      | (with_reducible refine LeO.bind ?_ (fun _ => ?_))
      | exact ih0 _ _ _ _ _ _ _
      | exact ih1 _ _ _ _ _ _ _
      | exact ih2 _ _ _ _ _ _
      | exact ih3 _ _ _ _ _ _ _ _ _ _
      | exact ih4 _ _ _ _ _ _ _ _ _ _ _ _ _ _ _
      | exact attestorref01_Exponent.mono _ _
      | exact attestorref01_Pow.mono _ _ _ _
      | exact attestorref06_Constant.mono _ _ _ _
      | exact LeO.none _
      | refine LeO.ite ?_ ?_
      | refine LeO.bind ?_ (fun _ => ?_)
    · intro y0 y1 y2 y3 y4 y5 y6 y7 y8 y9 y10 y11 y12 y13 y14
      unfold attestorref06_Round.l3
      repeat' first
      | (with_reducible exact ih0 _ _ _ _ _ _ _)
      | (with_reducible exact ih1 _ _ _ _ _ _ _)
      | (with_reducible exact ih2 _ _ _ _ _ _)
      | (with_reducible exact ih3 _ _ _ _ _ _ _ _ _ _)
      | (with_reducible exact ih4 _ _ _ _ _ _ _ _ _ _ _ _ _ _ _)
      | (with_reducible exact attestorref01_Exponent.mono _ _)
      | (with_reducible exact attestorref01_Pow.mono _ _ _ _)
      | (with_reducible exact attestorref06_Constant.mono _ _ _ _)
      | (with_reducible exact LeO.refl _)
      | (with_reducible exact LeO.none _)
      | (with_reducible refine LeO.ite ?_ ?_)
      | (with_reducible refine LeO.bind ?_ (fun _ => ?_))
      | exact ih0 _ _ _ _ _ _ _
      | exact ih1 _ _ _ _ _ _ _
      | exact ih2 _ _ _ _ _ _
      | exact ih3 _ _ _ _ _ _ _ _ _ _
      | exact ih4 _ _ _ _ _ _ _ _ _ _ _ _ _ _ _
      | exact attestorref01_Exponent.mono _ _
      | exact attestorref01_Pow.mono _ _ _ _
      | exact attestorref06_Constant.mono _ _ _ _
      | exact LeO.none _
      | refine LeO.ite ?_ ?_
      | refine LeO.bind ?_ (fun _ => ?_)
theorem attestorref06_Round.mono : ∀ a0 a1 a2 a3 a4 a5 k, LeO (attestorref06_Round.f k a0 a1 a2 a3 a4 a5) (attestorref06_Round.f (k + 1) a0 a1 a2 a3 a4 a5) := by
  intro a0 a1 a2 a3 a4 a5 k
  obtain ⟨ih0, ih1, ih2, ih3, ih4⟩ := attestorref06_Round.mono_l k
  unfold attestorref06_Round.f
  repeat' first
      | (with_reducible exact ih0 _ _ _ _ _ _ _)
      | (with_reducible exact ih1 _ _ _ _ _ _ _)
      | (with_reducible exact ih2 _ _ _ _ _ _)
      | (with_reducible exact ih3 _ _ _ _ _ _ _ _ _ _)
      | (with_reducible exact ih4 _ _ _ _ _ _ _ _ _ _ _ _ _ _ _)
      | (with_reducible exact attestorref01_Exponent.mono _ _)
      | (with_reducible exact attestorref01_Pow.mono _ _ _ _)
      | (with_reducible exact attestorref06_Constant.mono _ _ _ _)
      | (with_reducible exact LeO.refl _)
      | (with_reducible exact LeO.none _)
      | (with_reducible refine LeO.ite ?_ ?_)
      | (with_reducible refine LeO.bind ?_ (fun _ => ?_))
      | exact ih0 _ _ _ _ _ _ _
      | exact ih1 _ _ _ _ _ _ _
      | exact ih2 _ _ _ _ _ _
      | exact ih3 _ _ _ _ _ _ _ _ _ _
      | exact ih4 _ _ _ _ _ _ _ _ _ _ _ _ _ _ _
      | exact attestorref01_Exponent.mono _ _
      | exact attestorref01_Pow.mono _ _ _ _
      | exact attestorref06_Constant.mono _ _ _ _
      | exact LeO.none _
      | refine LeO.ite ?_ ?_
      | refine LeO.bind ?_ (fun _ => ?_)
def attestorref06_Round.T6 : Bool × List (List Nat × List Nat) := (true, [([], []), ([], []), ([], []), ([2], [2]), ([3], [3]), ([], []), ([], []), ([], []), ([5, 6, 7], [5, 6, 7]), ([1, 4, 8, 8], [1, 4, 8]), ([0, 0, 1, 2, 3, 4, 5, 6, 7, 8, 9], [0]), ([10, 9, 9, 0, 1, 2, 3, 4, 5, 6, 7, 8, 9], [9, 10])])
def attestorref06_Round.B6 : List Nat := [0, 0, 0, 4, 12, 0, 0, 0, 224, 510, 1023, 2047]
theorem attestorref06_Round.tab6 : rtab .any (opsOf Tryd.f72 6) = attestorref06_Round.T6 := by kernel_rfl
theorem attestorref06_Round.bits6 : waitsOk attestorref06_Round.T6.2 attestorref06_Round.B6 = true := by kernel_rfl
def attestorref06_Round.T10 : Bool × List (List Nat × List Nat) := (true, [([], []), ([], []), ([], []), ([2], [2]), ([3], [3]), ([], []), ([5], [5]), ([6], [6]), ([1, 4, 7, 6], [1, 4, 7]), ([0, 0, 1, 2, 3, 4, 5, 6, 7, 8], [0]), ([9, 8, 8, 0, 1, 2, 3, 4, 5, 6, 7, 8], [8, 9])])
def attestorref06_Round.B10 : List Nat := [0, 0, 0, 4, 12, 0, 32, 96, 254, 511, 1023]
theorem attestorref06_Round.tab10 : rtab .any (opsOf Tryd.f72 10) = attestorref06_Round.T10 := by kernel_rfl
theorem attestorref06_Round.bits10 : waitsOk attestorref06_Round.T10.2 attestorref06_Round.B10 = true := by kernel_rfl
def attestorref06_Round.T19 : Bool × List (List Nat × List Nat) := (true, [([], []), ([], []), ([], []), ([2], [2]), ([3], [3]), ([], []), ([], []), ([6], [6]), ([7], [7]), ([], []), ([9], [9]), ([10], [10]), ([5, 8, 11], [5, 8, 11]), ([1, 4, 12, 12], [1, 4, 12]), ([0, 0, 1, 2, 3, 4, 5, 6, 7, 8, 9, 10, 11, 12, 13], [0]), ([14, 13, 13, 0, 1, 2, 3, 4, 5, 6, 7, 8, 9, 10, 11, 12, 13], [13, 14])])
def attestorref06_Round.B19 : List Nat := [0, 0, 0, 4, 12, 0, 0, 64, 192, 0, 512, 1536, 4064, 8190, 16383, 32767]
theorem attestorref06_Round.tab19 : rtab .any (opsOf Tryd.f72 19) = attestorref06_Round.T19 := by kernel_rfl
theorem attestorref06_Round.bits19 : waitsOk attestorref06_Round.T19.2 attestorref06_Round.B19 = true := by kernel_rfl
set_option maxHeartbeats 8000000 in
set_option maxRecDepth 100000 in
theorem attestorref06_Round.calls (k : Nat) (a0 : Int) (a1 : Int) (a2_0 : Int) (a2_1 : Int) (a2_2 : Int) (a2_3 : Int) (r1 : Int) (r2 : Int) (r3 : Int) (r4 : Int) (w : World) (h : attestorref06_Round.f k a0 a1 a2_0 a2_1 a2_2 a2_3 = some (r1, r2, r3, r4)) :
  Calls Tryd.prog 72 #[.int .i64 a0, .int .i64 a1, .agg #[.int .u64 a2_0, .int .u64 a2_1, .int .u64 a2_2, .int .u64 a2_3]] w fun e w' => e = .returned (.agg #[.int .u64 r1, .int .u64 r2, .int .u64 r3, .int .u64 r4]) ∧ Below w.heap.size w w' := by
 have hu80 := Tryd.underlying80
 have HB := Aside0.mk (Below.refl w.heap.size w)
 have H : ((attestorref01_Valid.f a0).bind fun t250 => (if t250 = true then (if a1 < 0 then (attestorref06_Round.j0 k a0 a1 true a2_0 a2_1 a2_2 a2_3) else (attestorref06_Round.j0 k a0 a1 (decide (a1 > 7)) a2_0 a2_1 a2_2 a2_3)) else (attestorref06_Round.j0 k a0 a1 true a2_0 a2_1 a2_2 a2_3))) = some (r1, r2, r3, r4) := h
 clear h
 have HC4 := Aside0.mk H
 clear H
 go_enter Tryd.func72, Tryd.ntmps72
 go_upto_region 1 with (first | ((with_reducible refine gate_dst (N := 5) rfl ?_); refine box_event ?hg (N := 5) ?hd (cs := #[.int .u64 a2_0, .int .u64 a2_1, .int .u64 a2_2, .int .u64 a2_3]) (t := 80) ?hr ?_; (case hd => rfl); (case hg => rfl); (case hr => first | (go_simp; done) | (go_simp; rfl)); intro g248 hg w5 hbox hb; have n0_ := Aside0.mk (below_step (by repeat (first | (with_reducible first | exact HB.out | apply below_alloc | apply pw_below_drewN | apply below_drew1) | exact HB.out)) hb); have n1_ := Aside0.mk (hbox); have n2_ := Aside0.mk ((by rw [hg]; exact (below_size (by repeat (first | (with_reducible first | exact HB.out | apply below_alloc | apply pw_below_drewN | apply below_drew1) | exact HB.out))) : w.heap.size ≤ g248)); have n3_ := Aside0.mk ((by rw [hg]; exact (below_size (by repeat (first | (with_reducible first | exact HB.out | apply below_alloc | apply pw_below_drewN | apply below_drew1) | exact HB.out))) : w.heap.size ≤ g248)); clear HB; have HB := n0_; have B248 := n1_; have GW248 := n2_; have GE248 := n3_; clear n0_ n1_ n2_ n3_; clear hb hbox hg) | ((with_reducible refine gate_dst (N := 6) rfl ?_); refine box_event ?hg (N := 6) ?hd (cs := #[.int .u64 0, .int .u64 0, .int .u64 0, .int .u64 0]) (t := 80) ?hr ?_; (case hd => rfl); (case hg => rfl); (case hr => first | (go_simp; done) | (go_simp; rfl)); intro g249 hg w6 hbox hb; have n0_ := Aside0.mk (blk_below (g := g248) (o := .cells #[.int .u64 a2_0, .int .u64 a2_1, .int .u64 a2_2, .int .u64 a2_3] 80 (0, 0)) (by exact B248.out) hb); have n1_ := Aside0.mk (below_step (by repeat (first | (with_reducible first | exact HB.out | apply below_alloc | apply pw_below_drewN | apply below_drew1 | refine below_set ?_ GE248.out) | exact HB.out)) hb); have n2_ := Aside0.mk (hbox); have n3_ := Aside0.mk ((by rw [hg]; exact (below_size (by repeat (first | (with_reducible first | exact HB.out | apply below_alloc | apply pw_below_drewN | apply below_drew1 | refine below_set ?_ GE248.out) | exact HB.out))) : w.heap.size ≤ g249)); have n4_ := Aside0.mk ((by rw [hg]; exact (below_size (by repeat (first | (with_reducible first | exact HB.out | apply below_alloc | apply pw_below_drewN | apply below_drew1 | refine below_set ?_ GE248.out) | exact HB.out))) : w.heap.size ≤ g249)); have n5_ := Aside0.mk ((by rw [hg]; exact Nat.ne_of_lt (blk_lt (g := g248) (o := .cells #[.int .u64 a2_0, .int .u64 a2_1, .int .u64 a2_2, .int .u64 a2_3] 80 (0, 0)) (by exact B248.out)) : g248 ≠ g249)); have n6_ := Aside0.mk ((by rw [hg]; exact Nat.ne_of_gt (blk_lt (g := g248) (o := .cells #[.int .u64 a2_0, .int .u64 a2_1, .int .u64 a2_2, .int .u64 a2_3] 80 (0, 0)) (by exact B248.out)) : g249 ≠ g248)); clear B248; clear HB; have B248 := n0_; have HB := n1_; have B249 := n2_; have GW249 := n3_; have GE249 := n4_; have NB248_249 := n5_; have NB249_248 := n6_; clear n0_ n1_ n2_ n3_ n4_ n5_ n6_; clear hb hbox hg))
 (try simp only [Act.put, sa_, sb_, sc_])
 go_cut [23] (fun v23 wc => ∃ (kq : Nat) (x23_3 : Bool), v23 = .bool x23_3 ∧ Aside0 (attestorref06_Round.j0 kq a0 a1 x23_3 a2_0 a2_1 a2_2 a2_3 = some (r1, r2, r3, r4)) ∧ Aside0 (kq ≤ k) ∧ Aside0 (wc.heap[g248]? = some (.cells #[.int .u64 a2_0, .int .u64 a2_1, .int .u64 a2_2, .int .u64 a2_3] 80 (0, 0))) ∧ Aside0 (wc.heap[g249]? = some (.cells #[.int .u64 0, .int .u64 0, .int .u64 0, .int .u64 0] 80 (0, 0))) ∧ Aside0 (Below w.heap.size w wc))
 case first =>
  have H := HC4.out
  clear HC4
  replace H := Option.bind_eq_some_iff.mp H
  obtain ⟨t250, A70, H⟩ := H
  have A7 := Aside0.mk A70
  clear A70
  by_cases c8 : t250 = true
  ·subst c8
   have H1 : (if a1 < 0 then (attestorref06_Round.j0 k a0 a1 true a2_0 a2_1 a2_2 a2_3) else (attestorref06_Round.j0 k a0 a1 (decide (a1 > 7)) a2_0 a2_1 a2_2 a2_3)) = some (r1, r2, r3, r4) := by rw [if_pos rfl] at H; exact H
   clear H
   have H := H1
   clear H1
   by_cases c9 : a1 < 0
   ·rw [if_pos c9] at H
    have c9b0 : decide (a1 < 0) = true := decide_eq_true c9
    clear c9
    (first | rw [c9b0] | (simp only [i64_w, i32_w]; rw [c9b0]) | skip)
    have H' := Aside0.mk H
    clear H
    go_wp2_with (first | ((with_reducible refine gate_callee (f := 42) rfl ?_); refine goesL_ (some 14) rfl rfl Tryd.func42 (by kernel_rfl) rfl #[.int .i64 a0] rfl (by (try simp only [List.map_toArray, List.map_cons, List.map_nil]); first | done | rfl | (go_simp; done)) ?_; (with_reducible refine (attestorref01_Valid.calls a0 true _ A7.out).mono ?_); rintro e w' ⟨rfl, ⟨nd, rfl⟩⟩; refine ⟨_, rfl, ?_⟩))
    go_meet
    case rel => exact ⟨_, (true), (by first | rfl | (simp; done) | (simp [*]; done) | (simp; rfl) | (simp; decide +kernel)), H', ⟨by first | omega | exact Nat.le_refl _⟩, ⟨by exact B248.out⟩, ⟨by exact B249.out⟩, ⟨by repeat (first | (with_reducible first | exact HB.out | apply below_alloc | apply pw_below_drewN | apply below_drew1 | refine below_set ?_ GE248.out | refine below_set ?_ GE249.out) | exact HB.out)⟩⟩
   ·rw [if_neg c9] at H
    have c9b0 : decide (a1 < 0) = false := decide_eq_false c9
    clear c9
    (first | rw [c9b0] | (simp only [i64_w, i32_w]; rw [c9b0]) | skip)
    have H' := Aside0.mk H
    clear H
    go_wp2_with (first | ((with_reducible refine gate_callee (f := 42) rfl ?_); refine goesL_ (some 14) rfl rfl Tryd.func42 (by kernel_rfl) rfl #[.int .i64 a0] rfl (by (try simp only [List.map_toArray, List.map_cons, List.map_nil]); first | done | rfl | (go_simp; done)) ?_; (with_reducible refine (attestorref01_Valid.calls a0 true _ A7.out).mono ?_); rintro e w' ⟨rfl, ⟨nd, rfl⟩⟩; refine ⟨_, rfl, ?_⟩))
    go_meet
    case rel => exact ⟨_, (decide (a1 > 7)), (by first | rfl | (simp; done) | (simp [*]; done) | (simp; rfl) | (simp; decide +kernel)), H', ⟨by first | omega | exact Nat.le_refl _⟩, ⟨by exact B248.out⟩, ⟨by exact B249.out⟩, ⟨by repeat (first | (with_reducible first | exact HB.out | apply below_alloc | apply pw_below_drewN | apply below_drew1 | refine below_set ?_ GE248.out | refine below_set ?_ GE249.out) | exact HB.out)⟩⟩
  ·replace c8 := Bool.eq_false_iff.mpr c8
   subst c8
   have H1 : (attestorref06_Round.j0 k a0 a1 true a2_0 a2_1 a2_2 a2_3) = some (r1, r2, r3, r4) := by rw [if_neg (show ¬ (false = true) by decide)] at H; exact H
   clear H
   have H := H1
   clear H1
   have H' := Aside0.mk H
   clear H
   go_wp2_with (first | ((with_reducible refine gate_callee (f := 42) rfl ?_); refine goesL_ (some 14) rfl rfl Tryd.func42 (by kernel_rfl) rfl #[.int .i64 a0] rfl (by (try simp only [List.map_toArray, List.map_cons, List.map_nil]); first | done | rfl | (go_simp; done)) ?_; (with_reducible refine (attestorref01_Valid.calls a0 false _ A7.out).mono ?_); rintro e w' ⟨rfl, ⟨nd, rfl⟩⟩; refine ⟨_, rfl, ?_⟩))
   go_meet
   case rel => exact ⟨_, (true), (by first | rfl | (simp; done) | (simp [*]; done) | (simp; rfl) | (simp; decide +kernel)), H', ⟨by first | omega | exact Nat.le_refl _⟩, ⟨by exact B248.out⟩, ⟨by exact B249.out⟩, ⟨by repeat (first | (with_reducible first | exact HB.out | apply below_alloc | apply pw_below_drewN | apply below_drew1 | refine below_set ?_ GE248.out | refine below_set ?_ GE249.out) | exact HB.out)⟩⟩
 case rest =>
  clear HC4
  try clear p2
  try clear c4
  try clear c7
  try clear c8
  try clear c9
  try clear c9b0
  obtain ⟨kq, x23_3, rfl, HA, HJ3, B248, B249, HB⟩ := hcut
  cases kq with
  | zero => exact absurd HA.out (by simp [attestorref06_Round.j0])
  | succ kj3 =>
   have H := HA.out
   clear HA
   simp only [attestorref06_Round.j0] at H
   by_cases c10 : x23_3 = true
   ·subst c10
    have H1 : (some (0, 0, 0, 0)) = some (r1, r2, r3, r4) := by rw [if_pos rfl] at H; exact H
    clear H
    have H := H1
    clear H1
    simp only [Option.some.injEq, Prod.mk.injEq] at H
    obtain ⟨rfl, rfl, rfl, rfl⟩ := H
    have hnb11 := NB249_248.out
    have hnc11 := NB248_249.out
    have hcz12_0 : wc.cell? ⟨g249, 0, none⟩ = some (.int .u64 0) := bq_ B249 0
    have hcz12_1 : wc.cell? ⟨g249, 1, none⟩ = some (.int .u64 0) := bq_ B249 1
    have hcz12_2 : wc.cell? ⟨g249, 2, none⟩ = some (.int .u64 0) := bq_ B249 2
    have hcz12_3 : wc.cell? ⟨g249, 3, none⟩ = some (.int .u64 0) := bq_ B249 3
    have hfz12_0 := blk_frozen B249.out 0
    have hfz12_1 := blk_frozen B249.out 1
    have hfz12_2 := blk_frozen B249.out 2
    have hfz12_3 := blk_frozen B249.out 3
    go_wp2
    refine bodyPost_ret (results_cell_row rfl _ _ g249 80 #[.int .u64 0, .int .u64 0, .int .u64 0, .int .u64 0] (0, 0) _ rfl (by refine blk_put (cs := #[.int .u64 0, .int .u64 0, .int .u64 0, .int .u64 0]) ?_ 3 _ rfl; refine blk_put (cs := #[.int .u64 0, .int .u64 0, .int .u64 0, .int .u64 0]) ?_ 2 _ rfl; refine blk_put (cs := #[.int .u64 0, .int .u64 0, .int .u64 0, .int .u64 0]) ?_ 1 _ rfl; refine blk_put (cs := #[.int .u64 0, .int .u64 0, .int .u64 0, .int .u64 0]) ?_ 0 _ rfl; exact B249.out) Tryd.underlying80 rfl (by kernel_rfl)) rfl ?_
    exact ⟨by first | rfl | (simp [errW_none, errW_some] <;> rfl) | (simp [*, errW_none, errW_some] <;> rfl), by repeat (first | (with_reducible first | exact HB.out | apply below_alloc | apply pw_below_drewN | apply below_drew1 | refine below_set ?_ GE248.out | refine below_set ?_ GE249.out) | exact HB.out)⟩
   ·replace c10 := Bool.eq_false_iff.mpr c10
    subst c10
    have H1 : (attestorref06_Round.l0 kj3 a0 a1 0 a2_0 a2_1 a2_2 a2_3) = some (r1, r2, r3, r4) := by rw [if_neg (show ¬ (false = true) by decide)] at H; exact H
    clear H
    have H := H1
    clear H1
    have H' := Aside0.mk H
    clear H
    go_wp2
    go_loopg [7] kj3 (fun kq v7 w' => ∃ (x7_2 : Int) (x249000_2 : Int) (x249001_2 : Int) (x249002_2 : Int) (x249003_2 : Int), v7 = .int .i64 x7_2 ∧ Aside0 (attestorref06_Round.l0 kq a0 a1 x7_2 x249000_2 x249001_2 x249002_2 x249003_2 = some (r1, r2, r3, r4)) ∧ Aside0 (kq ≤ kj3) ∧ Aside0 (w'.heap[g248]? = some (.cells #[.int .u64 x249000_2, .int .u64 x249001_2, .int .u64 x249002_2, .int .u64 x249003_2] 80 (0, 0))) ∧ Aside0 (w'.heap[g249]? = some (.cells #[.int .u64 0, .int .u64 0, .int .u64 0, .int .u64 0] 80 (0, 0))) ∧ Aside0 (Below w.heap.size w w'))
    case atStart => exact ⟨(0), (a2_0), (a2_1), (a2_2), (a2_3), (by first | rfl | (simp; done) | (simp [*]; done) | (simp; rfl) | (simp; decide +kernel)), H', ⟨Nat.le_refl _⟩, ⟨by exact B248.out⟩, ⟨by exact B249.out⟩, ⟨by repeat (first | (with_reducible first | exact HB.out | apply below_alloc | apply pw_below_drewN | apply below_drew1 | refine below_set ?_ GE248.out | refine below_set ?_ GE249.out) | exact HB.out)⟩⟩
    case round =>
     clear H'
     try clear c1
     try clear p2
     try clear c4
     try clear c7
     try clear c8
     try clear c9
     try clear c9b0
     try clear c10
     try clear c11
     try clear hcz12_0
     try clear hcz12_1
     try clear hcz12_2
     try clear hcz12_3
     try clear hfz12_0
     try clear hfz12_1
     try clear hfz12_2
     try clear hfz12_3
     try clear p2
     obtain ⟨x7_2, x249000_2, x249001_2, x249002_2, x249003_2, rfl, HA, HK2, B248, B249, HB⟩ := hrel
     cases gk with
     | zero => exact absurd HA.out (by simp [attestorref06_Round.l0])
     | succ k2 =>
      have H := HA.out
      clear HA
      simp only [attestorref06_Round.l0] at H
      by_cases c13 : x7_2 < 4
      ·rw [if_pos c13] at H
       have c13b0 : decide (x7_2 < 4) = true := decide_eq_true c13
       clear c13
       by_cases c14 : 0 ≤ x7_2
       ·rw [if_pos c14] at H
        have c14b0 := eq_true c14
        have c14b1 : decide (0 ≤ x7_2) = true := decide_eq_true c14
        clear c14
        replace H := Option.bind_eq_some_iff.mp H
        obtain ⟨t251, A150, H⟩ := H
        have A15 := Aside0.mk A150
        clear A150
        replace H := Option.bind_eq_some_iff.mp H
        obtain ⟨t252, A160, H⟩ := H
        have A16 := Aside0.mk A160
        clear A160
        have H' := Aside0.mk H
        clear H
        try go_wp2
        have n0_ := Aside0.mk (blk_drew B248.out)
        have n1_ := Aside0.mk (blk_drew B249.out)
        have n2_ := Aside0.mk (below_drew1 HB.out)
        clear B248
        clear B249
        clear HB
        have B248 := n0_
        have B249 := n1_
        have HB := n2_
        clear n0_ n1_ n2_
        have hlt18 : (x7_2 < 4) = True := eq_true (of_decide_eq_true (by first | (with_reducible assumption) | assumption))
        have hge19 : (0 ≤ x7_2) = True := eq_true (of_decide_eq_true (by first | (with_reducible assumption) | assumption))
        have hlt22 : (x7_2 < 4) = True := eq_true (of_decide_eq_true (by first | (with_reducible assumption) | assumption))
        have hge23 : (0 ≤ x7_2) = True := eq_true (of_decide_eq_true (by first | (with_reducible assumption) | assumption))
        refine start_ (n := 12) (S := fun w' => w'.cell? ⟨g248, (x7_2).toNat, none⟩ = some (.int .u64 (rd ([x249000_2, x249001_2, x249002_2, x249003_2] : List Int) x7_2))) (ds := [11]) z72_0_ (by kernel_rfl) rfl rfl ((sel_at (pre := []) (l := ([x249000_2, x249001_2, x249002_2, x249003_2] : List Int)) (post := []) B248.out rfl (by simp) (of_decide_eq_true (by first | (with_reducible assumption) | assumption)) (of_decide_eq_true (by first | (with_reducible assumption) | assumption)))) (fun hL => ?_); refine with_tabW attestorref06_Round.tab6 attestorref06_Round.bits6 (fun T_ W_ => ?_)
        generalize wr.drew = w17 at B248 B249 HB hL ⊢
        refine pure_ (i := 0) (N := some 29) (v := ?_) (a' := ?_) z72_1_ rfl rfl (an_ T_) (fun _ _ _ h => h) (Or.inl ⟨by rfl, ?_⟩) ?_ ?_
        rotate_left; · intro w'; go_simp; with_reducible rfl
        rotate_left; · simp only [Act.put, sa_, sb_, sc_, i64_w, i32_w]; rfl
        refine pure_ (i := 1) (N := some 30) (v := ?_) (a' := ?_) z72_2_ rfl rfl (an_ T_) (fun _ _ _ h => h) (Or.inl ⟨by rfl, ?_⟩) ?_ ?_
        rotate_left; · intro w'; go_simp; with_reducible rfl
        rotate_left; · simp only [Act.put, sa_, sb_, sc_, i64_w, i32_w]; rfl
        refine pure_ (i := 2) (N := some 31) (v := ?_) (a' := ?_) z72_3_ rfl rfl (an_ T_) (fun _ _ _ h => h) (Or.inl ⟨by rfl, ?_⟩) ?_ ?_
        rotate_left; · intro w'; go_simp; with_reducible rfl
        rotate_left; · simp only [Act.put, sa_, sb_, sc_, i64_w, i32_w]; rfl
        refine pure_ (i := 3) (N := some 32) (v := ?_) (a' := ?_) z72_4_ rfl rfl (an_ T_) (fun _ _ _ h => h) (Or.inl ⟨by rfl, ?_⟩) ?_ ?_
        rotate_left; · intro w'; go_simp; with_reducible rfl
        rotate_left; · simp only [Act.put, sa_, sb_, sc_, i64_w, i32_w]; rfl
        refine pure_ (i := 5) (N := some 34) (v := ?_) (a' := ?_) z72_5_ rfl rfl (an_ T_) (fun _ _ _ h => h) (Or.inl ⟨by rfl, ?_⟩) ?_ ?_
        rotate_left; · intro w'; go_simp; with_reducible rfl
        rotate_left; · simp only [Act.put, sa_, sb_, sc_, i64_w, i32_w]; rfl
        refine pure_ (i := 6) (N := some 35) (v := ?_) (a' := ?_) z72_6_ rfl rfl (an_ T_) (fun _ _ _ h => h) (Or.inl ⟨by rfl, ?_⟩) ?_ ?_
        rotate_left; · intro w'; go_simp; with_reducible rfl
        rotate_left; · simp only [Act.put, sa_, sb_, sc_, i64_w, i32_w]; rfl
        refine pure_ (i := 7) (N := some 36) (v := ?_) (a' := ?_) z72_7_ rfl rfl (an_ T_) (fun _ _ _ h => h) (Or.inl ⟨by rfl, ?_⟩) ?_ ?_
        rotate_left; · intro w'; go_simp; with_reducible rfl
        rotate_left; · simp only [Act.put, sa_, sb_, sc_, i64_w, i32_w]; rfl
        refine take_ (i := 4) (N := some 33) (v := ?_) (a' := ?_) z72_8_ rfl rfl (tk_ T_ W_) (fun _ _ _ h => h) (Or.inl ⟨by rfl, ?_⟩) hL ?_ ?_
        rotate_left
        ·intro w' s0
         go_simp
         with_reducible rfl
        rotate_left
        ·simp only [Act.put, sa_, sb_, sc_, i64_w, i32_w]
         rfl
        refine one_ (i := 8) (N := some 37) z72_9_ rfl rfl (on_ T_) (by decide) (fun K hK => ?_)
        refine goes_ Tryd.func74 (by kernel_rfl) rfl #[.int .i64 a0, .int .i64 a1, .int .i64 x7_2] (by rfl) rfl rfl (by (try simp only [List.map_toArray, List.map_cons, List.map_nil]); first | done | rfl | (go_simp; done)) ?_
        with_reducible refine (attestorref06_Constant.calls k2 a0 a1 x7_2 t251 _ A15.out).mono ?_
        rintro e w' ⟨rfl, ⟨nd, rfl⟩⟩
        refine ⟨_, rfl, ?_⟩
        (try (rw [drewN_self w17]; generalize q_ : World.drewN w17 _ = w17; replace B248 := ra_ q_ B248; replace B249 := ra_ q_ B249; replace HB := rb_ q_ HB; clear q_))
        refine hK.out _ _ ((sel_at (pre := []) (l := ([x249000_2, x249001_2, x249002_2, x249003_2] : List Int)) (post := []) B248.out rfl (by simp) (of_decide_eq_true (by first | (with_reducible assumption) | assumption)) (of_decide_eq_true (by first | (with_reducible assumption) | assumption)))) (fun hL => ?_)
        clear hK K
        refine norm_ (a' := ?_) ?_ ?_
        rotate_left
        ·show Act.put _ (some 37) _ = _
         simp only [Act.put, sa_, sb_, sc_, i64_w, i32_w]
         rfl
        refine one_ (i := 9) (N := some 38) z72_10_ rfl rfl (on_ T_) (by decide) (fun K hK => ?_)
        refine goes_ Tryd.func63 (by kernel_rfl) rfl #[.int .i64 a0, .int .u64 (rd ([x249000_2, x249001_2, x249002_2, x249003_2] : List Int) x7_2), .int .u64 t251] (by rfl) rfl rfl (by (try simp only [List.map_toArray, List.map_cons, List.map_nil]); first | done | rfl | (go_simp; done)) ?_
        with_reducible refine (attestorref01_Add.calls a0 (rd ([x249000_2, x249001_2, x249002_2, x249003_2] : List Int) x7_2) t251 t252 _ A16.out).mono ?_
        rintro e w' ⟨rfl, ⟨nd, rfl⟩⟩
        refine ⟨_, rfl, ?_⟩
        (try (rw [drewN_self w17]; generalize q_ : World.drewN w17 _ = w17; replace B248 := ra_ q_ B248; replace B249 := ra_ q_ B249; replace HB := rb_ q_ HB; clear q_))
        refine hK.out _ _ ((sel_at (pre := []) (l := ([x249000_2, x249001_2, x249002_2, x249003_2] : List Int)) (post := []) B248.out rfl (by simp) (of_decide_eq_true (by first | (with_reducible assumption) | assumption)) (of_decide_eq_true (by first | (with_reducible assumption) | assumption)))) (fun hL => ?_)
        clear hK K
        refine norm_ (a' := ?_) ?_ ?_
        rotate_left
        ·show Act.put _ (some 38) _ = _
         simp only [Act.put, sa_, sb_, sc_, i64_w, i32_w]
         rfl
        refine pure_ (i := 10) (N := some 39) (v := ?_) (a' := ?_) z72_11_ rfl rfl (an_ T_) (fun _ _ _ h => h) (Or.inl ⟨by rfl, ?_⟩) ?_ ?_
        rotate_left; · intro w'; go_simp; with_reducible rfl
        rotate_left; · simp only [Act.put, sa_, sb_, sc_, i64_w, i32_w]; rfl
        refine last_ (i := 11) (N := none) z72_12_ rfl rfl (on_ T_) (by decide) (fun K hK => ?_)
        have hsv20 : w17.cell? ⟨g248, (x7_2).toNat, none⟩ = some (.int .u64 (rd ([x249000_2, x249001_2, x249002_2, x249003_2] : List Int) x7_2)) := (sel_at (pre := []) (l := ([x249000_2, x249001_2, x249002_2, x249003_2] : List Int)) (post := []) B248.out rfl (by simp) (of_decide_eq_true (by first | (with_reducible assumption) | assumption)) (of_decide_eq_true (by first | (with_reducible assumption) | assumption)))
        have hfv21 := blk_frozen B248.out ((x7_2).toNat)
        have hns24_1 := NB249_248.out
        have hms24_1 := NB248_249.out
        refine skip_ (w1 := ?_) (by rfl) rfl ?_ ?_
        rotate_left
        ·go_simp
         rfl
        refine hK.out _ _ ?_
        clear hK K
        refine done_ (done_of T_.out (by kernel_rfl)) ?_
        try go_wp2
        go_roundg k2
        case measure => have := HJ3.out; have := HK2.out; omega
        case rel => exact ⟨(wrap64 (x7_2 + 1)), ((updv x249000_2 0 x7_2 t252)), ((updv x249001_2 1 x7_2 t252)), ((updv x249002_2 2 x7_2 t252)), ((updv x249003_2 3 x7_2 t252)), (by first | rfl | (simp; done) | (simp [*]; done) | (simp; rfl) | (simp; decide +kernel)), H', ⟨by have := HJ3.out; have := HK2.out; omega⟩, ⟨by refine sel_put (pre := []) (l := ([x249000_2, x249001_2, x249002_2, x249003_2] : List Int)) (post := []) ?_ rfl rfl (by simp) (of_decide_eq_true (by first | (with_reducible assumption) | assumption)) (of_decide_eq_true (by first | (with_reducible assumption) | assumption)); exact B248.out⟩, ⟨by refine blk_far ?_ NB249_248.out _; exact B249.out⟩, ⟨by repeat (first | (with_reducible first | exact HB.out | apply below_alloc | apply pw_below_drewN | apply below_drew1 | refine below_set ?_ GE248.out | refine below_set ?_ GE249.out) | exact HB.out)⟩⟩
       ·rw [if_neg c14] at H
        exact absurd H (by simp)
      ·rw [if_neg c13] at H
       have c13b0 : decide (x7_2 < 4) = false := decide_eq_false c13
       clear c13
       have H' := Aside0.mk H
       clear H
       go_wp2
       go_loopg [8] k2 (fun kq v8 w' => ∃ (x8_3 : Int) (x249000_3 : Int) (x249001_3 : Int) (x249002_3 : Int) (x249003_3 : Int), v8 = .int .i64 x8_3 ∧ Aside0 (attestorref06_Round.l1 kq a0 x8_3 x249000_3 x249001_3 x249002_3 x249003_3 = some (r1, r2, r3, r4)) ∧ Aside0 (kq ≤ k2) ∧ Aside0 (w'.heap[g248]? = some (.cells #[.int .u64 x249000_3, .int .u64 x249001_3, .int .u64 x249002_3, .int .u64 x249003_3] 80 (0, 0))) ∧ Aside0 (w'.heap[g249]? = some (.cells #[.int .u64 0, .int .u64 0, .int .u64 0, .int .u64 0] 80 (0, 0))) ∧ Aside0 (Below w.heap.size w w'))
       case atStart => exact ⟨(0), (x249000_2), (x249001_2), (x249002_2), (x249003_2), (by first | rfl | (simp; done) | (simp [*]; done) | (simp; rfl) | (simp; decide +kernel)), H', ⟨Nat.le_refl _⟩, ⟨by exact B248.out⟩, ⟨by exact B249.out⟩, ⟨by repeat (first | (with_reducible first | exact HB.out | apply below_alloc | apply pw_below_drewN | apply below_drew1 | refine below_set ?_ GE248.out | refine below_set ?_ GE249.out) | exact HB.out)⟩⟩
       case round =>
        clear H'
        try clear c1
        try clear p2
        try clear c4
        try clear c6
        try clear p6
        try clear c7
        try clear c8
        try clear c9
        try clear c9b0
        try clear c10
        try clear c11
        try clear c13
        try clear c13b0
        try clear c14
        try clear c14b0
        try clear c14b1
        try clear hcz12_0
        try clear hcz12_1
        try clear hcz12_2
        try clear hcz12_3
        try clear hfz12_0
        try clear hfz12_1
        try clear hfz12_2
        try clear hfz12_3
        try clear p2
        obtain ⟨x8_3, x249000_3, x249001_3, x249002_3, x249003_3, rfl, HA, HK3, B248, B249, HB⟩ := hrel
        cases gk with
        | zero => exact absurd HA.out (by simp [attestorref06_Round.l1])
        | succ k3 =>
         have H := HA.out
         clear HA
         simp only [attestorref06_Round.l1] at H
         by_cases c25 : x8_3 < 4
         ·rw [if_pos c25] at H
          have c25b0 : decide (x8_3 < 4) = true := decide_eq_true c25
          clear c25
          by_cases c26 : 0 ≤ x8_3
          ·rw [if_pos c26] at H
           have c26b0 := eq_true c26
           have c26b1 : decide (0 ≤ x8_3) = true := decide_eq_true c26
           clear c26
           replace H := Option.bind_eq_some_iff.mp H
           obtain ⟨t253, A270, H⟩ := H
           have A27 := Aside0.mk A270
           clear A270
           replace H := Option.bind_eq_some_iff.mp H
           obtain ⟨t254, A280, H⟩ := H
           have A28 := Aside0.mk A280
           clear A280
           have H' := Aside0.mk H
           clear H
           try go_wp2
           have n0_ := Aside0.mk (blk_drew B248.out)
           have n1_ := Aside0.mk (blk_drew B249.out)
           have n2_ := Aside0.mk (below_drew1 HB.out)
           clear B248
           clear B249
           clear HB
           have B248 := n0_
           have B249 := n1_
           have HB := n2_
           clear n0_ n1_ n2_
           have hlt30 : (x8_3 < 4) = True := eq_true (of_decide_eq_true (by first | (with_reducible assumption) | assumption))
           have hge31 : (0 ≤ x8_3) = True := eq_true (of_decide_eq_true (by first | (with_reducible assumption) | assumption))
           have hlt34 : (x8_3 < 4) = True := eq_true (of_decide_eq_true (by first | (with_reducible assumption) | assumption))
           have hge35 : (0 ≤ x8_3) = True := eq_true (of_decide_eq_true (by first | (with_reducible assumption) | assumption))
           refine start_ (n := 11) (S := fun w' => w'.cell? ⟨g248, (x8_3).toNat, none⟩ = some (.int .u64 (rd ([x249000_3, x249001_3, x249002_3, x249003_3] : List Int) x8_3))) (ds := [10]) z72_13_ (by kernel_rfl) rfl rfl ((sel_at (pre := []) (l := ([x249000_3, x249001_3, x249002_3, x249003_3] : List Int)) (post := []) B248.out rfl (by simp) (of_decide_eq_true (by first | (with_reducible assumption) | assumption)) (of_decide_eq_true (by first | (with_reducible assumption) | assumption)))) (fun hL => ?_); refine with_tabW attestorref06_Round.tab10 attestorref06_Round.bits10 (fun T_ W_ => ?_)
           generalize wr.drew = w29 at B248 B249 HB hL ⊢
           refine pure_ (i := 0) (N := some 44) (v := ?_) (a' := ?_) z72_14_ rfl rfl (an_ T_) (fun _ _ _ h => h) (Or.inl ⟨by rfl, ?_⟩) ?_ ?_
           rotate_left; · intro w'; go_simp; with_reducible rfl
           rotate_left; · simp only [Act.put, sa_, sb_, sc_, i64_w, i32_w]; rfl
           refine pure_ (i := 1) (N := some 45) (v := ?_) (a' := ?_) z72_15_ rfl rfl (an_ T_) (fun _ _ _ h => h) (Or.inl ⟨by rfl, ?_⟩) ?_ ?_
           rotate_left; · intro w'; go_simp; with_reducible rfl
           rotate_left; · simp only [Act.put, sa_, sb_, sc_, i64_w, i32_w]; rfl
           refine pure_ (i := 2) (N := some 46) (v := ?_) (a' := ?_) z72_16_ rfl rfl (an_ T_) (fun _ _ _ h => h) (Or.inl ⟨by rfl, ?_⟩) ?_ ?_
           rotate_left; · intro w'; go_simp; with_reducible rfl
           rotate_left; · simp only [Act.put, sa_, sb_, sc_, i64_w, i32_w]; rfl
           refine pure_ (i := 3) (N := some 47) (v := ?_) (a' := ?_) z72_17_ rfl rfl (an_ T_) (fun _ _ _ h => h) (Or.inl ⟨by rfl, ?_⟩) ?_ ?_
           rotate_left; · intro w'; go_simp; with_reducible rfl
           rotate_left; · simp only [Act.put, sa_, sb_, sc_, i64_w, i32_w]; rfl
           refine pure_ (i := 5) (N := some 49) (v := ?_) (a' := ?_) z72_18_ rfl rfl (an_ T_) (fun _ _ _ h => h) (Or.inl ⟨by rfl, ?_⟩) ?_ ?_
           rotate_left; · intro w'; go_simp; with_reducible rfl
           rotate_left; · simp only [Act.put, sa_, sb_, sc_, i64_w, i32_w]; rfl
           refine take_ (i := 4) (N := some 48) (v := ?_) (a' := ?_) z72_19_ rfl rfl (tk_ T_ W_) (fun _ _ _ h => h) (Or.inl ⟨by rfl, ?_⟩) hL ?_ ?_
           rotate_left
           ·intro w' s0
            go_simp
            with_reducible rfl
           rotate_left
           ·simp only [Act.put, sa_, sb_, sc_, i64_w, i32_w]
            rfl
           refine one_ (i := 6) (N := some 50) z72_20_ rfl rfl (on_ T_) (by decide) (fun K hK => ?_)
           refine goes_ Tryd.func76 (by kernel_rfl) rfl #[.int .i64 a0] (by rfl) rfl rfl (by (try simp only [List.map_toArray, List.map_cons, List.map_nil]); first | done | rfl | (go_simp; done)) ?_
           with_reducible refine (attestorref01_Exponent.calls k3 a0 t253 _ A27.out).mono ?_
           rintro e w' ⟨rfl, ⟨nd, rfl⟩⟩
           refine ⟨_, rfl, ?_⟩
           (try (rw [drewN_self w29]; generalize q_ : World.drewN w29 _ = w29; replace B248 := ra_ q_ B248; replace B249 := ra_ q_ B249; replace HB := rb_ q_ HB; clear q_))
           refine hK.out _ _ ((sel_at (pre := []) (l := ([x249000_3, x249001_3, x249002_3, x249003_3] : List Int)) (post := []) B248.out rfl (by simp) (of_decide_eq_true (by first | (with_reducible assumption) | assumption)) (of_decide_eq_true (by first | (with_reducible assumption) | assumption)))) (fun hL => ?_)
           clear hK K
           refine norm_ (a' := ?_) ?_ ?_
           rotate_left
           ·show Act.put _ (some 50) _ = _
            simp only [Act.put, sa_, sb_, sc_, i64_w, i32_w]
            rfl
           refine pure_ (i := 7) (N := some 51) (v := ?_) (a' := ?_) z72_21_ rfl rfl (an_ T_) (fun _ _ _ h => h) (Or.inl ⟨by rfl, ?_⟩) ?_ ?_
           rotate_left; · intro w'; go_simp; with_reducible rfl
           rotate_left; · simp only [Act.put, sa_, sb_, sc_, i64_w, i32_w]; rfl
           refine one_ (i := 8) (N := some 52) z72_22_ rfl rfl (on_ T_) (by decide) (fun K hK => ?_)
           refine goes_ Tryd.func75 (by kernel_rfl) rfl #[.int .i64 a0, .int .u64 (rd ([x249000_3, x249001_3, x249002_3, x249003_3] : List Int) x8_3), .int .u64 (IntKind.u64.wrap (t253))] (by rfl) rfl rfl (by (try simp only [List.map_toArray, List.map_cons, List.map_nil]); first | done | rfl | (go_simp; done)) ?_
           with_reducible refine (attestorref01_Pow.calls k3 a0 (rd ([x249000_3, x249001_3, x249002_3, x249003_3] : List Int) x8_3) (IntKind.u64.wrap (t253)) t254 _ A28.out).mono ?_
           rintro e w' ⟨rfl, ⟨nd, rfl⟩⟩
           refine ⟨_, rfl, ?_⟩
           (try (rw [drewN_self w29]; generalize q_ : World.drewN w29 _ = w29; replace B248 := ra_ q_ B248; replace B249 := ra_ q_ B249; replace HB := rb_ q_ HB; clear q_))
           refine hK.out _ _ ((sel_at (pre := []) (l := ([x249000_3, x249001_3, x249002_3, x249003_3] : List Int)) (post := []) B248.out rfl (by simp) (of_decide_eq_true (by first | (with_reducible assumption) | assumption)) (of_decide_eq_true (by first | (with_reducible assumption) | assumption)))) (fun hL => ?_)
           clear hK K
           refine norm_ (a' := ?_) ?_ ?_
           rotate_left
           ·show Act.put _ (some 52) _ = _
            simp only [Act.put, sa_, sb_, sc_, i64_w, i32_w]
            rfl
           refine pure_ (i := 9) (N := some 53) (v := ?_) (a' := ?_) z72_23_ rfl rfl (an_ T_) (fun _ _ _ h => h) (Or.inl ⟨by rfl, ?_⟩) ?_ ?_
           rotate_left; · intro w'; go_simp; with_reducible rfl
           rotate_left; · simp only [Act.put, sa_, sb_, sc_, i64_w, i32_w]; rfl
           refine last_ (i := 10) (N := none) z72_24_ rfl rfl (on_ T_) (by decide) (fun K hK => ?_)
           have hsv32 : w29.cell? ⟨g248, (x8_3).toNat, none⟩ = some (.int .u64 (rd ([x249000_3, x249001_3, x249002_3, x249003_3] : List Int) x8_3)) := (sel_at (pre := []) (l := ([x249000_3, x249001_3, x249002_3, x249003_3] : List Int)) (post := []) B248.out rfl (by simp) (of_decide_eq_true (by first | (with_reducible assumption) | assumption)) (of_decide_eq_true (by first | (with_reducible assumption) | assumption)))
           have hfv33 := blk_frozen B248.out ((x8_3).toNat)
           have hns36_1 := NB249_248.out
           have hms36_1 := NB248_249.out
           refine skip_ (w1 := ?_) (by rfl) rfl ?_ ?_
           rotate_left
           ·go_simp
            rfl
           refine hK.out _ _ ?_
           clear hK K
           refine done_ (done_of T_.out (by kernel_rfl)) ?_
           try go_wp2
           go_roundg k3
           case measure => have := HJ3.out; have := HK2.out; have := HK3.out; omega
           case rel => exact ⟨(wrap64 (x8_3 + 1)), ((updv x249000_3 0 x8_3 t254)), ((updv x249001_3 1 x8_3 t254)), ((updv x249002_3 2 x8_3 t254)), ((updv x249003_3 3 x8_3 t254)), (by first | rfl | (simp; done) | (simp [*]; done) | (simp; rfl) | (simp; decide +kernel)), H', ⟨by have := HJ3.out; have := HK2.out; have := HK3.out; omega⟩, ⟨by refine sel_put (pre := []) (l := ([x249000_3, x249001_3, x249002_3, x249003_3] : List Int)) (post := []) ?_ rfl rfl (by simp) (of_decide_eq_true (by first | (with_reducible assumption) | assumption)) (of_decide_eq_true (by first | (with_reducible assumption) | assumption)); exact B248.out⟩, ⟨by refine blk_far ?_ NB249_248.out _; exact B249.out⟩, ⟨by repeat (first | (with_reducible first | exact HB.out | apply below_alloc | apply pw_below_drewN | apply below_drew1 | refine below_set ?_ GE248.out | refine below_set ?_ GE249.out) | exact HB.out)⟩⟩
          ·rw [if_neg c26] at H
           exact absurd H (by simp)
         ·rw [if_neg c25] at H
          have c25b0 : decide (x8_3 < 4) = false := decide_eq_false c25
          clear c25
          have H' := Aside0.mk H
          clear H
          go_wp2_with (first | ((with_reducible refine gate_dst (N := 9) rfl ?_); refine box_event ?hg (N := 9) ?hd (cs := #[.int .u64 0, .int .u64 0, .int .u64 0, .int .u64 0]) (t := 80) ?hr ?_; (case hd => rfl); (case hg => rfl); (case hr => first | (go_simp; done) | (go_simp; rfl)); intro g255 hg w37 hbox hb; have n0_ := Aside0.mk (blk_below (g := g248) (o := .cells #[.int .u64 x249000_3, .int .u64 x249001_3, .int .u64 x249002_3, .int .u64 x249003_3] 80 (0, 0)) (by exact B248.out) hb); have n1_ := Aside0.mk (blk_below (g := g249) (o := .cells #[.int .u64 0, .int .u64 0, .int .u64 0, .int .u64 0] 80 (0, 0)) (by exact B249.out) hb); have n2_ := Aside0.mk (below_step (by repeat (first | (with_reducible first | exact HB.out | apply below_alloc | apply pw_below_drewN | apply below_drew1 | refine below_set ?_ GE248.out | refine below_set ?_ GE249.out) | exact HB.out)) hb); have n3_ := Aside0.mk (hbox); have n4_ := Aside0.mk ((by rw [hg]; exact (below_size (by repeat (first | (with_reducible first | exact HB.out | apply below_alloc | apply pw_below_drewN | apply below_drew1 | refine below_set ?_ GE248.out | refine below_set ?_ GE249.out) | exact HB.out))) : w.heap.size ≤ g255)); have n5_ := Aside0.mk ((by rw [hg]; exact (below_size (by repeat (first | (with_reducible first | exact HB.out | apply below_alloc | apply pw_below_drewN | apply below_drew1 | refine below_set ?_ GE248.out | refine below_set ?_ GE249.out) | exact HB.out))) : w.heap.size ≤ g255)); have n6_ := Aside0.mk ((by rw [hg]; exact Nat.ne_of_lt (blk_lt (g := g248) (o := .cells #[.int .u64 x249000_3, .int .u64 x249001_3, .int .u64 x249002_3, .int .u64 x249003_3] 80 (0, 0)) (by exact B248.out)) : g248 ≠ g255)); have n7_ := Aside0.mk ((by rw [hg]; exact Nat.ne_of_gt (blk_lt (g := g248) (o := .cells #[.int .u64 x249000_3, .int .u64 x249001_3, .int .u64 x249002_3, .int .u64 x249003_3] 80 (0, 0)) (by exact B248.out)) : g255 ≠ g248)); have n8_ := Aside0.mk ((by rw [hg]; exact Nat.ne_of_lt (blk_lt (g := g249) (o := .cells #[.int .u64 0, .int .u64 0, .int .u64 0, .int .u64 0] 80 (0, 0)) (by exact B249.out)) : g249 ≠ g255)); have n9_ := Aside0.mk ((by rw [hg]; exact Nat.ne_of_gt (blk_lt (g := g249) (o := .cells #[.int .u64 0, .int .u64 0, .int .u64 0, .int .u64 0] 80 (0, 0)) (by exact B249.out)) : g255 ≠ g249)); clear B248; clear B249; clear HB; have B248 := n0_; have B249 := n1_; have HB := n2_; have B255 := n3_; have GW255 := n4_; have GE255 := n5_; have NB248_255 := n6_; have NB255_248 := n7_; have NB249_255 := n8_; have NB255_249 := n9_; clear n0_ n1_ n2_ n3_ n4_ n5_ n6_ n7_ n8_ n9_; clear hb hbox hg))
          go_loopg [10] k3 (fun kq v10 w' => ∃ (x10_4 : Int) (x256000_4 : Int) (x256001_4 : Int) (x256002_4 : Int) (x256003_4 : Int), v10 = .int .i64 x10_4 ∧ Aside0 (attestorref06_Round.l2 kq a0 x10_4 x249000_3 x249001_3 x249002_3 x249003_3 x256000_4 x256001_4 x256002_4 x256003_4 = some (r1, r2, r3, r4)) ∧ Aside0 (kq ≤ k3) ∧ Aside0 (w'.heap[g248]? = some (.cells #[.int .u64 x249000_3, .int .u64 x249001_3, .int .u64 x249002_3, .int .u64 x249003_3] 80 (0, 0))) ∧ Aside0 (w'.heap[g249]? = some (.cells #[.int .u64 0, .int .u64 0, .int .u64 0, .int .u64 0] 80 (0, 0))) ∧ Aside0 (w'.heap[g255]? = some (.cells #[.int .u64 x256000_4, .int .u64 x256001_4, .int .u64 x256002_4, .int .u64 x256003_4] 80 (0, 0))) ∧ Aside0 (Below w.heap.size w w'))
          case atStart => exact ⟨(0), (0), (0), (0), (0), (by first | rfl | (simp; done) | (simp [*]; done) | (simp; rfl) | (simp; decide +kernel)), H', ⟨Nat.le_refl _⟩, ⟨by exact B248.out⟩, ⟨by exact B249.out⟩, ⟨by exact B255.out⟩, ⟨by repeat (first | (with_reducible first | exact HB.out | apply below_alloc | apply pw_below_drewN | apply below_drew1 | refine below_set ?_ GE248.out | refine below_set ?_ GE249.out | refine below_set ?_ GE255.out) | exact HB.out)⟩⟩
          case round =>
           clear H'
           try clear c1
           try clear c2
           try clear p2
           try clear c4
           try clear c6
           try clear p6
           try clear c7
           try clear c8
           try clear c9
           try clear c9b0
           try clear c10
           try clear c11
           try clear c13
           try clear c13b0
           try clear c14
           try clear c14b0
           try clear c14b1
           try clear c25
           try clear c25b0
           try clear c26
           try clear c26b0
           try clear c26b1
           try clear hcz12_0
           try clear hcz12_1
           try clear hcz12_2
           try clear hcz12_3
           try clear hfz12_0
           try clear hfz12_1
           try clear hfz12_2
           try clear hfz12_3
           try clear p2
           try clear p6
           obtain ⟨x10_4, x256000_4, x256001_4, x256002_4, x256003_4, rfl, HA, HK4, B248, B249, B255, HB⟩ := hrel
           cases gk with
           | zero => exact absurd HA.out (by simp [attestorref06_Round.l2])
           | succ k4 =>
            have H := HA.out
            clear HA
            simp only [attestorref06_Round.l2] at H
            by_cases c38 : x10_4 < 4
            ·rw [if_pos c38] at H
             have c38b0 : decide (x10_4 < 4) = true := decide_eq_true c38
             clear c38
             replace H := Option.bind_eq_some_iff.mp H
             obtain ⟨⟨t256, t257, t258, t259⟩, A390, H⟩ := H
             replace H : (attestorref06_Round.l3 k4 a0 x10_4 0 x249000_3 x249001_3 x249002_3 x249003_3 x256000_4 x256001_4 x256002_4 x256003_4 t256 t257 t258 t259) = some (r1, r2, r3, r4) := H
             have A39 := Aside0.mk A390
             clear A390
             have H' := Aside0.mk H
             clear H
             go_wp2_with (first | ((with_reducible refine gate_callee (f := 77) rfl ?_); refine goesL_ (some 59) rfl rfl Tryd.func77 (by kernel_rfl) rfl #[.int .i64 x10_4] rfl (by (try simp only [List.map_toArray, List.map_cons, List.map_nil]); first | done | rfl | (go_simp; done)) ?_; (with_reducible refine (attestorref06_row.calls x10_4 t256 t257 t258 t259 _ A39.out).mono ?_); rintro e w40 ⟨rfl, hb⟩; refine ⟨_, rfl, ?_⟩; have n0_ := Aside0.mk (blk_below (g := g248) (o := .cells #[.int .u64 x249000_3, .int .u64 x249001_3, .int .u64 x249002_3, .int .u64 x249003_3] 80 (0, 0)) (by exact B248.out) hb); have n1_ := Aside0.mk (blk_below (g := g249) (o := .cells #[.int .u64 0, .int .u64 0, .int .u64 0, .int .u64 0] 80 (0, 0)) (by exact B249.out) hb); have n2_ := Aside0.mk (blk_below (g := g255) (o := .cells #[.int .u64 x256000_4, .int .u64 x256001_4, .int .u64 x256002_4, .int .u64 x256003_4] 80 (0, 0)) (by exact B255.out) hb); have n3_ := Aside0.mk (below_step (by repeat (first | (with_reducible first | exact HB.out | apply below_alloc | apply pw_below_drewN | apply below_drew1 | refine below_set ?_ GE248.out | refine below_set ?_ GE249.out | refine below_set ?_ GE255.out) | exact HB.out)) hb); clear B248; clear B249; clear B255; clear HB; have B248 := n0_; have B249 := n1_; have B255 := n2_; have HB := n3_; clear n0_ n1_ n2_ n3_; (try clear hb); (try clear hb2); (try clear hk); (try clear hi)) | ((with_reducible refine gate_dst (N := 11) rfl ?_); refine box_event ?hg (N := 11) ?hd (cs := #[.int .u64 0, .int .u64 0, .int .u64 0, .int .u64 0]) (t := 80) ?hr ?_; (case hd => rfl); (case hg => rfl); (case hr => first | (go_simp; done) | (go_simp; rfl)); intro g260 hg w41 hbox hb; have n0_ := Aside0.mk (blk_below (g := g248) (o := .cells #[.int .u64 x249000_3, .int .u64 x249001_3, .int .u64 x249002_3, .int .u64 x249003_3] 80 (0, 0)) (by exact B248.out) hb); have n1_ := Aside0.mk (blk_below (g := g249) (o := .cells #[.int .u64 0, .int .u64 0, .int .u64 0, .int .u64 0] 80 (0, 0)) (by exact B249.out) hb); have n2_ := Aside0.mk (blk_below (g := g255) (o := .cells #[.int .u64 x256000_4, .int .u64 x256001_4, .int .u64 x256002_4, .int .u64 x256003_4] 80 (0, 0)) (by exact B255.out) hb); have n3_ := Aside0.mk (below_step (by repeat (first | (with_reducible first | exact HB.out | apply below_alloc | apply pw_below_drewN | apply below_drew1 | refine below_set ?_ GE248.out | refine below_set ?_ GE249.out | refine below_set ?_ GE255.out) | exact HB.out)) hb); have n4_ := Aside0.mk (hbox); have n5_ := Aside0.mk ((by rw [hg]; exact (below_size (by repeat (first | (with_reducible first | exact HB.out | apply below_alloc | apply pw_below_drewN | apply below_drew1 | refine below_set ?_ GE248.out | refine below_set ?_ GE249.out | refine below_set ?_ GE255.out) | exact HB.out))) : w.heap.size ≤ g260)); have n6_ := Aside0.mk ((by rw [hg]; exact (below_size (by repeat (first | (with_reducible first | exact HB.out | apply below_alloc | apply pw_below_drewN | apply below_drew1 | refine below_set ?_ GE248.out | refine below_set ?_ GE249.out | refine below_set ?_ GE255.out) | exact HB.out))) : w.heap.size ≤ g260)); have n7_ := Aside0.mk ((by rw [hg]; exact Nat.ne_of_lt (blk_lt (g := g248) (o := .cells #[.int .u64 x249000_3, .int .u64 x249001_3, .int .u64 x249002_3, .int .u64 x249003_3] 80 (0, 0)) (by exact B248.out)) : g248 ≠ g260)); have n8_ := Aside0.mk ((by rw [hg]; exact Nat.ne_of_gt (blk_lt (g := g248) (o := .cells #[.int .u64 x249000_3, .int .u64 x249001_3, .int .u64 x249002_3, .int .u64 x249003_3] 80 (0, 0)) (by exact B248.out)) : g260 ≠ g248)); have n9_ := Aside0.mk ((by rw [hg]; exact Nat.ne_of_lt (blk_lt (g := g249) (o := .cells #[.int .u64 0, .int .u64 0, .int .u64 0, .int .u64 0] 80 (0, 0)) (by exact B249.out)) : g249 ≠ g260)); have n10_ := Aside0.mk ((by rw [hg]; exact Nat.ne_of_gt (blk_lt (g := g249) (o := .cells #[.int .u64 0, .int .u64 0, .int .u64 0, .int .u64 0] 80 (0, 0)) (by exact B249.out)) : g260 ≠ g249)); have n11_ := Aside0.mk ((by rw [hg]; exact Nat.ne_of_lt (blk_lt (g := g255) (o := .cells #[.int .u64 x256000_4, .int .u64 x256001_4, .int .u64 x256002_4, .int .u64 x256003_4] 80 (0, 0)) (by exact B255.out)) : g255 ≠ g260)); have n12_ := Aside0.mk ((by rw [hg]; exact Nat.ne_of_gt (blk_lt (g := g255) (o := .cells #[.int .u64 x256000_4, .int .u64 x256001_4, .int .u64 x256002_4, .int .u64 x256003_4] 80 (0, 0)) (by exact B255.out)) : g260 ≠ g255)); clear B248; clear B249; clear B255; clear HB; have B248 := n0_; have B249 := n1_; have B255 := n2_; have HB := n3_; have B260 := n4_; have GW260 := n5_; have GE260 := n6_; have NB248_260 := n7_; have NB260_248 := n8_; have NB249_260 := n9_; have NB260_249 := n10_; have NB255_260 := n11_; have NB260_255 := n12_; clear n0_ n1_ n2_ n3_ n4_ n5_ n6_ n7_ n8_ n9_ n10_ n11_ n12_; clear hb hbox hg; have hnb42 := NB260_248.out; have hnc42 := NB248_260.out; have hnb43 := NB260_249.out; have hnc43 := NB249_260.out; have hnb44 := NB260_255.out; have hnc44 := NB255_260.out; have hcz45_0 : w41.cell? ⟨g260, 0, none⟩ = some (.int .u64 0) := bq_ B260 0; have hcz45_1 : w41.cell? ⟨g260, 1, none⟩ = some (.int .u64 0) := bq_ B260 1; have hcz45_2 : w41.cell? ⟨g260, 2, none⟩ = some (.int .u64 0) := bq_ B260 2; have hcz45_3 : w41.cell? ⟨g260, 3, none⟩ = some (.int .u64 0) := bq_ B260 3; have hfz45_0 := blk_frozen B260.out 0; have hfz45_1 := blk_frozen B260.out 1; have hfz45_2 := blk_frozen B260.out 2; have hfz45_3 := blk_frozen B260.out 3))
             go_loopg [12] k4 (fun kq v12 w' => ∃ (x12_5 : Int) (x256000_5 : Int) (x256001_5 : Int) (x256002_5 : Int) (x256003_5 : Int), v12 = .int .i64 x12_5 ∧ Aside0 (attestorref06_Round.l3 kq a0 x10_4 x12_5 x249000_3 x249001_3 x249002_3 x249003_3 x256000_5 x256001_5 x256002_5 x256003_5 t256 t257 t258 t259 = some (r1, r2, r3, r4)) ∧ Aside0 (kq ≤ k4) ∧ Aside0 (w'.heap[g248]? = some (.cells #[.int .u64 x249000_3, .int .u64 x249001_3, .int .u64 x249002_3, .int .u64 x249003_3] 80 (0, 0))) ∧ Aside0 (w'.heap[g249]? = some (.cells #[.int .u64 0, .int .u64 0, .int .u64 0, .int .u64 0] 80 (0, 0))) ∧ Aside0 (w'.heap[g255]? = some (.cells #[.int .u64 x256000_5, .int .u64 x256001_5, .int .u64 x256002_5, .int .u64 x256003_5] 80 (0, 0))) ∧ Aside0 (w'.heap[g260]? = some (.cells #[.int .u64 t256, .int .u64 t257, .int .u64 t258, .int .u64 t259] 80 (0, 0))) ∧ Aside0 (Below w.heap.size w w'))
             case atStart => exact ⟨(0), (x256000_4), (x256001_4), (x256002_4), (x256003_4), (by first | rfl | (simp; done) | (simp [*]; done) | (simp; rfl) | (simp; decide +kernel)), H', ⟨Nat.le_refl _⟩, ⟨by refine blk_far ?_ NB248_260.out _; refine blk_far ?_ NB248_260.out _; refine blk_far ?_ NB248_260.out _; refine blk_far ?_ NB248_260.out _; exact B248.out⟩, ⟨by refine blk_far ?_ NB249_260.out _; refine blk_far ?_ NB249_260.out _; refine blk_far ?_ NB249_260.out _; refine blk_far ?_ NB249_260.out _; exact B249.out⟩, ⟨by refine blk_far ?_ NB255_260.out _; refine blk_far ?_ NB255_260.out _; refine blk_far ?_ NB255_260.out _; refine blk_far ?_ NB255_260.out _; exact B255.out⟩, ⟨by refine blk_put (cs := #[.int .u64 t256, .int .u64 t257, .int .u64 t258, .int .u64 0]) ?_ 3 _ rfl; refine blk_put (cs := #[.int .u64 t256, .int .u64 t257, .int .u64 0, .int .u64 0]) ?_ 2 _ rfl; refine blk_put (cs := #[.int .u64 t256, .int .u64 0, .int .u64 0, .int .u64 0]) ?_ 1 _ rfl; refine blk_put (cs := #[.int .u64 0, .int .u64 0, .int .u64 0, .int .u64 0]) ?_ 0 _ rfl; exact B260.out⟩, ⟨by repeat (first | (with_reducible first | exact HB.out | apply below_alloc | apply pw_below_drewN | apply below_drew1 | refine below_set ?_ GE248.out | refine below_set ?_ GE249.out | refine below_set ?_ GE255.out | refine below_set ?_ GE260.out) | exact HB.out)⟩⟩
             case round =>
              clear H'
              try clear c1
              try clear c2
              try clear p2
              try clear c3
              try clear c4
              try clear c6
              try clear p6
              try clear c7
              try clear c8
              try clear c9
              try clear c9b0
              try clear c10
              try clear c11
              try clear c13
              try clear c13b0
              try clear c14
              try clear c14b0
              try clear c14b1
              try clear c25
              try clear c25b0
              try clear c26
              try clear c26b0
              try clear c26b1
              try clear c38
              try clear c38b0
              try clear c42
              try clear c43
              try clear c44
              try clear hcz12_0
              try clear hcz12_1
              try clear hcz12_2
              try clear hcz12_3
              try clear hcz45_0
              try clear hcz45_1
              try clear hcz45_2
              try clear hcz45_3
              try clear hfz12_0
              try clear hfz12_1
              try clear hfz12_2
              try clear hfz12_3
              try clear hfz45_0
              try clear hfz45_1
              try clear hfz45_2
              try clear hfz45_3
              try clear p2
              try clear p6
              obtain ⟨x12_5, x256000_5, x256001_5, x256002_5, x256003_5, rfl, HA, HK5, B248, B249, B255, B260, HB⟩ := hrel
              cases gk with
              | zero => exact absurd HA.out (by simp [attestorref06_Round.l3])
              | succ k5 =>
               have H := HA.out
               clear HA
               simp only [attestorref06_Round.l3] at H
               by_cases c46 : x12_5 < 4
               ·rw [if_pos c46] at H
                have c46b0 : decide (x12_5 < 4) = true := decide_eq_true c46
                clear c46
                by_cases c47 : 0 ≤ x10_4
                ·rw [if_pos c47] at H
                 have c47b0 := eq_true c47
                 have c47b1 : decide (0 ≤ x10_4) = true := decide_eq_true c47
                 clear c47
                 by_cases c48 : x10_4 < 4
                 ·rw [if_pos c48] at H
                  have c48b0 := eq_true c48
                  have c48b1 : decide (x10_4 < 4) = true := decide_eq_true c48
                  clear c48
                  by_cases c49 : 0 ≤ x12_5
                  ·rw [if_pos c49] at H
                   have c49b0 := eq_true c49
                   have c49b1 : decide (0 ≤ x12_5) = true := decide_eq_true c49
                   clear c49
                   replace H := Option.bind_eq_some_iff.mp H
                   obtain ⟨t261, A500, H⟩ := H
                   have A50 := Aside0.mk A500
                   clear A500
                   replace H := Option.bind_eq_some_iff.mp H
                   obtain ⟨t262, A510, H⟩ := H
                   have A51 := Aside0.mk A510
                   clear A510
                   have H' := Aside0.mk H
                   clear H
                   try go_wp2
                   have n0_ := Aside0.mk (blk_drew B248.out)
                   have n1_ := Aside0.mk (blk_drew B249.out)
                   have n2_ := Aside0.mk (blk_drew B255.out)
                   have n3_ := Aside0.mk (blk_drew B260.out)
                   have n4_ := Aside0.mk (below_drew1 HB.out)
                   clear B248
                   clear B249
                   clear B255
                   clear B260
                   clear HB
                   have B248 := n0_
                   have B249 := n1_
                   have B255 := n2_
                   have B260 := n3_
                   have HB := n4_
                   clear n0_ n1_ n2_ n3_ n4_
                   have hlt53 : (x10_4 < 4) = True := eq_true (of_decide_eq_true (by first | (with_reducible assumption) | assumption))
                   have hge54 : (0 ≤ x10_4) = True := eq_true (of_decide_eq_true (by first | (with_reducible assumption) | assumption))
                   have hlt55 : (x12_5 < 4) = True := eq_true (of_decide_eq_true (by first | (with_reducible assumption) | assumption))
                   have hge56 : (0 ≤ x12_5) = True := eq_true (of_decide_eq_true (by first | (with_reducible assumption) | assumption))
                   have hlt57 : (x12_5 < 4) = True := eq_true (of_decide_eq_true (by first | (with_reducible assumption) | assumption))
                   have hge58 : (0 ≤ x12_5) = True := eq_true (of_decide_eq_true (by first | (with_reducible assumption) | assumption))
                   have hlt61 : (x10_4 < 4) = True := eq_true (of_decide_eq_true (by first | (with_reducible assumption) | assumption))
                   have hge62 : (0 ≤ x10_4) = True := eq_true (of_decide_eq_true (by first | (with_reducible assumption) | assumption))
                   refine start_ (n := 16) (S := fun w' => w'.cell? ⟨g255, (x10_4).toNat, none⟩ = some (.int .u64 (rd ([x256000_5, x256001_5, x256002_5, x256003_5] : List Int) x10_4)) ∧ w'.cell? ⟨g260, (x12_5).toNat, none⟩ = some (.int .u64 (rd ([t256, t257, t258, t259] : List Int) x12_5)) ∧ w'.cell? ⟨g248, (x12_5).toNat, none⟩ = some (.int .u64 (rd ([x249000_3, x249001_3, x249002_3, x249003_3] : List Int) x12_5))) (ds := [15]) z72_25_ (by kernel_rfl) rfl rfl ⟨(sel_at (pre := []) (l := ([x256000_5, x256001_5, x256002_5, x256003_5] : List Int)) (post := []) B255.out rfl (by simp) (of_decide_eq_true (by first | (with_reducible assumption) | assumption)) (of_decide_eq_true (by first | (with_reducible assumption) | assumption))), (sel_at (pre := []) (l := ([t256, t257, t258, t259] : List Int)) (post := []) B260.out rfl (by simp) (of_decide_eq_true (by first | (with_reducible assumption) | assumption)) (of_decide_eq_true (by first | (with_reducible assumption) | assumption))), (sel_at (pre := []) (l := ([x249000_3, x249001_3, x249002_3, x249003_3] : List Int)) (post := []) B248.out rfl (by simp) (of_decide_eq_true (by first | (with_reducible assumption) | assumption)) (of_decide_eq_true (by first | (with_reducible assumption) | assumption)))⟩ (fun hL => ?_); refine with_tabW attestorref06_Round.tab19 attestorref06_Round.bits19 (fun T_ W_ => ?_)
                   generalize wr.drew = w52 at B248 B249 B255 B260 HB hL ⊢
                   refine pure_ (i := 0) (N := some 64) (v := ?_) (a' := ?_) z72_26_ rfl rfl (an_ T_) (fun _ _ _ h => h) (Or.inl ⟨by rfl, ?_⟩) ?_ ?_
                   rotate_left; · intro w'; go_simp; with_reducible rfl
                   rotate_left; · simp only [Act.put, sa_, sb_, sc_, i64_w, i32_w]; rfl
                   refine pure_ (i := 1) (N := some 65) (v := ?_) (a' := ?_) z72_27_ rfl rfl (an_ T_) (fun _ _ _ h => h) (Or.inl ⟨by rfl, ?_⟩) ?_ ?_
                   rotate_left; · intro w'; go_simp; with_reducible rfl
                   rotate_left; · simp only [Act.put, sa_, sb_, sc_, i64_w, i32_w]; rfl
                   refine pure_ (i := 2) (N := some 66) (v := ?_) (a' := ?_) z72_28_ rfl rfl (an_ T_) (fun _ _ _ h => h) (Or.inl ⟨by rfl, ?_⟩) ?_ ?_
                   rotate_left; · intro w'; go_simp; with_reducible rfl
                   rotate_left; · simp only [Act.put, sa_, sb_, sc_, i64_w, i32_w]; rfl
                   refine pure_ (i := 3) (N := some 67) (v := ?_) (a' := ?_) z72_29_ rfl rfl (an_ T_) (fun _ _ _ h => h) (Or.inl ⟨by rfl, ?_⟩) ?_ ?_
                   rotate_left; · intro w'; go_simp; with_reducible rfl
                   rotate_left; · simp only [Act.put, sa_, sb_, sc_, i64_w, i32_w]; rfl
                   refine pure_ (i := 5) (N := some 69) (v := ?_) (a' := ?_) z72_30_ rfl rfl (an_ T_) (fun _ _ _ h => h) (Or.inl ⟨by rfl, ?_⟩) ?_ ?_
                   rotate_left; · intro w'; go_simp; with_reducible rfl
                   rotate_left; · simp only [Act.put, sa_, sb_, sc_, i64_w, i32_w]; rfl
                   refine pure_ (i := 6) (N := some 70) (v := ?_) (a' := ?_) z72_31_ rfl rfl (an_ T_) (fun _ _ _ h => h) (Or.inl ⟨by rfl, ?_⟩) ?_ ?_
                   rotate_left; · intro w'; go_simp; with_reducible rfl
                   rotate_left; · simp only [Act.put, sa_, sb_, sc_, i64_w, i32_w]; rfl
                   refine pure_ (i := 7) (N := some 71) (v := ?_) (a' := ?_) z72_32_ rfl rfl (an_ T_) (fun _ _ _ h => h) (Or.inl ⟨by rfl, ?_⟩) ?_ ?_
                   rotate_left; · intro w'; go_simp; with_reducible rfl
                   rotate_left; · simp only [Act.put, sa_, sb_, sc_, i64_w, i32_w]; rfl
                   refine pure_ (i := 9) (N := some 73) (v := ?_) (a' := ?_) z72_33_ rfl rfl (an_ T_) (fun _ _ _ h => h) (Or.inl ⟨by rfl, ?_⟩) ?_ ?_
                   rotate_left; · intro w'; go_simp; with_reducible rfl
                   rotate_left; · simp only [Act.put, sa_, sb_, sc_, i64_w, i32_w]; rfl
                   refine pure_ (i := 10) (N := some 74) (v := ?_) (a' := ?_) z72_34_ rfl rfl (an_ T_) (fun _ _ _ h => h) (Or.inl ⟨by rfl, ?_⟩) ?_ ?_
                   rotate_left; · intro w'; go_simp; with_reducible rfl
                   rotate_left; · simp only [Act.put, sa_, sb_, sc_, i64_w, i32_w]; rfl
                   refine take_ (i := 4) (N := some 68) (v := ?_) (a' := ?_) z72_35_ rfl rfl (tk_ T_ W_) (fun _ _ _ h => h) (Or.inl ⟨by rfl, ?_⟩) hL ?_ ?_
                   rotate_left
                   ·rintro w' ⟨s0, s1, s2⟩
                    go_simp
                    with_reducible rfl
                   rotate_left
                   ·simp only [Act.put, sa_, sb_, sc_, i64_w, i32_w]
                    rfl
                   refine take_ (i := 8) (N := some 72) (v := ?_) (a' := ?_) z72_36_ rfl rfl (tk_ T_ W_) (fun _ _ _ h => h) (Or.inl ⟨by rfl, ?_⟩) hL ?_ ?_
                   rotate_left
                   ·rintro w' ⟨s0, s1, s2⟩
                    go_simp
                    with_reducible rfl
                   rotate_left
                   ·simp only [Act.put, sa_, sb_, sc_, i64_w, i32_w]
                    rfl
                   refine take_ (i := 11) (N := some 75) (v := ?_) (a' := ?_) z72_37_ rfl rfl (tk_ T_ W_) (fun _ _ _ h => h) (Or.inl ⟨by rfl, ?_⟩) hL ?_ ?_
                   rotate_left
                   ·rintro w' ⟨s0, s1, s2⟩
                    go_simp
                    with_reducible rfl
                   rotate_left
                   ·simp only [Act.put, sa_, sb_, sc_, i64_w, i32_w]
                    rfl
                   refine one_ (i := 12) (N := some 76) z72_38_ rfl rfl (on_ T_) (by decide) (fun K hK => ?_)
                   refine goes_ Tryd.func78 (by kernel_rfl) rfl #[.int .i64 a0, .int .u64 (rd ([t256, t257, t258, t259] : List Int) x12_5), .int .u64 (rd ([x249000_3, x249001_3, x249002_3, x249003_3] : List Int) x12_5)] (by rfl) rfl rfl (by (try simp only [List.map_toArray, List.map_cons, List.map_nil]); first | done | rfl | (go_simp; done)) ?_
                   with_reducible refine (attestorref01_Mul.calls a0 (rd ([t256, t257, t258, t259] : List Int) x12_5) (rd ([x249000_3, x249001_3, x249002_3, x249003_3] : List Int) x12_5) t261 _ A50.out).mono ?_
                   rintro e w' ⟨rfl, ⟨nd, rfl⟩⟩
                   refine ⟨_, rfl, ?_⟩
                   (try (rw [drewN_self w52]; generalize q_ : World.drewN w52 _ = w52; replace B248 := ra_ q_ B248; replace B249 := ra_ q_ B249; replace B255 := ra_ q_ B255; replace B260 := ra_ q_ B260; replace HB := rb_ q_ HB; clear q_))
                   refine hK.out _ _ ⟨(sel_at (pre := []) (l := ([x256000_5, x256001_5, x256002_5, x256003_5] : List Int)) (post := []) B255.out rfl (by simp) (of_decide_eq_true (by first | (with_reducible assumption) | assumption)) (of_decide_eq_true (by first | (with_reducible assumption) | assumption))), (sel_at (pre := []) (l := ([t256, t257, t258, t259] : List Int)) (post := []) B260.out rfl (by simp) (of_decide_eq_true (by first | (with_reducible assumption) | assumption)) (of_decide_eq_true (by first | (with_reducible assumption) | assumption))), (sel_at (pre := []) (l := ([x249000_3, x249001_3, x249002_3, x249003_3] : List Int)) (post := []) B248.out rfl (by simp) (of_decide_eq_true (by first | (with_reducible assumption) | assumption)) (of_decide_eq_true (by first | (with_reducible assumption) | assumption)))⟩ (fun hL => ?_)
                   clear hK K
                   refine norm_ (a' := ?_) ?_ ?_
                   rotate_left
                   ·show Act.put _ (some 76) _ = _
                    simp only [Act.put, sa_, sb_, sc_, i64_w, i32_w]
                    rfl
                   refine one_ (i := 13) (N := some 77) z72_39_ rfl rfl (on_ T_) (by decide) (fun K hK => ?_)
                   refine goes_ Tryd.func63 (by kernel_rfl) rfl #[.int .i64 a0, .int .u64 (rd ([x256000_5, x256001_5, x256002_5, x256003_5] : List Int) x10_4), .int .u64 t261] (by rfl) rfl rfl (by (try simp only [List.map_toArray, List.map_cons, List.map_nil]); first | done | rfl | (go_simp; done)) ?_
                   with_reducible refine (attestorref01_Add.calls a0 (rd ([x256000_5, x256001_5, x256002_5, x256003_5] : List Int) x10_4) t261 t262 _ A51.out).mono ?_
                   rintro e w' ⟨rfl, ⟨nd, rfl⟩⟩
                   refine ⟨_, rfl, ?_⟩
                   (try (rw [drewN_self w52]; generalize q_ : World.drewN w52 _ = w52; replace B248 := ra_ q_ B248; replace B249 := ra_ q_ B249; replace B255 := ra_ q_ B255; replace B260 := ra_ q_ B260; replace HB := rb_ q_ HB; clear q_))
                   refine hK.out _ _ ⟨(sel_at (pre := []) (l := ([x256000_5, x256001_5, x256002_5, x256003_5] : List Int)) (post := []) B255.out rfl (by simp) (of_decide_eq_true (by first | (with_reducible assumption) | assumption)) (of_decide_eq_true (by first | (with_reducible assumption) | assumption))), (sel_at (pre := []) (l := ([t256, t257, t258, t259] : List Int)) (post := []) B260.out rfl (by simp) (of_decide_eq_true (by first | (with_reducible assumption) | assumption)) (of_decide_eq_true (by first | (with_reducible assumption) | assumption))), (sel_at (pre := []) (l := ([x249000_3, x249001_3, x249002_3, x249003_3] : List Int)) (post := []) B248.out rfl (by simp) (of_decide_eq_true (by first | (with_reducible assumption) | assumption)) (of_decide_eq_true (by first | (with_reducible assumption) | assumption)))⟩ (fun hL => ?_)
                   clear hK K
                   refine norm_ (a' := ?_) ?_ ?_
                   rotate_left
                   ·show Act.put _ (some 77) _ = _
                    simp only [Act.put, sa_, sb_, sc_, i64_w, i32_w]
                    rfl
                   refine pure_ (i := 14) (N := some 78) (v := ?_) (a' := ?_) z72_40_ rfl rfl (an_ T_) (fun _ _ _ h => h) (Or.inl ⟨by rfl, ?_⟩) ?_ ?_
                   rotate_left; · intro w'; go_simp; with_reducible rfl
                   rotate_left; · simp only [Act.put, sa_, sb_, sc_, i64_w, i32_w]; rfl
                   refine last_ (i := 15) (N := none) z72_41_ rfl rfl (on_ T_) (by decide) (fun K hK => ?_)
                   have hsv59 : w52.cell? ⟨g255, (x10_4).toNat, none⟩ = some (.int .u64 (rd ([x256000_5, x256001_5, x256002_5, x256003_5] : List Int) x10_4)) := (sel_at (pre := []) (l := ([x256000_5, x256001_5, x256002_5, x256003_5] : List Int)) (post := []) B255.out rfl (by simp) (of_decide_eq_true (by first | (with_reducible assumption) | assumption)) (of_decide_eq_true (by first | (with_reducible assumption) | assumption)))
                   have hfv60 := blk_frozen B255.out ((x10_4).toNat)
                   have hns63_0 := NB248_255.out
                   have hns63_1 := NB249_255.out
                   have hns63_3 := NB260_255.out
                   have hms63_0 := NB255_248.out
                   have hms63_1 := NB255_249.out
                   have hms63_3 := NB255_260.out
                   refine skip_ (w1 := ?_) (by rfl) rfl ?_ ?_
                   rotate_left
                   ·go_simp
                    rfl
                   refine hK.out _ _ ?_
                   clear hK K
                   refine done_ (done_of T_.out (by kernel_rfl)) ?_
                   try go_wp2
                   go_roundg k5
                   case measure => have := HJ3.out; have := HK2.out; have := HK3.out; have := HK4.out; have := HK5.out; omega
                   case rel => exact ⟨(wrap64 (x12_5 + 1)), ((updv x256000_5 0 x10_4 t262)), ((updv x256001_5 1 x10_4 t262)), ((updv x256002_5 2 x10_4 t262)), ((updv x256003_5 3 x10_4 t262)), (by first | rfl | (simp; done) | (simp [*]; done) | (simp; rfl) | (simp; decide +kernel)), H', ⟨by have := HJ3.out; have := HK2.out; have := HK3.out; have := HK4.out; have := HK5.out; omega⟩, ⟨by refine blk_far ?_ NB248_255.out _; exact B248.out⟩, ⟨by refine blk_far ?_ NB249_255.out _; exact B249.out⟩, ⟨by refine sel_put (pre := []) (l := ([x256000_5, x256001_5, x256002_5, x256003_5] : List Int)) (post := []) ?_ rfl rfl (by simp) (of_decide_eq_true (by first | (with_reducible assumption) | assumption)) (of_decide_eq_true (by first | (with_reducible assumption) | assumption)); exact B255.out⟩, ⟨by refine blk_far ?_ NB260_255.out _; exact B260.out⟩, ⟨by repeat (first | (with_reducible first | exact HB.out | apply below_alloc | apply pw_below_drewN | apply below_drew1 | refine below_set ?_ GE248.out | refine below_set ?_ GE249.out | refine below_set ?_ GE255.out | refine below_set ?_ GE260.out) | exact HB.out)⟩⟩
                  ·rw [if_neg c49] at H
                   exact absurd H (by simp)
                 ·rw [if_neg c48] at H
                  exact absurd H (by simp)
                ·rw [if_neg c47] at H
                 exact absurd H (by simp)
               ·rw [if_neg c46] at H
                have c46b0 : decide (x12_5 < 4) = false := decide_eq_false c46
                clear c46
                have H' := Aside0.mk H
                clear H
                go_wp2
                go_roundg k5
                case measure => have := HJ3.out; have := HK2.out; have := HK3.out; have := HK4.out; have := HK5.out; omega
                case rel => exact ⟨(wrap64 (x10_4 + 1)), (x256000_5), (x256001_5), (x256002_5), (x256003_5), (by first | rfl | (simp; done) | (simp [*]; done) | (simp; rfl) | (simp; decide +kernel)), H', ⟨by have := HJ3.out; have := HK2.out; have := HK3.out; have := HK4.out; have := HK5.out; omega⟩, ⟨by exact B248.out⟩, ⟨by exact B249.out⟩, ⟨by exact B255.out⟩, ⟨by repeat (first | (with_reducible first | exact HB.out | apply below_alloc | apply pw_below_drewN | apply below_drew1 | refine below_set ?_ GE248.out | refine below_set ?_ GE249.out | refine below_set ?_ GE255.out | refine below_set ?_ GE260.out) | exact HB.out)⟩⟩
            ·rw [if_neg c38] at H
             have c38b0 : decide (x10_4 < 4) = false := decide_eq_false c38
             clear c38
             simp only [Option.some.injEq, Prod.mk.injEq] at H
             obtain ⟨rfl, rfl, rfl, rfl⟩ := H
             have hnb64 := NB255_248.out
             have hnc64 := NB248_255.out
             have hnb65 := NB255_249.out
             have hnc65 := NB249_255.out
             have hcz66_0 : wr.cell? ⟨g255, 0, none⟩ = some (.int .u64 x256000_4) := bq_ B255 0
             have hcz66_1 : wr.cell? ⟨g255, 1, none⟩ = some (.int .u64 x256001_4) := bq_ B255 1
             have hcz66_2 : wr.cell? ⟨g255, 2, none⟩ = some (.int .u64 x256002_4) := bq_ B255 2
             have hcz66_3 : wr.cell? ⟨g255, 3, none⟩ = some (.int .u64 x256003_4) := bq_ B255 3
             have hfz66_0 := blk_frozen B255.out 0
             have hfz66_1 := blk_frozen B255.out 1
             have hfz66_2 := blk_frozen B255.out 2
             have hfz66_3 := blk_frozen B255.out 3
             have hnb67 := NB249_248.out
             have hnc67 := NB248_249.out
             have hcz68_0 : wr.cell? ⟨g249, 0, none⟩ = some (.int .u64 0) := bq_ B249 0
             have hcz68_1 : wr.cell? ⟨g249, 1, none⟩ = some (.int .u64 0) := bq_ B249 1
             have hcz68_2 : wr.cell? ⟨g249, 2, none⟩ = some (.int .u64 0) := bq_ B249 2
             have hcz68_3 : wr.cell? ⟨g249, 3, none⟩ = some (.int .u64 0) := bq_ B249 3
             have hfz68_0 := blk_frozen B249.out 0
             have hfz68_1 := blk_frozen B249.out 1
             have hfz68_2 := blk_frozen B249.out 2
             have hfz68_3 := blk_frozen B249.out 3
             go_wp2
             refine bodyPost_ret (results_cell_row rfl _ _ g249 80 #[.int .u64 x256000_4, .int .u64 x256001_4, .int .u64 x256002_4, .int .u64 x256003_4] (0, 0) _ rfl (by refine blk_put (cs := #[.int .u64 x256000_4, .int .u64 x256001_4, .int .u64 x256002_4, .int .u64 0]) ?_ 3 _ rfl; refine blk_put (cs := #[.int .u64 x256000_4, .int .u64 x256001_4, .int .u64 0, .int .u64 0]) ?_ 2 _ rfl; refine blk_put (cs := #[.int .u64 x256000_4, .int .u64 0, .int .u64 0, .int .u64 0]) ?_ 1 _ rfl; refine blk_put (cs := #[.int .u64 0, .int .u64 0, .int .u64 0, .int .u64 0]) ?_ 0 _ rfl; exact B249.out) Tryd.underlying80 rfl (by kernel_rfl)) rfl ?_
             exact ⟨by first | rfl | (simp [errW_none, errW_some] <;> rfl) | (simp [*, errW_none, errW_some] <;> rfl), by repeat (first | (with_reducible first | exact HB.out | apply below_alloc | apply pw_below_drewN | apply below_drew1 | refine below_set ?_ GE248.out | refine below_set ?_ GE249.out | refine below_set ?_ GE255.out) | exact HB.out)⟩

end Go.Proofs.YtpnpmeogffodgaaDoor.Q
end
section
namespace Go.Proofs.YtpnpmeogffodgaaDoor.Q
open Go.RowKit Go.Proofs.YtpnpmeogffodgaaDoorW.PrintWords Go.Proofs.YtpnpmeogffodgaaDoorW.PrintLast Go.Proofs.YtpnpmeogffodgaaDoorW.PrintMore
attribute [local go_sem] max2_int min2_int max_two min_two max_three min_three max_four min_four run_store_fnV run_store_fnc run_store_nfn   -- for this text's walks alone
set_option linter.unusedVariables false
set_option linter.unusedSimpArgs false

/-! ### attestorref06_Perm: function 62 -/
def attestorref06_Perm.l0 : Nat → Int → Int → Int → Int → Int → Int → Option (Int × Int × Int × Int)
  | 0, _, _, _, _, _, _ => none
  | k + 1, x0, x5, x264000, x264001, x264002, x264003 => if x5 < 8 then ((attestorref06_Round.f k x0 x5 x264000 x264001 x264002 x264003).bind fun bt266 => (attestorref06_Perm.l0 k x0 (wrap64 (x5 + 1)) bt266.1 bt266.2.1 bt266.2.2.1 bt266.2.2.2)) else (some (x264000, x264001, x264002, x264003))
def attestorref06_Perm.f (k : Nat) (a0 : Int) (a1_0 : Int) (a1_1 : Int) (a1_2 : Int) (a1_3 : Int) : Option (Int × Int × Int × Int) := (attestorref01_Valid.f a0).bind fun t265 => (if t265 = true then (attestorref06_Perm.l0 k a0 0 a1_0 a1_1 a1_2 a1_3) else (some (0, 0, 0, 0)))
theorem attestorref06_Perm.mono_l : ∀ k, (∀ y0 y1 y2 y3 y4 y5, LeO (attestorref06_Perm.l0 k y0 y1 y2 y3 y4 y5) (attestorref06_Perm.l0 (k + 1) y0 y1 y2 y3 y4 y5))
  | 0 => fun _ _ _ _ _ _ r h => by simp [attestorref06_Perm.l0] at h
  | k + 1 => by
    have ih0 := attestorref06_Perm.mono_l k
    · intro y0 y1 y2 y3 y4 y5
      unfold attestorref06_Perm.l0
      repeat' first
      | (with_reducible exact ih0 _ _ _ _ _ _)
      | (with_reducible exact attestorref06_Round.mono _ _ _ _ _ _ _)
      | (with_reducible exact LeO.refl _)
      | (with_reducible exact LeO.none _)
      | (with_reducible refine LeO.ite ?_ ?_)
      | (with_reducible refine LeO.bind ?_ (fun _ => ?_))
      | exact ih0 _ _ _ _ _ _
      | exact attestorref06_Round.mono _ _ _ _ _ _ _
      | exact LeO.none _
      | refine LeO.ite ?_ ?_
      | refine LeO.bind ?_ (fun _ => ?_)
theorem attestorref06_Perm.mono : ∀ a0 a1 a2 a3 a4 k, LeO (attestorref06_Perm.f k a0 a1 a2 a3 a4) (attestorref06_Perm.f (k + 1) a0 a1 a2 a3 a4) := by
  intro a0 a1 a2 a3 a4 k
  have ih0 := attestorref06_Perm.mono_l k
  unfold attestorref06_Perm.f
  repeat' first
      | (with_reducible exact ih0 _ _ _ _ _ _)
      | (with_reducible exact attestorref06_Round.mono _ _ _ _ _ _ _)
      | (with_reducible exact LeO.refl _)
      | (with_reducible exact LeO.none _)
      | (with_reducible refine LeO.ite ?_ ?_)
      | (with_reducible refine LeO.bind ?_ (fun _ => ?_))
      | exact ih0 _ _ _ _ _ _
      | exact attestorref06_Round.mono _ _ _ _ _ _ _
      | exact LeO.none _
      | refine LeO.ite ?_ ?_
      | refine LeO.bind ?_ (fun _ => ?_)
set_option maxHeartbeats 8000000 in
set_option maxRecDepth 100000 in
theorem attestorref06_Perm.calls (k : Nat) (a0 : Int) (a1_0 : Int) (a1_1 : Int) (a1_2 : Int) (a1_3 : Int) (r1 : Int) (r2 : Int) (r3 : Int) (r4 : Int) (w : World) (h : attestorref06_Perm.f k a0 a1_0 a1_1 a1_2 a1_3 = some (r1, r2, r3, r4)) :
  Calls Tryd.prog 62 #[.int .i64 a0, .agg #[.int .u64 a1_0, .int .u64 a1_1, .int .u64 a1_2, .int .u64 a1_3]] w fun e w' => e = .returned (.agg #[.int .u64 r1, .int .u64 r2, .int .u64 r3, .int .u64 r4]) ∧ Below w.heap.size w w' := by
 have hu80 := Tryd.underlying80
 have HB := Aside0.mk (Below.refl w.heap.size w)
 have H : ((attestorref01_Valid.f a0).bind fun t265 => (if t265 = true then (attestorref06_Perm.l0 k a0 0 a1_0 a1_1 a1_2 a1_3) else (some (0, 0, 0, 0)))) = some (r1, r2, r3, r4) := h
 clear h
 replace H := Option.bind_eq_some_iff.mp H
 obtain ⟨t265, A30, H⟩ := H
 have A3 := Aside0.mk A30
 clear A30
 by_cases c4 : t265 = true
 ·subst c4
  have H1 : (attestorref06_Perm.l0 k a0 0 a1_0 a1_1 a1_2 a1_3) = some (r1, r2, r3, r4) := by rw [if_pos rfl] at H; exact H
  clear H
  have H := H1
  clear H1
  have H' := Aside0.mk H
  clear H
  go_enter Tryd.func62, Tryd.ntmps62
  go_wp2_with (first | ((with_reducible refine gate_dst (N := 3) rfl ?_); refine box_event ?hg (N := 3) ?hd (cs := #[.int .u64 a1_0, .int .u64 a1_1, .int .u64 a1_2, .int .u64 a1_3]) (t := 80) ?hr ?_; (case hd => rfl); (case hg => rfl); (case hr => first | (go_simp; done) | (go_simp; rfl)); intro g263 hg w5 hbox hb; have n0_ := Aside0.mk (below_step (by repeat (first | (with_reducible first | exact HB.out | apply below_alloc | apply pw_below_drewN | apply below_drew1) | exact HB.out)) hb); have n1_ := Aside0.mk (hbox); have n2_ := Aside0.mk ((by rw [hg]; exact (below_size (by repeat (first | (with_reducible first | exact HB.out | apply below_alloc | apply pw_below_drewN | apply below_drew1) | exact HB.out))) : w.heap.size ≤ g263)); have n3_ := Aside0.mk ((by rw [hg]; exact (below_size (by repeat (first | (with_reducible first | exact HB.out | apply below_alloc | apply pw_below_drewN | apply below_drew1) | exact HB.out))) : w.heap.size ≤ g263)); clear HB; have HB := n0_; have B263 := n1_; have GW263 := n2_; have GE263 := n3_; clear n0_ n1_ n2_ n3_; clear hb hbox hg) | ((with_reducible refine gate_dst (N := 4) rfl ?_); refine box_event ?hg (N := 4) ?hd (cs := #[.int .u64 0, .int .u64 0, .int .u64 0, .int .u64 0]) (t := 80) ?hr ?_; (case hd => rfl); (case hg => rfl); (case hr => first | (go_simp; done) | (go_simp; rfl)); intro g264 hg w6 hbox hb; have n0_ := Aside0.mk (blk_below (g := g263) (o := .cells #[.int .u64 a1_0, .int .u64 a1_1, .int .u64 a1_2, .int .u64 a1_3] 80 (0, 0)) (by exact B263.out) hb); have n1_ := Aside0.mk (below_step (by repeat (first | (with_reducible first | exact HB.out | apply below_alloc | apply pw_below_drewN | apply below_drew1 | refine below_set ?_ GE263.out) | exact HB.out)) hb); have n2_ := Aside0.mk (hbox); have n3_ := Aside0.mk ((by rw [hg]; exact (below_size (by repeat (first | (with_reducible first | exact HB.out | apply below_alloc | apply pw_below_drewN | apply below_drew1 | refine below_set ?_ GE263.out) | exact HB.out))) : w.heap.size ≤ g264)); have n4_ := Aside0.mk ((by rw [hg]; exact (below_size (by repeat (first | (with_reducible first | exact HB.out | apply below_alloc | apply pw_below_drewN | apply below_drew1 | refine below_set ?_ GE263.out) | exact HB.out))) : w.heap.size ≤ g264)); have n5_ := Aside0.mk ((by rw [hg]; exact Nat.ne_of_lt (blk_lt (g := g263) (o := .cells #[.int .u64 a1_0, .int .u64 a1_1, .int .u64 a1_2, .int .u64 a1_3] 80 (0, 0)) (by exact B263.out)) : g263 ≠ g264)); have n6_ := Aside0.mk ((by rw [hg]; exact Nat.ne_of_gt (blk_lt (g := g263) (o := .cells #[.int .u64 a1_0, .int .u64 a1_1, .int .u64 a1_2, .int .u64 a1_3] 80 (0, 0)) (by exact B263.out)) : g264 ≠ g263)); clear B263; clear HB; have B263 := n0_; have HB := n1_; have B264 := n2_; have GW264 := n3_; have GE264 := n4_; have NB263_264 := n5_; have NB264_263 := n6_; clear n0_ n1_ n2_ n3_ n4_ n5_ n6_; clear hb hbox hg) | ((with_reducible refine gate_callee (f := 42) rfl ?_); refine goesL_ (some 7) rfl rfl Tryd.func42 (by kernel_rfl) rfl #[.int .i64 a0] rfl (by (try simp only [List.map_toArray, List.map_cons, List.map_nil]); first | done | rfl | (go_simp; done)) ?_; (with_reducible refine (attestorref01_Valid.calls a0 true _ A3.out).mono ?_); rintro e w' ⟨rfl, ⟨nd, rfl⟩⟩; refine ⟨_, rfl, ?_⟩))
  go_loopg [5] k (fun kq v5 w' => ∃ (x5_1 : Int) (x264000_1 : Int) (x264001_1 : Int) (x264002_1 : Int) (x264003_1 : Int), v5 = .int .i64 x5_1 ∧ Aside0 (attestorref06_Perm.l0 kq a0 x5_1 x264000_1 x264001_1 x264002_1 x264003_1 = some (r1, r2, r3, r4)) ∧ Aside0 (kq ≤ k) ∧ Aside0 (w'.heap[g263]? = some (.cells #[.int .u64 x264000_1, .int .u64 x264001_1, .int .u64 x264002_1, .int .u64 x264003_1] 80 (0, 0))) ∧ Aside0 (w'.heap[g264]? = some (.cells #[.int .u64 0, .int .u64 0, .int .u64 0, .int .u64 0] 80 (0, 0))) ∧ Aside0 (Below w.heap.size w w'))
  case atStart => exact ⟨(0), (a1_0), (a1_1), (a1_2), (a1_3), (by first | rfl | (simp; done) | (simp [*]; done) | (simp; rfl) | (simp; decide +kernel)), H', ⟨Nat.le_refl _⟩, ⟨by exact B263.out⟩, ⟨by exact B264.out⟩, ⟨by repeat (first | (with_reducible first | exact HB.out | apply below_alloc | apply pw_below_drewN | apply below_drew1 | refine below_set ?_ GE263.out | refine below_set ?_ GE264.out) | exact HB.out)⟩⟩
  case round =>
   clear H'
   try clear p2
   try clear c4
   try clear c6
   obtain ⟨x5_1, x264000_1, x264001_1, x264002_1, x264003_1, rfl, HA, HK1, B263, B264, HB⟩ := hrel
   cases gk with
   | zero => exact absurd HA.out (by simp [attestorref06_Perm.l0])
   | succ k1 =>
    have H := HA.out
    clear HA
    simp only [attestorref06_Perm.l0] at H
    by_cases c7 : x5_1 < 8
    ·rw [if_pos c7] at H
     have c7b0 : decide (x5_1 < 8) = true := decide_eq_true c7
     clear c7
     replace H := Option.bind_eq_some_iff.mp H
     obtain ⟨⟨t266, t267, t268, t269⟩, A80, H⟩ := H
     replace H : (attestorref06_Perm.l0 k1 a0 (wrap64 (x5_1 + 1)) t266 t267 t268 t269) = some (r1, r2, r3, r4) := H
     have A8 := Aside0.mk A80
     clear A80
     have H' := Aside0.mk H
     clear H
     have hnb9 := NB263_264.out
     have hnc9 := NB264_263.out
     have hcz10_0 : wr.cell? ⟨g263, 0, none⟩ = some (.int .u64 x264000_1) := bq_ B263 0
     have hcz10_1 : wr.cell? ⟨g263, 1, none⟩ = some (.int .u64 x264001_1) := bq_ B263 1
     have hcz10_2 : wr.cell? ⟨g263, 2, none⟩ = some (.int .u64 x264002_1) := bq_ B263 2
     have hcz10_3 : wr.cell? ⟨g263, 3, none⟩ = some (.int .u64 x264003_1) := bq_ B263 3
     have hfz10_0 := blk_frozen B263.out 0
     have hfz10_1 := blk_frozen B263.out 1
     have hfz10_2 := blk_frozen B263.out 2
     have hfz10_3 := blk_frozen B263.out 3
     go_wp2_with (first | ((with_reducible refine gate_callee (f := 72) rfl ?_); refine goesL_ (some 17) rfl rfl Tryd.func72 (by kernel_rfl) rfl #[.int .i64 a0, .int .i64 x5_1, .agg #[.int .u64 x264000_1, .int .u64 x264001_1, .int .u64 x264002_1, .int .u64 x264003_1]] rfl (by (try simp only [List.map_toArray, List.map_cons, List.map_nil]); first | done | rfl | (go_simp; done)) ?_; (with_reducible refine (attestorref06_Round.calls k1 a0 x5_1 x264000_1 x264001_1 x264002_1 x264003_1 t266 t267 t268 t269 _ A8.out).mono ?_); rintro e w11 ⟨rfl, hb⟩; refine ⟨_, rfl, ?_⟩; have n0_ := Aside0.mk (blk_below (g := g263) (o := .cells #[.int .u64 x264000_1, .int .u64 x264001_1, .int .u64 x264002_1, .int .u64 x264003_1] 80 (0, 0)) (by exact B263.out) hb); have n1_ := Aside0.mk (blk_below (g := g264) (o := .cells #[.int .u64 0, .int .u64 0, .int .u64 0, .int .u64 0] 80 (0, 0)) (by exact B264.out) hb); have n2_ := Aside0.mk (below_step (by repeat (first | (with_reducible first | exact HB.out | apply below_alloc | apply pw_below_drewN | apply below_drew1 | refine below_set ?_ GE263.out | refine below_set ?_ GE264.out) | exact HB.out)) hb); clear B263; clear B264; clear HB; have B263 := n0_; have B264 := n1_; have HB := n2_; clear n0_ n1_ n2_; (try clear hb); (try clear hb2); (try clear hk); (try clear hi); have hcz12_0 : w11.cell? ⟨g263, 0, none⟩ = some (.int .u64 x264000_1) := bq_ B263 0; have hcz12_1 : w11.cell? ⟨g263, 1, none⟩ = some (.int .u64 x264001_1) := bq_ B263 1; have hcz12_2 : w11.cell? ⟨g263, 2, none⟩ = some (.int .u64 x264002_1) := bq_ B263 2; have hcz12_3 : w11.cell? ⟨g263, 3, none⟩ = some (.int .u64 x264003_1) := bq_ B263 3; have hfz12_0 := blk_frozen B263.out 0; have hfz12_1 := blk_frozen B263.out 1; have hfz12_2 := blk_frozen B263.out 2; have hfz12_3 := blk_frozen B263.out 3))
     go_roundg k1
     case measure => have := HK1.out; omega
     case rel => exact ⟨(wrap64 (x5_1 + 1)), (t266), (t267), (t268), (t269), (by first | rfl | (simp; done) | (simp [*]; done) | (simp; rfl) | (simp; decide +kernel)), H', ⟨by have := HK1.out; omega⟩, ⟨by refine blk_put (cs := #[.int .u64 t266, .int .u64 t267, .int .u64 t268, .int .u64 x264003_1]) ?_ 3 _ rfl; refine blk_put (cs := #[.int .u64 t266, .int .u64 t267, .int .u64 x264002_1, .int .u64 x264003_1]) ?_ 2 _ rfl; refine blk_put (cs := #[.int .u64 t266, .int .u64 x264001_1, .int .u64 x264002_1, .int .u64 x264003_1]) ?_ 1 _ rfl; refine blk_put (cs := #[.int .u64 x264000_1, .int .u64 x264001_1, .int .u64 x264002_1, .int .u64 x264003_1]) ?_ 0 _ rfl; exact B263.out⟩, ⟨by refine blk_far ?_ NB264_263.out _; refine blk_far ?_ NB264_263.out _; refine blk_far ?_ NB264_263.out _; refine blk_far ?_ NB264_263.out _; exact B264.out⟩, ⟨by repeat (first | (with_reducible first | exact HB.out | apply below_alloc | apply pw_below_drewN | apply below_drew1 | refine below_set ?_ GE263.out | refine below_set ?_ GE264.out) | exact HB.out)⟩⟩
    ·rw [if_neg c7] at H
     have c7b0 : decide (x5_1 < 8) = false := decide_eq_false c7
     clear c7
     simp only [Option.some.injEq, Prod.mk.injEq] at H
     obtain ⟨rfl, rfl, rfl, rfl⟩ := H
     have hnb13 := NB263_264.out
     have hnc13 := NB264_263.out
     have hcz14_0 : wr.cell? ⟨g263, 0, none⟩ = some (.int .u64 x264000_1) := bq_ B263 0
     have hcz14_1 : wr.cell? ⟨g263, 1, none⟩ = some (.int .u64 x264001_1) := bq_ B263 1
     have hcz14_2 : wr.cell? ⟨g263, 2, none⟩ = some (.int .u64 x264002_1) := bq_ B263 2
     have hcz14_3 : wr.cell? ⟨g263, 3, none⟩ = some (.int .u64 x264003_1) := bq_ B263 3
     have hfz14_0 := blk_frozen B263.out 0
     have hfz14_1 := blk_frozen B263.out 1
     have hfz14_2 := blk_frozen B263.out 2
     have hfz14_3 := blk_frozen B263.out 3
     have hcz15_0 : wr.cell? ⟨g264, 0, none⟩ = some (.int .u64 0) := bq_ B264 0
     have hcz15_1 : wr.cell? ⟨g264, 1, none⟩ = some (.int .u64 0) := bq_ B264 1
     have hcz15_2 : wr.cell? ⟨g264, 2, none⟩ = some (.int .u64 0) := bq_ B264 2
     have hcz15_3 : wr.cell? ⟨g264, 3, none⟩ = some (.int .u64 0) := bq_ B264 3
     have hfz15_0 := blk_frozen B264.out 0
     have hfz15_1 := blk_frozen B264.out 1
     have hfz15_2 := blk_frozen B264.out 2
     have hfz15_3 := blk_frozen B264.out 3
     go_wp2
     refine bodyPost_ret (results_cell_row rfl _ _ g264 80 #[.int .u64 x264000_1, .int .u64 x264001_1, .int .u64 x264002_1, .int .u64 x264003_1] (0, 0) _ rfl (by refine blk_put (cs := #[.int .u64 x264000_1, .int .u64 x264001_1, .int .u64 x264002_1, .int .u64 0]) ?_ 3 _ rfl; refine blk_put (cs := #[.int .u64 x264000_1, .int .u64 x264001_1, .int .u64 0, .int .u64 0]) ?_ 2 _ rfl; refine blk_put (cs := #[.int .u64 x264000_1, .int .u64 0, .int .u64 0, .int .u64 0]) ?_ 1 _ rfl; refine blk_put (cs := #[.int .u64 0, .int .u64 0, .int .u64 0, .int .u64 0]) ?_ 0 _ rfl; exact B264.out) Tryd.underlying80 rfl (by kernel_rfl)) rfl ?_
     exact ⟨by first | rfl | (simp [errW_none, errW_some] <;> rfl) | (simp [*, errW_none, errW_some] <;> rfl), by repeat (first | (with_reducible first | exact HB.out | apply below_alloc | apply pw_below_drewN | apply below_drew1 | refine below_set ?_ GE263.out | refine below_set ?_ GE264.out) | exact HB.out)⟩
 ·replace c4 := Bool.eq_false_iff.mpr c4
  subst c4
  have H1 : (some (0, 0, 0, 0)) = some (r1, r2, r3, r4) := by rw [if_neg (show ¬ (false = true) by decide)] at H; exact H
  clear H
  have H := H1
  clear H1
  simp only [Option.some.injEq, Prod.mk.injEq] at H
  obtain ⟨rfl, rfl, rfl, rfl⟩ := H
  go_enter Tryd.func62, Tryd.ntmps62
  go_wp2_with (first | ((with_reducible refine gate_dst (N := 3) rfl ?_); refine box_event ?hg (N := 3) ?hd (cs := #[.int .u64 a1_0, .int .u64 a1_1, .int .u64 a1_2, .int .u64 a1_3]) (t := 80) ?hr ?_; (case hd => rfl); (case hg => rfl); (case hr => first | (go_simp; done) | (go_simp; rfl)); intro g263 hg w16 hbox hb; have n0_ := Aside0.mk (below_step (by repeat (first | (with_reducible first | exact HB.out | apply below_alloc | apply pw_below_drewN | apply below_drew1) | exact HB.out)) hb); have n1_ := Aside0.mk (hbox); have n2_ := Aside0.mk ((by rw [hg]; exact (below_size (by repeat (first | (with_reducible first | exact HB.out | apply below_alloc | apply pw_below_drewN | apply below_drew1) | exact HB.out))) : w.heap.size ≤ g263)); have n3_ := Aside0.mk ((by rw [hg]; exact (below_size (by repeat (first | (with_reducible first | exact HB.out | apply below_alloc | apply pw_below_drewN | apply below_drew1) | exact HB.out))) : w.heap.size ≤ g263)); clear HB; have HB := n0_; have B263 := n1_; have GW263 := n2_; have GE263 := n3_; clear n0_ n1_ n2_ n3_; clear hb hbox hg) | ((with_reducible refine gate_dst (N := 4) rfl ?_); refine box_event ?hg (N := 4) ?hd (cs := #[.int .u64 0, .int .u64 0, .int .u64 0, .int .u64 0]) (t := 80) ?hr ?_; (case hd => rfl); (case hg => rfl); (case hr => first | (go_simp; done) | (go_simp; rfl)); intro g264 hg w17 hbox hb; have n0_ := Aside0.mk (blk_below (g := g263) (o := .cells #[.int .u64 a1_0, .int .u64 a1_1, .int .u64 a1_2, .int .u64 a1_3] 80 (0, 0)) (by exact B263.out) hb); have n1_ := Aside0.mk (below_step (by repeat (first | (with_reducible first | exact HB.out | apply below_alloc | apply pw_below_drewN | apply below_drew1 | refine below_set ?_ GE263.out) | exact HB.out)) hb); have n2_ := Aside0.mk (hbox); have n3_ := Aside0.mk ((by rw [hg]; exact (below_size (by repeat (first | (with_reducible first | exact HB.out | apply below_alloc | apply pw_below_drewN | apply below_drew1 | refine below_set ?_ GE263.out) | exact HB.out))) : w.heap.size ≤ g264)); have n4_ := Aside0.mk ((by rw [hg]; exact (below_size (by repeat (first | (with_reducible first | exact HB.out | apply below_alloc | apply pw_below_drewN | apply below_drew1 | refine below_set ?_ GE263.out) | exact HB.out))) : w.heap.size ≤ g264)); have n5_ := Aside0.mk ((by rw [hg]; exact Nat.ne_of_lt (blk_lt (g := g263) (o := .cells #[.int .u64 a1_0, .int .u64 a1_1, .int .u64 a1_2, .int .u64 a1_3] 80 (0, 0)) (by exact B263.out)) : g263 ≠ g264)); have n6_ := Aside0.mk ((by rw [hg]; exact Nat.ne_of_gt (blk_lt (g := g263) (o := .cells #[.int .u64 a1_0, .int .u64 a1_1, .int .u64 a1_2, .int .u64 a1_3] 80 (0, 0)) (by exact B263.out)) : g264 ≠ g263)); clear B263; clear HB; have B263 := n0_; have HB := n1_; have B264 := n2_; have GW264 := n3_; have GE264 := n4_; have NB263_264 := n5_; have NB264_263 := n6_; clear n0_ n1_ n2_ n3_ n4_ n5_ n6_; clear hb hbox hg) | ((with_reducible refine gate_callee (f := 42) rfl ?_); refine goesL_ (some 7) rfl rfl Tryd.func42 (by kernel_rfl) rfl #[.int .i64 a0] rfl (by (try simp only [List.map_toArray, List.map_cons, List.map_nil]); first | done | rfl | (go_simp; done)) ?_; (with_reducible refine (attestorref01_Valid.calls a0 false _ A3.out).mono ?_); rintro e w' ⟨rfl, ⟨nd, rfl⟩⟩; refine ⟨_, rfl, ?_⟩; (try (rw [drewN_self w17]; generalize q_ : World.drewN w17 _ = w17; have n0_ : Aside0 (w17.heap[g263]? = some (.cells #[.int .u64 a1_0, .int .u64 a1_1, .int .u64 a1_2, .int .u64 a1_3] 80 (0, 0))) := ⟨by rw [← q_]; exact (by exact B263.out)⟩; have n1_ : Aside0 (w17.heap[g264]? = some (.cells #[.int .u64 0, .int .u64 0, .int .u64 0, .int .u64 0] 80 (0, 0))) := ⟨by rw [← q_]; exact (by exact B264.out)⟩; have n2_ : Aside0 (Below w.heap.size w w17) := ⟨by rw [← q_]; exact (by repeat (first | (with_reducible first | exact HB.out | apply below_alloc | apply pw_below_drewN | apply below_drew1 | refine below_set ?_ GE263.out | refine below_set ?_ GE264.out) | exact HB.out))⟩; clear B263 B264 HB q_; have B263 := n0_; have B264 := n1_; have HB := n2_; clear n0_ n1_ n2_)); have hnb18 := NB264_263.out; have hnc18 := NB263_264.out; have hcz19_0 : w17.cell? ⟨g264, 0, none⟩ = some (.int .u64 0) := bq_ B264 0; have hcz19_1 : w17.cell? ⟨g264, 1, none⟩ = some (.int .u64 0) := bq_ B264 1; have hcz19_2 : w17.cell? ⟨g264, 2, none⟩ = some (.int .u64 0) := bq_ B264 2; have hcz19_3 : w17.cell? ⟨g264, 3, none⟩ = some (.int .u64 0) := bq_ B264 3; have hfz19_0 := blk_frozen B264.out 0; have hfz19_1 := blk_frozen B264.out 1; have hfz19_2 := blk_frozen B264.out 2; have hfz19_3 := blk_frozen B264.out 3))
  refine bodyPost_ret (results_cell_row rfl _ _ g264 80 #[.int .u64 0, .int .u64 0, .int .u64 0, .int .u64 0] (0, 0) _ rfl (by refine blk_put (cs := #[.int .u64 0, .int .u64 0, .int .u64 0, .int .u64 0]) ?_ 3 _ rfl; refine blk_put (cs := #[.int .u64 0, .int .u64 0, .int .u64 0, .int .u64 0]) ?_ 2 _ rfl; refine blk_put (cs := #[.int .u64 0, .int .u64 0, .int .u64 0, .int .u64 0]) ?_ 1 _ rfl; refine blk_put (cs := #[.int .u64 0, .int .u64 0, .int .u64 0, .int .u64 0]) ?_ 0 _ rfl; exact B264.out) Tryd.underlying80 rfl (by kernel_rfl)) rfl ?_
  exact ⟨by first | rfl | (simp [errW_none, errW_some] <;> rfl) | (simp [*, errW_none, errW_some] <;> rfl), by repeat (first | (with_reducible first | exact HB.out | apply below_alloc | apply pw_below_drewN | apply below_drew1 | refine below_set ?_ GE263.out | refine below_set ?_ GE264.out) | exact HB.out)⟩

end Go.Proofs.YtpnpmeogffodgaaDoor.Q
end
section
namespace Go.Proofs.YtpnpmeogffodgaaDoor.Q
open Go.RowKit Go.Proofs.YtpnpmeogffodgaaDoorW.PrintWords Go.Proofs.YtpnpmeogffodgaaDoorW.PrintLast Go.Proofs.YtpnpmeogffodgaaDoorW.PrintMore
open Go.Proofs.YtpnpmeogffodgaaDoor.Num
set_option linter.unusedVariables false
set_option linter.unusedSimpArgs false
theorem rconst_yes {f : Int} {p g e : Nat} (D : Fd f p g e) (k r pl : Nat) (hk : 66 < k) (hr : r < 8) (hp : pl < 4) : attestorref06_Constant.f k f r pl = some ((cst p g (4 * r + (pl + 1)) : Nat) : Int) := by
  obtain ⟨k, rfl⟩ : ∃ j, k = j + 1 + 1 := ⟨k - 2, by omega⟩
  unfold attestorref06_Constant.f
  rw [rvalid_yes D.F]
  simp only [Option.bind_some, if_true]
  rw [if_neg (by omega), if_neg (by omega), if_neg (by omega), decide_eq_false (by omega)]
  simp only [attestorref06_Constant.j0, Bool.false_eq_true, if_false]
  rw [rgen_eq, D.gen]
  simp only [Option.bind_some]
  rw [expo r pl hr hp, rpow_f D.F 6 (k + 1) g _ (by omega) (by omega) (by omega)]
  simp only [Option.bind_some]
  rw [show (7 : Int) = ((7 : Nat) : Int) from rfl, radd_f D.F]
  rfl
theorem pm (p e a c : Nat) : ((a + c) % p) ^ e % p = (a % p + c) ^ e % p := by
  rw [Nat.pow_mod (a % p + c) e p, Nat.mod_add_mod]
theorem rl0_0 (k : Nat) (f r s0 s1 s2 s3 : Int) : attestorref06_Round.l0 (k + 1) f r 0 s0 s1 s2 s3 = (attestorref06_Constant.f k f r 0).bind fun c => (attestorref01_Add.f f s0 c).bind fun v => attestorref06_Round.l0 k f r 1 v s1 s2 s3 := by
  rw [attestorref06_Round.l0, if_pos (by decide), if_pos (by decide), v01]
  rfl
theorem rl1_0 (k : Nat) (f s0 s1 s2 s3 : Int) : attestorref06_Round.l1 (k + 1) f 0 s0 s1 s2 s3 = (attestorref01_Exponent.f k f).bind fun c => (attestorref01_Pow.f k f s0 (IntKind.u64.wrap c)).bind fun v => attestorref06_Round.l1 k f 1 v s1 s2 s3 := by
  rw [attestorref06_Round.l1, if_pos (by decide), if_pos (by decide), v01]
  rfl
theorem rl2_0 (k : Nat) (f s0 s1 s2 s3 t0 t1 t2 t3 : Int) : attestorref06_Round.l2 (k + 1) f 0 s0 s1 s2 s3 t0 t1 t2 t3 = (attestorref06_row.f 0).bind fun m => attestorref06_Round.l3 k f 0 0 s0 s1 s2 s3 t0 t1 t2 t3 m.1 m.2.1 m.2.2.1 m.2.2.2 := by
  rw [attestorref06_Round.l2, if_pos (by decide)]
theorem rl3_00 (k : Nat) (f s0 s1 s2 s3 t0 t1 t2 t3 m0 m1 m2 m3 : Int) : attestorref06_Round.l3 (k + 1) f 0 0 s0 s1 s2 s3 t0 t1 t2 t3 m0 m1 m2 m3 = (attestorref01_Mul.f f m0 s0).bind fun c => (attestorref01_Add.f f t0 c).bind fun v => attestorref06_Round.l3 k f 0 1 s0 s1 s2 s3 v t1 t2 t3 m0 m1 m2 m3 := by
  rw [attestorref06_Round.l3, if_pos (by decide), if_pos (by decide), if_pos (by decide), if_pos (by decide), v01]
  rfl
theorem rl3_01 (k : Nat) (f s0 s1 s2 s3 t0 t1 t2 t3 m0 m1 m2 m3 : Int) : attestorref06_Round.l3 (k + 1) f 0 1 s0 s1 s2 s3 t0 t1 t2 t3 m0 m1 m2 m3 = (attestorref01_Mul.f f m1 s1).bind fun c => (attestorref01_Add.f f t0 c).bind fun v => attestorref06_Round.l3 k f 0 2 s0 s1 s2 s3 v t1 t2 t3 m0 m1 m2 m3 := by
  rw [attestorref06_Round.l3, if_pos (by decide), if_pos (by decide), if_pos (by decide), if_pos (by decide), v12]
  rfl
theorem rl3_02 (k : Nat) (f s0 s1 s2 s3 t0 t1 t2 t3 m0 m1 m2 m3 : Int) : attestorref06_Round.l3 (k + 1) f 0 2 s0 s1 s2 s3 t0 t1 t2 t3 m0 m1 m2 m3 = (attestorref01_Mul.f f m2 s2).bind fun c => (attestorref01_Add.f f t0 c).bind fun v => attestorref06_Round.l3 k f 0 3 s0 s1 s2 s3 v t1 t2 t3 m0 m1 m2 m3 := by
  rw [attestorref06_Round.l3, if_pos (by decide), if_pos (by decide), if_pos (by decide), if_pos (by decide), v23]
  rfl
theorem rl3_03 (k : Nat) (f s0 s1 s2 s3 t0 t1 t2 t3 m0 m1 m2 m3 : Int) : attestorref06_Round.l3 (k + 1) f 0 3 s0 s1 s2 s3 t0 t1 t2 t3 m0 m1 m2 m3 = (attestorref01_Mul.f f m3 s3).bind fun c => (attestorref01_Add.f f t0 c).bind fun v => attestorref06_Round.l3 k f 0 4 s0 s1 s2 s3 v t1 t2 t3 m0 m1 m2 m3 := by
  rw [attestorref06_Round.l3, if_pos (by decide), if_pos (by decide), if_pos (by decide), if_pos (by decide), v34]
  rfl
theorem rl3_04 (k : Nat) (f s0 s1 s2 s3 t0 t1 t2 t3 m0 m1 m2 m3 : Int) : attestorref06_Round.l3 (k + 1) f 0 4 s0 s1 s2 s3 t0 t1 t2 t3 m0 m1 m2 m3 = attestorref06_Round.l2 k f 1 s0 s1 s2 s3 t0 t1 t2 t3 := by
  rw [attestorref06_Round.l3, if_neg (by decide), v01]
theorem rl0_1 (k : Nat) (f r s0 s1 s2 s3 : Int) : attestorref06_Round.l0 (k + 1) f r 1 s0 s1 s2 s3 = (attestorref06_Constant.f k f r 1).bind fun c => (attestorref01_Add.f f s1 c).bind fun v => attestorref06_Round.l0 k f r 2 s0 v s2 s3 := by
  rw [attestorref06_Round.l0, if_pos (by decide), if_pos (by decide), v12]
  rfl
theorem rl1_1 (k : Nat) (f s0 s1 s2 s3 : Int) : attestorref06_Round.l1 (k + 1) f 1 s0 s1 s2 s3 = (attestorref01_Exponent.f k f).bind fun c => (attestorref01_Pow.f k f s1 (IntKind.u64.wrap c)).bind fun v => attestorref06_Round.l1 k f 2 s0 v s2 s3 := by
  rw [attestorref06_Round.l1, if_pos (by decide), if_pos (by decide), v12]
  rfl
theorem rl2_1 (k : Nat) (f s0 s1 s2 s3 t0 t1 t2 t3 : Int) : attestorref06_Round.l2 (k + 1) f 1 s0 s1 s2 s3 t0 t1 t2 t3 = (attestorref06_row.f 1).bind fun m => attestorref06_Round.l3 k f 1 0 s0 s1 s2 s3 t0 t1 t2 t3 m.1 m.2.1 m.2.2.1 m.2.2.2 := by
  rw [attestorref06_Round.l2, if_pos (by decide)]
theorem rl3_10 (k : Nat) (f s0 s1 s2 s3 t0 t1 t2 t3 m0 m1 m2 m3 : Int) : attestorref06_Round.l3 (k + 1) f 1 0 s0 s1 s2 s3 t0 t1 t2 t3 m0 m1 m2 m3 = (attestorref01_Mul.f f m0 s0).bind fun c => (attestorref01_Add.f f t1 c).bind fun v => attestorref06_Round.l3 k f 1 1 s0 s1 s2 s3 t0 v t2 t3 m0 m1 m2 m3 := by
  rw [attestorref06_Round.l3, if_pos (by decide), if_pos (by decide), if_pos (by decide), if_pos (by decide), v01]
  rfl
theorem rl3_11 (k : Nat) (f s0 s1 s2 s3 t0 t1 t2 t3 m0 m1 m2 m3 : Int) : attestorref06_Round.l3 (k + 1) f 1 1 s0 s1 s2 s3 t0 t1 t2 t3 m0 m1 m2 m3 = (attestorref01_Mul.f f m1 s1).bind fun c => (attestorref01_Add.f f t1 c).bind fun v => attestorref06_Round.l3 k f 1 2 s0 s1 s2 s3 t0 v t2 t3 m0 m1 m2 m3 := by
  rw [attestorref06_Round.l3, if_pos (by decide), if_pos (by decide), if_pos (by decide), if_pos (by decide), v12]
  rfl
theorem rl3_12 (k : Nat) (f s0 s1 s2 s3 t0 t1 t2 t3 m0 m1 m2 m3 : Int) : attestorref06_Round.l3 (k + 1) f 1 2 s0 s1 s2 s3 t0 t1 t2 t3 m0 m1 m2 m3 = (attestorref01_Mul.f f m2 s2).bind fun c => (attestorref01_Add.f f t1 c).bind fun v => attestorref06_Round.l3 k f 1 3 s0 s1 s2 s3 t0 v t2 t3 m0 m1 m2 m3 := by
  rw [attestorref06_Round.l3, if_pos (by decide), if_pos (by decide), if_pos (by decide), if_pos (by decide), v23]
  rfl
theorem rl3_13 (k : Nat) (f s0 s1 s2 s3 t0 t1 t2 t3 m0 m1 m2 m3 : Int) : attestorref06_Round.l3 (k + 1) f 1 3 s0 s1 s2 s3 t0 t1 t2 t3 m0 m1 m2 m3 = (attestorref01_Mul.f f m3 s3).bind fun c => (attestorref01_Add.f f t1 c).bind fun v => attestorref06_Round.l3 k f 1 4 s0 s1 s2 s3 t0 v t2 t3 m0 m1 m2 m3 := by
  rw [attestorref06_Round.l3, if_pos (by decide), if_pos (by decide), if_pos (by decide), if_pos (by decide), v34]
  rfl
theorem rl3_14 (k : Nat) (f s0 s1 s2 s3 t0 t1 t2 t3 m0 m1 m2 m3 : Int) : attestorref06_Round.l3 (k + 1) f 1 4 s0 s1 s2 s3 t0 t1 t2 t3 m0 m1 m2 m3 = attestorref06_Round.l2 k f 2 s0 s1 s2 s3 t0 t1 t2 t3 := by
  rw [attestorref06_Round.l3, if_neg (by decide), v12]
theorem rl0_2 (k : Nat) (f r s0 s1 s2 s3 : Int) : attestorref06_Round.l0 (k + 1) f r 2 s0 s1 s2 s3 = (attestorref06_Constant.f k f r 2).bind fun c => (attestorref01_Add.f f s2 c).bind fun v => attestorref06_Round.l0 k f r 3 s0 s1 v s3 := by
  rw [attestorref06_Round.l0, if_pos (by decide), if_pos (by decide), v23]
  rfl
theorem rl1_2 (k : Nat) (f s0 s1 s2 s3 : Int) : attestorref06_Round.l1 (k + 1) f 2 s0 s1 s2 s3 = (attestorref01_Exponent.f k f).bind fun c => (attestorref01_Pow.f k f s2 (IntKind.u64.wrap c)).bind fun v => attestorref06_Round.l1 k f 3 s0 s1 v s3 := by
  rw [attestorref06_Round.l1, if_pos (by decide), if_pos (by decide), v23]
  rfl
theorem rl2_2 (k : Nat) (f s0 s1 s2 s3 t0 t1 t2 t3 : Int) : attestorref06_Round.l2 (k + 1) f 2 s0 s1 s2 s3 t0 t1 t2 t3 = (attestorref06_row.f 2).bind fun m => attestorref06_Round.l3 k f 2 0 s0 s1 s2 s3 t0 t1 t2 t3 m.1 m.2.1 m.2.2.1 m.2.2.2 := by
  rw [attestorref06_Round.l2, if_pos (by decide)]
theorem rl3_20 (k : Nat) (f s0 s1 s2 s3 t0 t1 t2 t3 m0 m1 m2 m3 : Int) : attestorref06_Round.l3 (k + 1) f 2 0 s0 s1 s2 s3 t0 t1 t2 t3 m0 m1 m2 m3 = (attestorref01_Mul.f f m0 s0).bind fun c => (attestorref01_Add.f f t2 c).bind fun v => attestorref06_Round.l3 k f 2 1 s0 s1 s2 s3 t0 t1 v t3 m0 m1 m2 m3 := by
  rw [attestorref06_Round.l3, if_pos (by decide), if_pos (by decide), if_pos (by decide), if_pos (by decide), v01]
  rfl
theorem rl3_21 (k : Nat) (f s0 s1 s2 s3 t0 t1 t2 t3 m0 m1 m2 m3 : Int) : attestorref06_Round.l3 (k + 1) f 2 1 s0 s1 s2 s3 t0 t1 t2 t3 m0 m1 m2 m3 = (attestorref01_Mul.f f m1 s1).bind fun c => (attestorref01_Add.f f t2 c).bind fun v => attestorref06_Round.l3 k f 2 2 s0 s1 s2 s3 t0 t1 v t3 m0 m1 m2 m3 := by
  rw [attestorref06_Round.l3, if_pos (by decide), if_pos (by decide), if_pos (by decide), if_pos (by decide), v12]
  rfl
theorem rl3_22 (k : Nat) (f s0 s1 s2 s3 t0 t1 t2 t3 m0 m1 m2 m3 : Int) : attestorref06_Round.l3 (k + 1) f 2 2 s0 s1 s2 s3 t0 t1 t2 t3 m0 m1 m2 m3 = (attestorref01_Mul.f f m2 s2).bind fun c => (attestorref01_Add.f f t2 c).bind fun v => attestorref06_Round.l3 k f 2 3 s0 s1 s2 s3 t0 t1 v t3 m0 m1 m2 m3 := by
  rw [attestorref06_Round.l3, if_pos (by decide), if_pos (by decide), if_pos (by decide), if_pos (by decide), v23]
  rfl
theorem rl3_23 (k : Nat) (f s0 s1 s2 s3 t0 t1 t2 t3 m0 m1 m2 m3 : Int) : attestorref06_Round.l3 (k + 1) f 2 3 s0 s1 s2 s3 t0 t1 t2 t3 m0 m1 m2 m3 = (attestorref01_Mul.f f m3 s3).bind fun c => (attestorref01_Add.f f t2 c).bind fun v => attestorref06_Round.l3 k f 2 4 s0 s1 s2 s3 t0 t1 v t3 m0 m1 m2 m3 := by
  rw [attestorref06_Round.l3, if_pos (by decide), if_pos (by decide), if_pos (by decide), if_pos (by decide), v34]
  rfl
theorem rl3_24 (k : Nat) (f s0 s1 s2 s3 t0 t1 t2 t3 m0 m1 m2 m3 : Int) : attestorref06_Round.l3 (k + 1) f 2 4 s0 s1 s2 s3 t0 t1 t2 t3 m0 m1 m2 m3 = attestorref06_Round.l2 k f 3 s0 s1 s2 s3 t0 t1 t2 t3 := by
  rw [attestorref06_Round.l3, if_neg (by decide), v23]
theorem rl0_3 (k : Nat) (f r s0 s1 s2 s3 : Int) : attestorref06_Round.l0 (k + 1) f r 3 s0 s1 s2 s3 = (attestorref06_Constant.f k f r 3).bind fun c => (attestorref01_Add.f f s3 c).bind fun v => attestorref06_Round.l0 k f r 4 s0 s1 s2 v := by
  rw [attestorref06_Round.l0, if_pos (by decide), if_pos (by decide), v34]
  rfl
theorem rl1_3 (k : Nat) (f s0 s1 s2 s3 : Int) : attestorref06_Round.l1 (k + 1) f 3 s0 s1 s2 s3 = (attestorref01_Exponent.f k f).bind fun c => (attestorref01_Pow.f k f s3 (IntKind.u64.wrap c)).bind fun v => attestorref06_Round.l1 k f 4 s0 s1 s2 v := by
  rw [attestorref06_Round.l1, if_pos (by decide), if_pos (by decide), v34]
  rfl
theorem rl2_3 (k : Nat) (f s0 s1 s2 s3 t0 t1 t2 t3 : Int) : attestorref06_Round.l2 (k + 1) f 3 s0 s1 s2 s3 t0 t1 t2 t3 = (attestorref06_row.f 3).bind fun m => attestorref06_Round.l3 k f 3 0 s0 s1 s2 s3 t0 t1 t2 t3 m.1 m.2.1 m.2.2.1 m.2.2.2 := by
  rw [attestorref06_Round.l2, if_pos (by decide)]
theorem rl3_30 (k : Nat) (f s0 s1 s2 s3 t0 t1 t2 t3 m0 m1 m2 m3 : Int) : attestorref06_Round.l3 (k + 1) f 3 0 s0 s1 s2 s3 t0 t1 t2 t3 m0 m1 m2 m3 = (attestorref01_Mul.f f m0 s0).bind fun c => (attestorref01_Add.f f t3 c).bind fun v => attestorref06_Round.l3 k f 3 1 s0 s1 s2 s3 t0 t1 t2 v m0 m1 m2 m3 := by
  rw [attestorref06_Round.l3, if_pos (by decide), if_pos (by decide), if_pos (by decide), if_pos (by decide), v01]
  rfl
theorem rl3_31 (k : Nat) (f s0 s1 s2 s3 t0 t1 t2 t3 m0 m1 m2 m3 : Int) : attestorref06_Round.l3 (k + 1) f 3 1 s0 s1 s2 s3 t0 t1 t2 t3 m0 m1 m2 m3 = (attestorref01_Mul.f f m1 s1).bind fun c => (attestorref01_Add.f f t3 c).bind fun v => attestorref06_Round.l3 k f 3 2 s0 s1 s2 s3 t0 t1 t2 v m0 m1 m2 m3 := by
  rw [attestorref06_Round.l3, if_pos (by decide), if_pos (by decide), if_pos (by decide), if_pos (by decide), v12]
  rfl
theorem rl3_32 (k : Nat) (f s0 s1 s2 s3 t0 t1 t2 t3 m0 m1 m2 m3 : Int) : attestorref06_Round.l3 (k + 1) f 3 2 s0 s1 s2 s3 t0 t1 t2 t3 m0 m1 m2 m3 = (attestorref01_Mul.f f m2 s2).bind fun c => (attestorref01_Add.f f t3 c).bind fun v => attestorref06_Round.l3 k f 3 3 s0 s1 s2 s3 t0 t1 t2 v m0 m1 m2 m3 := by
  rw [attestorref06_Round.l3, if_pos (by decide), if_pos (by decide), if_pos (by decide), if_pos (by decide), v23]
  rfl
theorem rl3_33 (k : Nat) (f s0 s1 s2 s3 t0 t1 t2 t3 m0 m1 m2 m3 : Int) : attestorref06_Round.l3 (k + 1) f 3 3 s0 s1 s2 s3 t0 t1 t2 t3 m0 m1 m2 m3 = (attestorref01_Mul.f f m3 s3).bind fun c => (attestorref01_Add.f f t3 c).bind fun v => attestorref06_Round.l3 k f 3 4 s0 s1 s2 s3 t0 t1 t2 v m0 m1 m2 m3 := by
  rw [attestorref06_Round.l3, if_pos (by decide), if_pos (by decide), if_pos (by decide), if_pos (by decide), v34]
  rfl
theorem rl3_34 (k : Nat) (f s0 s1 s2 s3 t0 t1 t2 t3 m0 m1 m2 m3 : Int) : attestorref06_Round.l3 (k + 1) f 3 4 s0 s1 s2 s3 t0 t1 t2 t3 m0 m1 m2 m3 = attestorref06_Round.l2 k f 4 s0 s1 s2 s3 t0 t1 t2 t3 := by
  rw [attestorref06_Round.l3, if_neg (by decide), v34]
theorem rl0_4 (k : Nat) (f r s0 s1 s2 s3 : Int) : attestorref06_Round.l0 (k + 1) f r 4 s0 s1 s2 s3 = attestorref06_Round.l1 k f 0 s0 s1 s2 s3 := by
  rw [attestorref06_Round.l0, if_neg (by decide)]
theorem rl1_4 (k : Nat) (f s0 s1 s2 s3 : Int) : attestorref06_Round.l1 (k + 1) f 4 s0 s1 s2 s3 = attestorref06_Round.l2 k f 0 s0 s1 s2 s3 0 0 0 0 := by
  rw [attestorref06_Round.l1, if_neg (by decide)]
theorem rl2_4 (k : Nat) (f s0 s1 s2 s3 t0 t1 t2 t3 : Int) : attestorref06_Round.l2 (k + 1) f 4 s0 s1 s2 s3 t0 t1 t2 t3 = some (t0, t1, t2, t3) := by
  rw [attestorref06_Round.l2, if_neg (by decide)]
set_option maxRecDepth 100000 in
theorem rround_yes {f : Int} {p g e : Nat} (D : Fd f p g e) (k r : Nat) (hk : 120 < k) (hr : r < 8) (s : S4) : attestorref06_Round.f k f r s.a s.b s.c s.d = some (rn p g e (4 * r) (red p s)).o := by
  obtain ⟨k, rfl⟩ : ∃ j, k = j + 40 := ⟨k - 40, by omega⟩
  have c0 : ∀ k, 66 < k → attestorref06_Constant.f k f r 0 = some ((cst p g (4 * r + 1) : Nat) : Int) := fun k hk => rconst_yes D k r 0 hk hr (by omega)
  have c1 : ∀ k, 66 < k → attestorref06_Constant.f k f r 1 = some ((cst p g (4 * r + 2) : Nat) : Int) := fun k hk => rconst_yes D k r 1 hk hr (by omega)
  have c2 : ∀ k, 66 < k → attestorref06_Constant.f k f r 2 = some ((cst p g (4 * r + 3) : Nat) : Int) := fun k hk => rconst_yes D k r 2 hk hr (by omega)
  have c3 : ∀ k, 66 < k → attestorref06_Constant.f k f r 3 = some ((cst p g (4 * r + 4) : Nat) : Int) := fun k hk => rconst_yes D k r 3 hk hr (by omega)
  have he : e < 8 := by rcases D.e53 with h | h <;> omega
  have ex : ∀ k, 0 < k → attestorref01_Exponent.f k f = some (e : Int) := fun k hk => by
    obtain ⟨j, rfl⟩ : ∃ j, k = j + 1 := ⟨k - 1, by omega⟩
    rw [rexp_eq, D.exp]
  have rp : ∀ (k a : Nat), 10 < k → attestorref01_Pow.f k f a (IntKind.u64.wrap (e : Int)) = some ((a ^ e % p : Nat) : Int) := fun k a hk => by
    rw [wrapU (by omega)]
    exact rpow_f D.F 3 k a e (by omega) (by omega) (by omega)
  have ra : ∀ a b : Nat, attestorref01_Add.f f a b = some (((a + b) % p : Nat) : Int) := fun a b => radd_f D.F a b
  have ra0 : ∀ b : Nat, attestorref01_Add.f f 0 b = some (((0 + b) % p : Nat) : Int) := fun b => radd_f D.F 0 b
  have m1 : ∀ b : Nat, attestorref01_Mul.f f 1 b = some ((1 * b % p : Nat) : Int) := fun b => rmul_f D.F 1 b
  have m2 : ∀ b : Nat, attestorref01_Mul.f f 2 b = some ((2 * b % p : Nat) : Int) := fun b => rmul_f D.F 2 b
  have m3 : ∀ b : Nat, attestorref01_Mul.f f 3 b = some ((3 * b % p : Nat) : Int) := fun b => rmul_f D.F 3 b
  have w0 : attestorref06_row.f 0 = some (2, 3, 1, 1) := by simp [attestorref06_row.f]
  have w1 : attestorref06_row.f 1 = some (1, 2, 3, 1) := by simp [attestorref06_row.f]
  have w2 : attestorref06_row.f 2 = some (1, 1, 2, 3) := by simp [attestorref06_row.f]
  have w3 : attestorref06_row.f 3 = some (3, 1, 1, 2) := by simp [attestorref06_row.f]
  unfold attestorref06_Round.f
  refine bnd (rvalid_yes D.F) ?_
  rw [if_pos rfl, if_neg (by omega), decide_eq_false (by omega)]
  rw [attestorref06_Round.j0]
  rw [if_neg (by decide)]
  clear he
  rw [rl0_0]
  refine bnd (c0 _ (by omega)) (bnd (ra _ _) ?_)
  rw [rl0_1]
  refine bnd (c1 _ (by omega)) (bnd (ra _ _) ?_)
  rw [rl0_2]
  refine bnd (c2 _ (by omega)) (bnd (ra _ _) ?_)
  rw [rl0_3]
  refine bnd (c3 _ (by omega)) (bnd (ra _ _) ?_)
  rw [rl0_4]
  rw [rl1_0]
  refine bnd (ex _ (by omega)) (bnd (rp _ _ (by omega)) ?_)
  rw [rl1_1]
  refine bnd (ex _ (by omega)) (bnd (rp _ _ (by omega)) ?_)
  rw [rl1_2]
  refine bnd (ex _ (by omega)) (bnd (rp _ _ (by omega)) ?_)
  rw [rl1_3]
  refine bnd (ex _ (by omega)) (bnd (rp _ _ (by omega)) ?_)
  rw [rl1_4]
  rw [rl2_0]
  refine bnd w0 ?_
  rw [rl3_00]
  refine bnd (m2 _) (bnd (ra0 _) ?_)
  rw [rl3_01]
  refine bnd (m3 _) (bnd (ra _ _) ?_)
  rw [rl3_02]
  refine bnd (m1 _) (bnd (ra _ _) ?_)
  rw [rl3_03]
  refine bnd (m1 _) (bnd (ra _ _) ?_)
  rw [rl3_04]
  rw [rl2_1]
  refine bnd w1 ?_
  rw [rl3_10]
  refine bnd (m1 _) (bnd (ra0 _) ?_)
  rw [rl3_11]
  refine bnd (m2 _) (bnd (ra _ _) ?_)
  rw [rl3_12]
  refine bnd (m3 _) (bnd (ra _ _) ?_)
  rw [rl3_13]
  refine bnd (m1 _) (bnd (ra _ _) ?_)
  rw [rl3_14]
  rw [rl2_2]
  refine bnd w2 ?_
  rw [rl3_20]
  refine bnd (m1 _) (bnd (ra0 _) ?_)
  rw [rl3_21]
  refine bnd (m1 _) (bnd (ra _ _) ?_)
  rw [rl3_22]
  refine bnd (m2 _) (bnd (ra _ _) ?_)
  rw [rl3_23]
  refine bnd (m3 _) (bnd (ra _ _) ?_)
  rw [rl3_24]
  rw [rl2_3]
  refine bnd w3 ?_
  rw [rl3_30]
  refine bnd (m3 _) (bnd (ra0 _) ?_)
  rw [rl3_31]
  refine bnd (m1 _) (bnd (ra _ _) ?_)
  rw [rl3_32]
  refine bnd (m1 _) (bnd (ra _ _) ?_)
  rw [rl3_33]
  refine bnd (m2 _) (bnd (ra _ _) ?_)
  rw [rl3_34]
  rw [rl2_4]
  congr 1
  simp only [pm, S4.o, rn, mixd, red]
  generalize (s.a % p + cst p g (4 * r + 1)) ^ e % p = w
  generalize (s.b % p + cst p g (4 * r + 2)) ^ e % p = x
  generalize (s.c % p + cst p g (4 * r + 3)) ^ e % p = y
  generalize (s.d % p + cst p g (4 * r + 4)) ^ e % p = z
  simp only [Nat.zero_add, Nat.one_mul, Nat.mod_mod, Nat.add_mod_mod, Nat.mod_add_mod]
theorem rperm_l0 {f : Int} {p g e : Nat} (D : Fd f p g e) (s : S4) : ∀ (m n k : Nat), n + m = 8 → 120 + m < k → ∀ t : S4, red p t = prm p g e n (red p s) → (m = 0 → t = prm p g e n (red p s)) →
    attestorref06_Perm.l0 k f n t.a t.b t.c t.d = some (prm p g e 8 (red p s)).o := by
  intro m
  induction m with
  | zero =>
    intro n k hn hk t _ ht
    obtain rfl : n = 8 := by omega
    obtain ⟨k, rfl⟩ : ∃ j, k = j + 1 := ⟨k - 1, by omega⟩
    rw [attestorref06_Perm.l0, if_neg (by omega), ht rfl]
    rfl
  | succ m ih =>
    intro n k hn hk t ht _
    obtain ⟨k, rfl⟩ : ∃ j, k = j + 1 := ⟨k - 1, by omega⟩
    rw [attestorref06_Perm.l0, if_pos (by omega)]
    refine bnd (rround_yes D k n (by omega) (by omega) t) ?_
    rw [ht, ← prm_succ]
    simp only [S4.o]
    rw [wrapS (x := (n : Int) + 1) (by omega) (by omega), show ((n : Int) + 1) = ((n + 1 : Nat) : Int) from rfl]
    exact ih (n + 1) k (by omega) (by omega) _ (red_id (prm_lt D.pos g e (red p s) (red_lt D.pos s) (n + 1))) (fun _ => rfl)
theorem rPerm_f {f : Int} {p g e : Nat} (D : Fd f p g e) (k : Nat) (hk : 130 < k) (s : S4) : attestorref06_Perm.f k f s.a s.b s.c s.d = some (prm p g e 8 (red p s)).o := by
  unfold attestorref06_Perm.f
  refine bnd (rvalid_yes D.F) ?_
  rw [if_pos rfl]
  exact rperm_l0 D s 8 0 k rfl (by omega) s rfl (fun h => absurd h (by decide))
end Go.Proofs.YtpnpmeogffodgaaDoor.Q
end
section
namespace Go.Proofs.YtpnpmeogffodgaaDoor.Q
open Go.RowKit Go.Proofs.YtpnpmeogffodgaaDoorW.PrintWords Go.Proofs.YtpnpmeogffodgaaDoorW.PrintLast Go.Proofs.YtpnpmeogffodgaaDoorW.PrintMore
set_option linter.unusedVariables false
set_option linter.unusedSimpArgs false
/-- The place of the one bit of a power of two. -/
def lgI (n : Int) : Int := if n = 1 then 0 else if n = 2 then 1 else if n = 4 then 2 else if n = 8 then 3 else if n = 16 then 4 else if n = 32 then 5 else if n = 64 then 6 else if n = 128 then 7 else if n = 256 then 8 else if n = 512 then 9 else if n = 1024 then 10 else if n = 2048 then 11 else if n = 4096 then 12 else if n = 8192 then 13 else if n = 16384 then 14 else if n = 32768 then 15 else if n = 65536 then 16 else if n = 131072 then 17 else if n = 262144 then 18 else -1
theorem and_nat (n : Nat) (h : n < 1000000) (h1 : 1 ≤ n) : Go.bits .and .i64 (n : Int) (wrap64 ((n : Int) - 1)) = ((n &&& (n - 1) : Nat) : Int) := by
  have e : wrap64 ((n : Int) - 1) = ((n - 1 : Nat) : Int) := by unfold wrap64; omega
  rw [e]
  have h3 : n &&& (n - 1) ≤ n := Nat.and_le_left
  have hh : ∀ m : Nat, m < 1000000 → (BitVec.ofInt 64 (m : Int)).toNat = m := fun m hm => by
    rw [BitVec.ofInt_natCast, BitVec.toNat_ofNat]; exact Nat.mod_eq_of_lt (by omega)
  show IntKind.i64.wrap ((BitVec.ofInt 64 (n : Int) &&& BitVec.ofInt 64 ((n - 1 : Nat) : Int)).toNat : Int) = _
  rw [BitVec.toNat_and, hh n h, hh (n - 1) (by omega), IntKind.wrap_i64]
  omega
theorem pow_of_and : ∀ n : Nat, 0 < n → n &&& (n - 1) = 0 → ∃ k, n = 2 ^ k := by
  intro n
  induction n using Nat.strongRecOn with
  | ind n ih =>
    intro h0 h
    have hd := congrArg (· / 2) h
    simp only [Nat.and_div_two] at hd
    rcases Nat.mod_two_eq_zero_or_one n with e | e
    · have e1 : (n - 1) / 2 = n / 2 - 1 := by omega
      rw [e1] at hd
      obtain ⟨k, hk⟩ := ih (n / 2) (by omega) (by omega) (by simpa using hd)
      exact ⟨k + 1, by rw [Nat.pow_succ, ← hk]; omega⟩
    · have e1 : (n - 1) / 2 = n / 2 := by omega
      rw [e1, Nat.and_self] at hd
      exact ⟨0, by omega⟩
theorem tz64_calls (n : Int) (k idx : Nat) (w : World) (hx0 : (n == 0) = false)
    (key : IntKind.u64.wrap (Go.bits BinOp.and IntKind.u64 n (IntKind.u64.wrap (-n)) * 285870213051353865) / 288230376151711744 = (idx : Int))
    (hi : idx < 64) (hk : k < 64) (hcell : w.cell? ⟨1, idx, none⟩ = some (.int .u8 (k : Int))) :
    Calls Tryd.prog 69 #[.int .u64 n] w fun e w' => e = .returned (.int .i64 (k : Int)) ∧ w' = w := by
  have hu := Tryd.underlying100
  have hi2 : ((idx : Int) < 64) = True := eq_true (by omega)
  have hi3 : (0 ≤ (idx : Int)) = True := eq_true (by omega)
  go_enter Tryd.func69, Tryd.ntmps69
  go_wp2_with (simp only [key])
  go_ret
  exact ⟨rfl, rfl⟩
theorem tz_calls (n : Int) (k idx : Nat) (w : World) (hx0 : (n == 0) = false)
    (key : IntKind.u64.wrap (Go.bits BinOp.and IntKind.u64 n (IntKind.u64.wrap (-n)) * 285870213051353865) / 288230376151711744 = (idx : Int))
    (hi : idx < 64) (hk : k < 64) (hcell : w.cell? ⟨1, idx, none⟩ = some (.int .u8 (k : Int))) :
    Calls Tryd.prog 57 #[.int .u64 n] w fun e w' => e = .returned (.int .i64 (k : Int)) ∧ w' = w := by
  have C := Aside0.mk (tz64_calls n k idx w hx0 key hi hk hcell)
  clear key hcell hx0
  go_enter Tryd.func57, Tryd.ntmps57
  go_wp2_with (go_at_call 69; refine C.out.mono ?_; rintro e w' ⟨rfl, hw'⟩; rw [hw'])
  go_ret
  exact ⟨rfl, rfl⟩
/-- The nineteen powers of two. -/
theorem keys : ∀ k : Fin 19, IntKind.u64.wrap (Go.bits BinOp.and IntKind.u64 (2 ^ (k : Nat) : Nat) (IntKind.u64.wrap (-((2 ^ (k : Nat) : Nat) : Int))) * 285870213051353865) / 288230376151711744 = (((2 ^ (k : Nat) * 285870213051353865 % 18446744073709551616) / 288230376151711744 : Nat) : Int) ∧ (2 ^ (k : Nat) * 285870213051353865 % 18446744073709551616) / 288230376151711744 < 64 ∧ db64.getD ((2 ^ (k : Nat) * 285870213051353865 % 18446744073709551616) / 288230376151711744) 0 = ((k : Nat) : Int) ∧ lgI (2 ^ (k : Nat) : Nat) = ((k : Nat) : Int) := by decide +kernel
theorem tz_pow (k : Nat) (hk : k < 19) (w : World) (hG : GL w) : Calls Tryd.prog 57 #[.int .u64 ((2 ^ k : Nat) : Int)] w fun e w' => e = .returned (.int .i64 (k : Int)) ∧ w' = w := by
  obtain ⟨h1, h2, h3, _⟩ := keys ⟨k, hk⟩
  refine tz_calls _ k _ w ?_ h1 h2 (by omega) ?_
  · have := Nat.pow_pos (n := k) (show 0 < 2 by decide)
    exact beq_eq_false_iff_ne.mpr (by omega)
  · rw [hG.d64 _ h2, h3]
def tree_height.f (n : Int) : Option Int := some (if n < 1 then -1 else lgI n)
theorem lgI_none (n : Int) (h : ∀ k : Nat, k < 19 → n ≠ ((2 ^ k : Nat) : Int)) : lgI n = -1 := by
  have a0 : n ≠ 1 := h 0 (by omega)
  have a1 : n ≠ 2 := h 1 (by omega)
  have a2 : n ≠ 4 := h 2 (by omega)
  have a3 : n ≠ 8 := h 3 (by omega)
  have a4 : n ≠ 16 := h 4 (by omega)
  have a5 : n ≠ 32 := h 5 (by omega)
  have a6 : n ≠ 64 := h 6 (by omega)
  have a7 : n ≠ 128 := h 7 (by omega)
  have a8 : n ≠ 256 := h 8 (by omega)
  have a9 : n ≠ 512 := h 9 (by omega)
  have a10 : n ≠ 1024 := h 10 (by omega)
  have a11 : n ≠ 2048 := h 11 (by omega)
  have a12 : n ≠ 4096 := h 12 (by omega)
  have a13 : n ≠ 8192 := h 13 (by omega)
  have a14 : n ≠ 16384 := h 14 (by omega)
  have a15 : n ≠ 32768 := h 15 (by omega)
  have a16 : n ≠ 65536 := h 16 (by omega)
  have a17 : n ≠ 131072 := h 17 (by omega)
  have a18 : n ≠ 262144 := h 18 (by omega)
  unfold lgI
  rw [if_neg a0, if_neg a1, if_neg a2, if_neg a3, if_neg a4, if_neg a5, if_neg a6, if_neg a7, if_neg a8, if_neg a9, if_neg a10, if_neg a11, if_neg a12, if_neg a13, if_neg a14, if_neg a15, if_neg a16, if_neg a17, if_neg a18]
theorem height_no (n : Int) (w : World) (h : n < 1 ∨ 262144 < n ∨ (1 ≤ n ∧ n ≤ 262144 ∧ Go.bits .and .i64 n (wrap64 (n - 1)) ≠ 0)) : Calls Tryd.prog 37 #[.int .i64 n] w fun e w' => e = .returned (.int .i64 (-1)) ∧ w' = w := by
  rcases h with h | h | ⟨h1, h2, h3⟩
  · have c0 : decide (n < 1) = true := decide_eq_true h
    clear h
    go_enter Tryd.func37, Tryd.ntmps37
    go_wp2
    go_ret
    exact ⟨rfl, rfl⟩
  · have c0 : decide (n < 1) = false := decide_eq_false (by omega)
    have c1 : decide (262144 < n) = true := decide_eq_true h
    clear h
    go_enter Tryd.func37, Tryd.ntmps37
    go_wp2
    go_ret
    exact ⟨rfl, rfl⟩
  · have c0 : decide (n < 1) = false := decide_eq_false (by omega)
    have c1 : decide (262144 < n) = false := decide_eq_false (by omega)
    have c2 : (Go.bits .and .i64 n (wrap64 (n - 1)) == 0) = false := beq_eq_false_iff_ne.mpr h3
    clear h1 h2 h3
    go_enter Tryd.func37, Tryd.ntmps37
    go_wp2
    go_ret
    exact ⟨rfl, rfl⟩
theorem height_yes (n : Int) (k : Nat) (w : World) (c0 : decide (n < 1) = false) (c1 : decide (262144 < n) = false) (c2 : (Go.bits .and .i64 n (wrap64 (n - 1)) == 0) = true) (hw : IntKind.u64.wrap n = n)
    (C : Aside0 (Calls Tryd.prog 57 #[.int .u64 n] w fun e w' => e = .returned (.int .i64 (k : Int)) ∧ w' = w)) : Calls Tryd.prog 37 #[.int .i64 n] w fun e w' => e = .returned (.int .i64 (k : Int)) ∧ w' = w := by
  go_enter Tryd.func37, Tryd.ntmps37
  go_wp2_with (first | (simp only [hw]; done) | (go_at_call 57; (try simp only [hw]); refine C.out.mono ?_; rintro e w' ⟨rfl, hw'⟩; rw [hw']))
  go_ret
  exact ⟨rfl, rfl⟩
theorem height_pow (k : Nat) (hk : k < 19) (w : World) (hG : GL w) : Calls Tryd.prog 37 #[.int .i64 ((2 ^ k : Nat) : Int)] w fun e w' => e = .returned (.int .i64 (k : Int)) ∧ w' = w := by
  have hp := Nat.pow_pos (n := k) (show 0 < 2 by decide)
  have hq : 2 ^ k ≤ 2 ^ 18 := Nat.pow_le_pow_right (by decide) (by omega)
  have e3 : ((2 ^ k : Nat) &&& (2 ^ k - 1)) = 0 := by rw [Nat.and_two_pow_sub_one_eq_mod, Nat.mod_self]
  have e4 := and_nat (2 ^ k) (by omega) hp
  rw [e3] at e4
  refine height_yes _ k w (decide_eq_false (by omega)) (decide_eq_false (by omega)) (by rw [e4]; rfl) ?_ ⟨tz_pow k hk w hG⟩
  rw [IntKind.wrap_u64]
  omega
theorem tree_height.calls (a0 : Int) (r : Int) (w : World) (hrG : GL w) (h : tree_height.f a0 = some r) : Calls Tryd.prog 37 #[.int .i64 a0] w fun e w' => e = .returned (.int .i64 r) ∧ Below w.heap.size w w' := by
  have fin : ∀ {x : Int}, x = r → (Calls Tryd.prog 37 #[.int .i64 a0] w fun e w' => e = .returned (.int .i64 x) ∧ w' = w) → Calls Tryd.prog 37 #[.int .i64 a0] w fun e w' => e = .returned (.int .i64 r) ∧ Below w.heap.size w w' := by
    intro x e c
    subst e
    refine c.mono ?_
    rintro e w' ⟨rfl, rfl⟩
    exact ⟨rfl, Below.refl _ _⟩
  obtain rfl := Option.some.inj h
  clear h
  by_cases h0 : a0 < 1
  · exact fin (by rw [if_pos h0]) (height_no a0 w (.inl h0))
  · rw [if_neg h0] at fin ⊢
    by_cases hp : ∃ k : Nat, k < 19 ∧ a0 = ((2 ^ k : Nat) : Int)
    · obtain ⟨k, hk, rfl⟩ := hp
      exact fin (keys ⟨k, hk⟩).2.2.2.symm (height_pow k hk w hrG)
    · have hn : lgI a0 = -1 := lgI_none a0 fun k hk e => hp ⟨k, hk, e⟩
      refine fin hn.symm (height_no a0 w ?_)
      by_cases h1 : 262144 < a0
      · exact .inr (.inl h1)
      · refine .inr (.inr ⟨by omega, by omega, fun hz => ?_⟩)
        obtain ⟨n, rfl⟩ := Int.eq_ofNat_of_zero_le (show 0 ≤ a0 by omega)
        rw [and_nat n (by omega) (by omega)] at hz
        obtain ⟨k, hk⟩ := pow_of_and n (by omega) (by omega)
        subst hk
        refine hp ⟨k, ?_, rfl⟩
        rcases Nat.lt_or_ge k 19 with h | h
        · exact h
        · have := Nat.pow_le_pow_right (show 0 < 2 by decide) h
          omega
end Go.Proofs.YtpnpmeogffodgaaDoor.Q
end
section
namespace Go.Proofs.YtpnpmeogffodgaaDoor.Q
open Go.RowKit Go.Proofs.YtpnpmeogffodgaaDoorW.PrintWords Go.Proofs.YtpnpmeogffodgaaDoorW.PrintLast Go.Proofs.YtpnpmeogffodgaaDoorW.PrintMore
attribute [local go_sem] max2_int min2_int max_two min_two max_three min_three max_four min_four run_store_fnV run_store_fnc run_store_nfn   -- for this text's walks alone
set_option linter.unusedVariables false
set_option linter.unusedSimpArgs false

/-! ### attestorlaw07_cut: function 12 -/
def attestorlaw07_cut.f (l0 : List (S36)) (a1 : Int) : Option ((List (S36))) := if 0 ≤ (mn (l0.length : Int) a1) then (if (mn (l0.length : Int) a1) ≤ (l0.length : Int) then ((some (l0.take ((mn (l0.length : Int) a1) : Int).toNat : List (S36))).bind fun y101 => (if ([] : List (S36)).length + y101.length < 8796093022208 then (some (([] : List (S36)) ++ y101)) else (none))) else (none)) else (none)
set_option maxHeartbeats 8000000 in
set_option maxRecDepth 100000 in
theorem attestorlaw07_cut.calls (A0 : Option Addr) (c0 : Nat) (l0 : List (S36)) (a1 : Int) (r : List (S36)) (w : World) (hr0 : Kd.C k36 w A0 l0.length l0) (hc0 : l0.length ≤ c0) (h : attestorlaw07_cut.f l0 a1 = some r) :
    Calls Tryd.prog 12 #[.slice A0 l0.length c0, .int .i64 a1] w fun e w' => ∃ v0_ : Value, e = .returned (v0_) ∧ Kd.R k36 36 w' w.heap.size (fun _ => True) v0_ r ∧ Below w.heap.size w w' := by
  have HR0 := Aside0.mk hr0
  have HC0 := Aside0.mk hc0
  clear hr0 hc0
  have HB := Aside0.mk (Below.refl w.heap.size w)
  have H : (if 0 ≤ (mn (l0.length : Int) a1) then (if (mn (l0.length : Int) a1) ≤ (l0.length : Int) then ((some (l0.take ((mn (l0.length : Int) a1) : Int).toNat : List (S36))).bind fun y101 => (if ([] : List (S36)).length + y101.length < 8796093022208 then (some (([] : List (S36)) ++ y101)) else (none))) else (none)) else (none)) = some r := h
  clear h
  obtain ⟨ji3, hji3⟩ : ∃ j_ : Int, (mn (l0.length : Int) a1) = j_ := ⟨_, rfl⟩
  replace H : (if 0 ≤ (ji3) then (if (ji3) ≤ (l0.length : Int) then ((some (l0.take ((ji3) : Int).toNat : List (S36))).bind fun y101 => (if ([] : List (S36)).length + y101.length < 8796093022208 then (some (([] : List (S36)) ++ y101)) else (none))) else (none)) else (none)) = some r := by first | (rw [hji3] at H; exact H) | (simp only [hji3] at H ⊢; exact H)
  have hji3_ : (if a1 < (l0.length : Int) then a1 else (l0.length : Int)) = ji3 := hji3
  by_cases c4 : 0 ≤ (ji3)
  · rw [if_pos c4] at H
    have c4b0 := eq_true c4
    have c4b1 : decide (0 ≤ (ji3)) = true := decide_eq_true c4
    clear c4
    by_cases c5 : (ji3) ≤ (l0.length : Int)
    · rw [if_pos c5] at H
      have c5b0 := eq_true c5
      have c5b1 : decide ((ji3) ≤ (l0.length : Int)) = true := decide_eq_true c5
      clear c5
      obtain ⟨y101, hy101⟩ : ∃ y_ : List (S36), y_ = (l0.take ((ji3) : Int).toNat) := ⟨_, rfl⟩
      replace H : (if ([] : List (S36)).length + y101.length < 8796093022208 then (some (([] : List (S36)) ++ y101)) else (none)) = some r := by first | (rw [hy101]; with_reducible exact H) | (have H2_ := (Option.bind_some _ _).symm.trans H; rw [hy101]; with_reducible exact H2_) | (have H2_ := (Option.bind_some _ _).symm.trans H; with_reducible exact H2_) | with_reducible exact H | (rw [hy101]; exact H) | exact H
      have Ny101 := Aside0.mk hy101
      clear hy101
      by_cases c6 : ([] : List (S36)).length + y101.length < 8796093022208
      · rw [if_pos c6] at H
        have LMc6 := Aside0.mk c6
        clear c6
        obtain ⟨y105, hy105⟩ : ∃ y_ : List (S36), y_ = (([] : List (S36)) ++ y101) := ⟨_, rfl⟩
        replace H : (some y105) = some r := by first | (rw [hy105]; with_reducible exact H) | (have H2_ := (Option.bind_some _ _).symm.trans H; rw [hy105]; with_reducible exact H2_) | (have H2_ := (Option.bind_some _ _).symm.trans H; with_reducible exact H2_) | with_reducible exact H | (rw [hy105]; exact H) | exact H
        have Ny105 := Aside0.mk hy105
        clear hy105
        obtain rfl := Option.some.inj H
        have q7 : ((ji3) : Int) ≤ ((l0.length : Int) : Int) := of_decide_eq_true (by first | (with_reducible assumption) | assumption)
        obtain ⟨i07, hi07, _, hsz7, _⟩ := info_parts info36
        have hroom7 : l0.length ≤ c0 := HC0.out
        have hC7 : Kd.C k36 _ A0 l0.length l0 := HR0.out
        have hcut7 := cut_to (P := Tryd.prog) 22 36 .i64 Tryd.underlying22 hi07 A0 l0.length c0 (ji3) (of_decide_eq_true (by first | (with_reducible assumption) | assumption)) q7 hroom7
        have hr7 := Kd.C_take (m := ((ji3) : Int).toNat) hC7 (by omega)
        have hy7 : y101.length = ((ji3) : Int).toNat := (by rw [Ny101.out, List.length_take]; omega)
        rw [← Ny101.out] at hr7
        rw [← hy7] at hcut7
        have HR104 := Aside0.mk hr7
        have HC104 := Aside0.mk (show y101.length ≤ c0 from by omega)
        clear hr7 hC7 hroom7 hi07 hsz7
        have KY7 := Aside0.mk hy7
        clear hy7
        replace q7 := eq_true q7
        go_enter Tryd.func12, Tryd.ntmps12
        go_wp2_with (first | ((with_reducible refine gate_builtin (b := .append) (xs := #[.tmp 6, .tmp 12]) rfl ?_); at_builtin; refine Kd.R_append_rows k36 (w0 := w) w.heap.size rfl (.tmp 6) (.tmp 12) 22 36 (.agg #[(.int .u64 0), (.int .u64 0)]) 16 rfl Tryd.underlying22 info36 rfl (by decide) (by omega) (.slice none 0 0) ([] : List (S36)) y101 _ _ _ (fun _ => True) (fun _ => False) rfl rfl ?aO ?aR (fun _ _ h => h) (fun _ h => h.elim) ?aF ?aB ?aS ?aL ?_; (case aR => repeat (first | exact HR104.out | (with_reducible refine Kd.C_alloc ?_ _) | (with_reducible refine Kd.C_drewN ?_ _) | (with_reducible refine Kd.C_drew ?_))); (case aB => exact (by repeat (first | (with_reducible first | exact HB.out | apply below_alloc | apply pw_below_drewN | apply below_drew1) | exact HB.out))); (case aF => exact (fun _ _ => trivial)); (case aO => exact ((Kd.R_nil _ _ _ _ (fun _ => True)))); (case aS => exact (below_size (by repeat (first | (with_reducible first | exact HB.out | apply below_alloc | apply pw_below_drewN | apply below_drew1) | exact HB.out)))); (case aL => have := LMc6.out; omega); intro v106 w8 ho hb hg hat; rw [← Ny105.out] at ho; have n0_ := Aside0.mk (hb); have n1_ := Aside0.mk (ho); clear HB; have HB := n0_; have HO107 := n1_; clear n0_ n1_; clear ho hb hg hat))
        go_ret
        exact ⟨_, by first | rfl | (simp [errW_none, errW_some] <;> rfl) | (simp only [← hji3]; first | rfl | (simp [errW_none, errW_some] <;> rfl)) | (simp [*, errW_none, errW_some] <;> rfl), by (with_reducible repeat (first | apply Kd.R_alloc | apply Kd.R_drewN | apply Kd.R_drew)); exact HO107.out, by repeat (first | (with_reducible first | exact HB.out | apply below_alloc | apply pw_below_drewN | apply below_drew1) | exact HB.out)⟩
      · rw [if_neg c6] at H
        exact absurd H (by simp)
    · rw [if_neg c5] at H
      exact absurd H (by simp)
  · rw [if_neg c4] at H
    exact absurd H (by simp)

-- NOT PRINTED: function 68 (bits_TrailingZeros32)

-- NOT PRINTED: function 69 (bits_TrailingZeros64)

-- NOT PRINTED: function 57 (bits_TrailingZeros)

end Go.Proofs.YtpnpmeogffodgaaDoor.Q
end
section
namespace Go.Proofs.YtpnpmeogffodgaaDoor.Q
open Go.RowKit Go.Proofs.YtpnpmeogffodgaaDoorW.PrintWords Go.Proofs.YtpnpmeogffodgaaDoorW.PrintLast Go.Proofs.YtpnpmeogffodgaaDoorW.PrintMore
section
variable {P : Program} {d : Nat} {xs ys : Array Value} {e : TypeId} {c j : Nat} {js : List Nat} {a b : Value} {r s : Bool} {w : World}
theorem eqi_last (ha : (part e xs (j * c)).run P w = .ok a w) (hb : (part e ys (j * c)).run P w = .ok b w) (he : (Op.equalIn d e a b).run P w = .ok r w) : (Op.eqItems d e c xs ys [j]).run P w = .ok r w := by
  simp only [Op.eqItems, Sem.run_bind, ha, hb, he, Result.andThen_ok]
  cases r <;> simp
theorem eqi_cons (ha : (part e xs (j * c)).run P w = .ok a w) (hb : (part e ys (j * c)).run P w = .ok b w) (he : (Op.equalIn d e a b).run P w = .ok r w) (hr : (Op.eqItems d e c xs ys js).run P w = .ok s w) : (Op.eqItems d e c xs ys (j :: js)).run P w = .ok (r && s) w := by
  simp only [Op.eqItems, Sem.run_bind, ha, hb, he, Result.andThen_ok]
  cases r
  · simp
  · simpa using hr
theorem eqarr_of {t : TypeId} {n : Nat} {l : List Nat} (hu : P.underlying t = some (.array n e)) (hi : (P.info? e).isSome = true) (hc : P.cellsOf e = c) (hl : List.range n = l) (h : (Op.eqItems d e c xs ys l).run P w = .ok r w) : (Op.equalIn (d + 1) t (.agg xs) (.agg ys)).run P w = .ok r w := by
  obtain ⟨i, hi⟩ := Option.isSome_iff_exists.mp hi
  rw [Go.run_equalIn_array w d xs ys hu hi, hc, hl]
  exact h
end
end Go.Proofs.YtpnpmeogffodgaaDoor.Q
end
section
namespace Go.Proofs.YtpnpmeogffodgaaDoor.Q
open Go.RowKit Go.Proofs.YtpnpmeogffodgaaDoorW.PrintWords Go.Proofs.YtpnpmeogffodgaaDoorW.PrintLast Go.Proofs.YtpnpmeogffodgaaDoorW.PrintMore
attribute [local go_sem] max2_int min2_int max_two min_two max_three min_three max_four min_four run_store_fnV run_store_fnc run_store_nfn   -- for this text's walks alone
set_option linter.unusedVariables false
set_option linter.unusedSimpArgs false

theorem eqA36 (d : Nat) (w : World) (x0 y0 : Int) (x1 y1 : Int) :
    (Op.equalIn (d + 2) 36 (.agg #[.int .u64 x0, .int .u64 x1]) (.agg #[.int .u64 y0, .int .u64 y1])).run Tryd.prog w = .ok (x0 == y0 && (x1 == y1)) w := by
  refine eqarr_of (c := 1) (l := [0, 1]) Tryd.underlying36 (by kernel_rfl) (by kernel_rfl) (by rfl) ?_
  refine eqi_cons (by go_simp; rfl) (by go_simp; rfl) (by go_simp) ?_
  exact eqi_last (by go_simp; rfl) (by go_simp; rfl) (by go_simp)
end Go.Proofs.YtpnpmeogffodgaaDoor.Q
end
section
namespace Go.Proofs.YtpnpmeogffodgaaDoor.Q
open Go.RowKit Go.Proofs.YtpnpmeogffodgaaDoorW.PrintWords Go.Proofs.YtpnpmeogffodgaaDoorW.PrintLast Go.Proofs.YtpnpmeogffodgaaDoorW.PrintMore
attribute [local go_sem] max2_int min2_int max_two min_two max_three min_three max_four min_four run_store_fnV run_store_fnc run_store_nfn   -- for this text's walks alone
set_option linter.unusedVariables false
set_option linter.unusedSimpArgs false

attribute [local go_sem high] eqA36
/-! ### attestorref07_Equal: function 18 -/
def attestorref07_Equal.l0 : Nat → List (S36) → List (S36) → Int → Option (Bool)
  | 0, _, _, _ => none
  | k + 1, x0, x1, x5 => if x5 < (x0.length : Int) then (if 0 ≤ x5 then (if x5 < (x1.length : Int) then (if (!(((rd_T36 x0 x5).f0) == ((rd_T36 x1 x5).f0)) || (!(((rd_T36 x0 x5).f1) == ((rd_T36 x1 x5).f1)))) = true then (some false) else (attestorref07_Equal.l0 k x0 x1 (wrap64 (x5 + 1)))) else (none)) else (none)) else (some true)
def attestorref07_Equal.f (k : Nat) (l0 : List (S36)) (l1 : List (S36)) : Option (Bool) := if (l0.length : Int) = (l1.length : Int) then (attestorref07_Equal.l0 k l0 l1 0) else (some false)
theorem attestorref07_Equal.mono_l : ∀ k, (∀ y0 y1 y2, LeO (attestorref07_Equal.l0 k y0 y1 y2) (attestorref07_Equal.l0 (k + 1) y0 y1 y2))
  | 0 => fun _ _ _ r h => by simp [attestorref07_Equal.l0] at h
  | k + 1 => by
    have ih0 := attestorref07_Equal.mono_l k
    · intro y0 y1 y2
      unfold attestorref07_Equal.l0
      repeat' first
      | (with_reducible exact ih0 _ _ _)
      | (with_reducible exact LeO.refl _)
      | (with_reducible exact LeO.none _)
      | (with_reducible refine LeO.ite ?_ ?_)
      | (with_reducible refine LeO.bind ?_ (fun _ => ?_))
      | exact ih0 _ _ _
      | exact LeO.none _
      | refine LeO.ite ?_ ?_
      | refine LeO.bind ?_ (fun _ => ?_)
theorem attestorref07_Equal.mono : ∀ a0 a1 k, LeO (attestorref07_Equal.f k a0 a1) (attestorref07_Equal.f (k + 1) a0 a1) := by
  intro a0 a1 k
  have ih0 := attestorref07_Equal.mono_l k
  unfold attestorref07_Equal.f
  repeat' first
      | (with_reducible exact ih0 _ _ _)
      | (with_reducible exact LeO.refl _)
      | (with_reducible exact LeO.none _)
      | (with_reducible refine LeO.ite ?_ ?_)
      | (with_reducible refine LeO.bind ?_ (fun _ => ?_))
      | exact ih0 _ _ _
      | exact LeO.none _
      | refine LeO.ite ?_ ?_
      | refine LeO.bind ?_ (fun _ => ?_)
set_option maxHeartbeats 8000000 in
set_option maxRecDepth 100000 in
theorem attestorref07_Equal.calls (k : Nat) (A0 : Option Addr) (c0 : Nat) (l0 : List (S36)) (A1 : Option Addr) (c1 : Nat) (l1 : List (S36)) (r : Bool) (w : World) (hr0 : Kd.C k36 w A0 l0.length l0) (hc0 : l0.length ≤ c0) (hr1 : Kd.C k36 w A1 l1.length l1) (hc1 : l1.length ≤ c1) (h : attestorref07_Equal.f k l0 l1 = some r) :
    Calls Tryd.prog 18 #[.slice A0 l0.length c0, .slice A1 l1.length c1] w fun e w' => e = .returned (.bool r) ∧ Drawn0 w w' := by
  have hu36 := Tryd.underlying36
  have HR0 := Aside0.mk hr0
  have HC0 := Aside0.mk hc0
  clear hr0 hc0
  have HR1 := Aside0.mk hr1
  have HC1 := Aside0.mk hc1
  clear hr1 hc1
  have H : (if (l0.length : Int) = (l1.length : Int) then (attestorref07_Equal.l0 k l0 l1 0) else (some false)) = some r := h
  clear h
  by_cases c3 : (l0.length : Int) = (l1.length : Int)
  · rw [if_pos c3] at H
    have c3b0 : ((l0.length : Int) == (l1.length : Int)) = true := beq_iff_eq.mpr c3
    have c3b1 : ((l0.length : Int) != (l1.length : Int)) = false := bne_eq_false_iff_eq.mpr c3
    have c3b2 : (l0.length == l1.length) = true := by first | simpa using c3 | (simp at c3 ⊢; omega)
    clear c3
    have H' := Aside0.mk H
    clear H
    go_enter Tryd.func18, Tryd.ntmps18
    go_wp2
    repeat (go_quiet (fail); try go_wp2)
    go_loopg [5] k (fun kq v5 w' => ∃ (x5_1 : Int), v5 = .int .i64 x5_1 ∧ Aside0 (attestorref07_Equal.l0 kq l0 l1 x5_1 = some r) ∧ Aside0 (kq ≤ k) ∧ Drawn0 w w')
    case atStart => exact ⟨(0), (by first | rfl | (simp; done) | (simp [*]; done) | (simp; rfl) | (simp; decide +kernel)), H', ⟨Nat.le_refl _⟩, by repeat (first | exact Drawn0.refl _ | apply Drawn0.step)⟩
    case round =>
      clear H'
      try clear c1
      try clear p2
      try clear c3
      try clear c3b0
      try clear c3b1
      try clear c3b2
      obtain ⟨x5_1, rfl, HA, HK1, ⟨m1, rfl⟩⟩ := hrel
      cases gk with
      | zero => exact absurd HA.out (by simp [attestorref07_Equal.l0])
      | succ k1 =>
        have H := HA.out
        clear HA
        simp only [attestorref07_Equal.l0] at H
        by_cases c4 : x5_1 < (l0.length : Int)
        · rw [if_pos c4] at H
          have c4b0 : decide (x5_1 < (l0.length : Int)) = true := decide_eq_true c4
          clear c4
          by_cases c5 : 0 ≤ x5_1
          · rw [if_pos c5] at H
            have c5b0 : decide (0 ≤ x5_1) = true := decide_eq_true c5
            clear c5
            by_cases c6 : x5_1 < (l1.length : Int)
            · rw [if_pos c6] at H
              have c6b0 : decide (x5_1 < (l1.length : Int)) = true := decide_eq_true c6
              clear c6
              by_cases c7 : (!(((rd_T36 l0 x5_1).f0) == ((rd_T36 l1 x5_1).f0)) || (!(((rd_T36 l0 x5_1).f1) == ((rd_T36 l1 x5_1).f1)))) = true
              · rw [if_pos c7] at H
                have c7b0 : (!(((rd_T36 l0 x5_1).f0) == ((rd_T36 l1 x5_1).f0)) || (!(((rd_T36 l0 x5_1).f1) == ((rd_T36 l1 x5_1).f1)))) = true := c7
                clear c7
                obtain rfl := Option.some.inj H
                have p151 : 0 ≤ (x5_1 : Int) := of_decide_eq_true (by first | (with_reducible assumption) | assumption)
                have q151 : x5_1 < (l0.length : Int) := of_decide_eq_true (by first | (with_reducible assumption) | assumption)
                obtain ⟨ad151, e151, hx151_0, hx151_1⟩ := at_T36 HR0.out x5_1 p151 q151
                cases e151
                replace p151 := eq_true p151
                replace q151 := eq_true q151
                have p152 : 0 ≤ (x5_1 : Int) := of_decide_eq_true (by first | (with_reducible assumption) | assumption)
                have q152 : x5_1 < (l1.length : Int) := of_decide_eq_true (by first | (with_reducible assumption) | assumption)
                obtain ⟨ad152, e152, hx152_0, hx152_1⟩ := at_T36 HR1.out x5_1 p152 q152
                cases e152
                replace p152 := eq_true p152
                replace q152 := eq_true q152
                go_wp2
                repeat (go_quiet (fail); try go_wp2)
                go_ret
                exact ⟨by first | rfl | (simp; done) | (simp [*]; done), by repeat (first | exact Drawn0.refl _ | apply Drawn0.step)⟩
              · rw [if_neg c7] at H
                have c7b0 : (!(((rd_T36 l0 x5_1).f0) == ((rd_T36 l1 x5_1).f0)) || (!(((rd_T36 l0 x5_1).f1) == ((rd_T36 l1 x5_1).f1)))) = false := by simpa using c7
                clear c7
                have H' := Aside0.mk H
                clear H
                have p151 : 0 ≤ (x5_1 : Int) := of_decide_eq_true (by first | (with_reducible assumption) | assumption)
                have q151 : x5_1 < (l0.length : Int) := of_decide_eq_true (by first | (with_reducible assumption) | assumption)
                obtain ⟨ad151, e151, hx151_0, hx151_1⟩ := at_T36 HR0.out x5_1 p151 q151
                cases e151
                replace p151 := eq_true p151
                replace q151 := eq_true q151
                have p152 : 0 ≤ (x5_1 : Int) := of_decide_eq_true (by first | (with_reducible assumption) | assumption)
                have q152 : x5_1 < (l1.length : Int) := of_decide_eq_true (by first | (with_reducible assumption) | assumption)
                obtain ⟨ad152, e152, hx152_0, hx152_1⟩ := at_T36 HR1.out x5_1 p152 q152
                cases e152
                replace p152 := eq_true p152
                replace q152 := eq_true q152
                go_wp2
                repeat (go_quiet (fail); try go_wp2)
                go_roundg k1
                case measure => have := HK1.out; omega
                case rel => exact ⟨(wrap64 (x5_1 + 1)), (by first | rfl | (simp; done) | (simp [*]; done) | (simp; rfl) | (simp; decide +kernel)), H', ⟨by have := HK1.out; omega⟩, by repeat (first | exact Drawn0.refl _ | apply Drawn0.step)⟩
            · rw [if_neg c6] at H
              exact absurd H (by simp)
          · rw [if_neg c5] at H
            exact absurd H (by simp)
        · rw [if_neg c4] at H
          have c4b0 : decide (x5_1 < (l0.length : Int)) = false := decide_eq_false c4
          clear c4
          obtain rfl := Option.some.inj H
          go_wp2
          repeat (go_quiet (fail); try go_wp2)
          go_ret
          exact ⟨by first | rfl | (simp; done) | (simp [*]; done), by repeat (first | exact Drawn0.refl _ | apply Drawn0.step)⟩
  · rw [if_neg c3] at H
    have c3b0 : ((l0.length : Int) == (l1.length : Int)) = false := beq_eq_false_iff_ne.mpr c3
    have c3b1 : ((l0.length : Int) != (l1.length : Int)) = true := bne_iff_ne.mpr c3
    have c3b2 : (l0.length == l1.length) = false := by first | simpa using c3 | (simp at c3 ⊢; omega)
    obtain rfl := Option.some.inj H
    go_enter Tryd.func18, Tryd.ntmps18
    go_wp2
    repeat (go_quiet (fail); try go_wp2)
    go_ret
    exact ⟨by first | rfl | (simp; done) | (simp [*]; done), by repeat (first | exact Drawn0.refl _ | apply Drawn0.step)⟩

end Go.Proofs.YtpnpmeogffodgaaDoor.Q
end
section
namespace Go.Proofs.YtpnpmeogffodgaaDoor.Q
open Go.RowKit Go.Proofs.YtpnpmeogffodgaaDoorW.PrintWords Go.Proofs.YtpnpmeogffodgaaDoorW.PrintLast Go.Proofs.YtpnpmeogffodgaaDoorW.PrintMore
attribute [local go_sem] max2_int min2_int max_two min_two max_three min_three max_four min_four run_store_fnV run_store_fnc run_store_nfn   -- for this text's walks alone
set_option linter.unusedVariables false
set_option linter.unusedSimpArgs false

/-! ### tree_Valid: function 16 -/
mutual
def tree_Valid.j0 : Nat → Bool → Int → Int → Int → List (List (S36)) → Option (Bool)
  | 0, _, _, _, _, _ => none
  | k + 1, x42, x154000, x154001, x154002, x154003 => if x42 = true then (some false) else (tree_Valid.l0 k x154003 (x154003.length : Int) 0 x154000 x154001 x154002 x154003)
def tree_Valid.l0 : Nat → List (List (S36)) → Int → Int → Int → Int → Int → List (List (S36)) → Option (Bool)
  | 0, _, _, _, _, _, _, _ => none
  | k + 1, x44, x45, x46, x154000, x154001, x154002, x154003 => if x46 < x45 then (if 0 ≤ x46 then (if x46 < (x44.length : Int) then (if 0 ≤ (wrap64 (x154001 - x46)) then (if ((rd_L3 x44 x46).length : Int) = (shl .i64 1 (wrap64 (x154001 - x46))) then ((tree_proper.f x154000 (rd_L3 x44 x46)).bind fun t156 => (if t156 = true then (tree_Valid.l0 k x44 x45 (wrap64 (x46 + 1)) x154000 x154001 x154002 x154003) else (some false))) else (some false)) else (none)) else (none)) else (none)) else (some true)
end
def tree_Valid.f (k : Nat) (a0_0 : Int) (a0_1 : Int) (a0_2 : Int) (l0_3 : List (List (S36))) : Option (Bool) := (field_Valid.f a0_0).bind fun t154 => (if t154 = true then (if a0_1 < 0 then (tree_Valid.j0 k true a0_0 a0_1 a0_2 l0_3) else (if a0_1 > 18 then (tree_Valid.j0 k true a0_0 a0_1 a0_2 l0_3) else (if a0_2 < 0 then (tree_Valid.j0 k true a0_0 a0_1 a0_2 l0_3) else (if a0_2 > a0_1 then (tree_Valid.j0 k true a0_0 a0_1 a0_2 l0_3) else (tree_Valid.j0 k ((l0_3.length : Int) != (wrap64 ((wrap64 (a0_1 - a0_2)) + 1))) a0_0 a0_1 a0_2 l0_3))))) else (tree_Valid.j0 k true a0_0 a0_1 a0_2 l0_3))
theorem tree_Valid.mono_l : ∀ k, (∀ y0 y1 y2 y3 y4, LeO (tree_Valid.j0 k y0 y1 y2 y3 y4) (tree_Valid.j0 (k + 1) y0 y1 y2 y3 y4)) ∧ (∀ y0 y1 y2 y3 y4 y5 y6, LeO (tree_Valid.l0 k y0 y1 y2 y3 y4 y5 y6) (tree_Valid.l0 (k + 1) y0 y1 y2 y3 y4 y5 y6))
  | 0 => ⟨fun _ _ _ _ _ r h => by simp [tree_Valid.j0] at h, fun _ _ _ _ _ _ _ r h => by simp [tree_Valid.l0] at h⟩
  | k + 1 => by
    obtain ⟨ih0, ih1⟩ := tree_Valid.mono_l k
    refine ⟨?_, ?_⟩
    · intro y0 y1 y2 y3 y4
      unfold tree_Valid.j0
      repeat' first
      | (with_reducible exact ih0 _ _ _ _ _)
      | (with_reducible exact ih1 _ _ _ _ _ _ _)
      | (with_reducible exact LeO.refl _)
      | (with_reducible exact LeO.none _)
      | (with_reducible refine LeO.ite ?_ ?_)
      | (with_reducible refine LeO.bind ?_ (fun _ => ?_))
      | exact ih0 _ _ _ _ _
      | exact ih1 _ _ _ _ _ _ _
      | exact LeO.none _
      | refine LeO.ite ?_ ?_
      | refine LeO.bind ?_ (fun _ => ?_)
    · intro y0 y1 y2 y3 y4 y5 y6
      unfold tree_Valid.l0
      repeat' first
      | (with_reducible exact ih0 _ _ _ _ _)
      | (with_reducible exact ih1 _ _ _ _ _ _ _)
      | (with_reducible exact LeO.refl _)
      | (with_reducible exact LeO.none _)
      | (with_reducible refine LeO.ite ?_ ?_)
      | (with_reducible refine LeO.bind ?_ (fun _ => ?_))
      | exact ih0 _ _ _ _ _
      | exact ih1 _ _ _ _ _ _ _
      | exact LeO.none _
      | refine LeO.ite ?_ ?_
      | refine LeO.bind ?_ (fun _ => ?_)
theorem tree_Valid.mono : ∀ a0 a1 a2 a3 k, LeO (tree_Valid.f k a0 a1 a2 a3) (tree_Valid.f (k + 1) a0 a1 a2 a3) := by
  intro a0 a1 a2 a3 k
  obtain ⟨ih0, ih1⟩ := tree_Valid.mono_l k
  unfold tree_Valid.f
  repeat' first
      | (with_reducible exact ih0 _ _ _ _ _)
      | (with_reducible exact ih1 _ _ _ _ _ _ _)
      | (with_reducible exact LeO.refl _)
      | (with_reducible exact LeO.none _)
      | (with_reducible refine LeO.ite ?_ ?_)
      | (with_reducible refine LeO.bind ?_ (fun _ => ?_))
      | exact ih0 _ _ _ _ _
      | exact ih1 _ _ _ _ _ _ _
      | exact LeO.none _
      | refine LeO.ite ?_ ?_
      | refine LeO.bind ?_ (fun _ => ?_)
set_option maxHeartbeats 8000000 in
set_option maxRecDepth 100000 in
theorem tree_Valid.calls (k : Nat) (a0_0 : Int) (a0_1 : Int) (a0_2 : Int) (A0_3 : Option Addr) (c0_3 : Nat) (l0_3 : List (List (S36))) (r : Bool) (w : World) (hr0_3 : Kd.C (Kd.slice 36 k36) w A0_3 l0_3.length l0_3) (hc0_3 : l0_3.length ≤ c0_3) (hrG : GL w) (h : tree_Valid.f k a0_0 a0_1 a0_2 l0_3 = some r) :
  Calls Tryd.prog 16 #[.agg #[.int .i64 a0_0, .int .i64 a0_1, .int .i64 a0_2, .slice A0_3 l0_3.length c0_3]] w fun e w' => e = .returned (.bool r) ∧ Below w.heap.size w w' := by
 have hu26 := Tryd.underlying26
 have HRG := Aside0.mk hrG
 clear hrG
 have HR0_3 := Aside0.mk hr0_3
 have HC0_3 := Aside0.mk hc0_3
 clear hr0_3 hc0_3
 have HB := Aside0.mk (Below.refl w.heap.size w)
 have H : ((field_Valid.f a0_0).bind fun t154 => (if t154 = true then (if a0_1 < 0 then (tree_Valid.j0 k true a0_0 a0_1 a0_2 l0_3) else (if a0_1 > 18 then (tree_Valid.j0 k true a0_0 a0_1 a0_2 l0_3) else (if a0_2 < 0 then (tree_Valid.j0 k true a0_0 a0_1 a0_2 l0_3) else (if a0_2 > a0_1 then (tree_Valid.j0 k true a0_0 a0_1 a0_2 l0_3) else (tree_Valid.j0 k ((l0_3.length : Int) != (wrap64 ((wrap64 (a0_1 - a0_2)) + 1))) a0_0 a0_1 a0_2 l0_3))))) else (tree_Valid.j0 k true a0_0 a0_1 a0_2 l0_3))) = some r := h
 clear h
 have HC2 := Aside0.mk H
 clear H
 go_enter Tryd.func16, Tryd.ntmps16
 go_upto_region 1 with (first | ((with_reducible refine gate_dst (N := 1) rfl ?_); (try (refine gate_guard (by rfl) ?_; dsimp only)); refine box_event ?hg (N := 1) ?hd (cs := #[.int .i64 a0_0, .int .i64 a0_1, .int .i64 a0_2, .slice A0_3 l0_3.length c0_3]) (t := 26) ?hr ?_; (case hd => rfl); (case hg => rfl); (case hr => first | (go_simp; done) | (go_simp; rfl)); intro g153 hg w3 hbox hb; have n0_ := Aside0.mk (below_step (by repeat (first | (with_reducible first | exact HB.out | apply below_alloc | apply pw_below_drewN | apply below_drew1) | exact HB.out)) hb); have n1_ := Aside0.mk (hbox); have n2_ := Aside0.mk ((by rw [hg]; exact (below_size (by repeat (first | (with_reducible first | exact HB.out | apply below_alloc | apply pw_below_drewN | apply below_drew1) | exact HB.out))) : w.heap.size ≤ g153)); have n3_ := Aside0.mk ((by rw [hg]; exact (below_size (by repeat (first | (with_reducible first | exact HB.out | apply below_alloc | apply pw_below_drewN | apply below_drew1) | exact HB.out))) : w.heap.size ≤ g153)); clear HB; have HB := n0_; have B153 := n1_; have GW153 := n2_; have GE153 := n3_; clear n0_ n1_ n2_ n3_; clear hb hbox hg))
 (try simp only [Act.put, sa_, sb_, sc_])
 go_cut [42] (fun v42 wc => ∃ (kq : Nat) (x42_1 : Bool), v42 = .bool x42_1 ∧ Aside0 (tree_Valid.j0 kq x42_1 a0_0 a0_1 a0_2 l0_3 = some r) ∧ Aside0 (kq ≤ k) ∧ Aside0 (wc.heap[g153]? = some (.cells #[.int .i64 a0_0, .int .i64 a0_1, .int .i64 a0_2, (.slice A0_3 l0_3.length c0_3)] 26 (0, 0))) ∧ Aside0 (Below w.heap.size w wc))
 case first =>
  have H := HC2.out
  clear HC2
  replace H := Option.bind_eq_some_iff.mp H
  obtain ⟨t154, A40, H⟩ := H
  have A4 := Aside0.mk A40
  clear A40
  by_cases c5 : t154 = true
  ·subst c5
   have H1 : (if a0_1 < 0 then (tree_Valid.j0 k true a0_0 a0_1 a0_2 l0_3) else (if a0_1 > 18 then (tree_Valid.j0 k true a0_0 a0_1 a0_2 l0_3) else (if a0_2 < 0 then (tree_Valid.j0 k true a0_0 a0_1 a0_2 l0_3) else (if a0_2 > a0_1 then (tree_Valid.j0 k true a0_0 a0_1 a0_2 l0_3) else (tree_Valid.j0 k ((l0_3.length : Int) != (wrap64 ((wrap64 (a0_1 - a0_2)) + 1))) a0_0 a0_1 a0_2 l0_3))))) = some r := by rw [if_pos rfl] at H; exact H
   clear H
   have H := H1
   clear H1
   by_cases c6 : a0_1 < 0
   ·rw [if_pos c6] at H
    have c6b0 : decide (a0_1 < 0) = true := decide_eq_true c6
    clear c6
    (first | rw [c6b0] | (simp only [i64_w, i32_w]; rw [c6b0]) | skip)
    have H' := Aside0.mk H
    clear H
    have hcz7_0 : w3.cell? ⟨g153, 0, none⟩ = some (.int .i64 a0_0) := bq_ B153 0
    have hcz7_1 : w3.cell? ⟨g153, 1, none⟩ = some (.int .i64 a0_1) := bq_ B153 1
    have hcz7_2 : w3.cell? ⟨g153, 2, none⟩ = some (.int .i64 a0_2) := bq_ B153 2
    have hcz7_3 : w3.cell? ⟨g153, 3, none⟩ = some (.slice A0_3 l0_3.length c0_3) := bq_ B153 3
    have hfz7_0 := blk_frozen B153.out 0
    have hfz7_1 := blk_frozen B153.out 1
    have hfz7_2 := blk_frozen B153.out 2
    have hfz7_3 := blk_frozen B153.out 3
    go_wp2_with (first | ((with_reducible refine gate_callee (f := 38) rfl ?_); refine goesL_ (some 7) rfl rfl Tryd.func38 (by kernel_rfl) rfl #[.int .i64 a0_0] rfl (by (try simp only [List.map_toArray, List.map_cons, List.map_nil]); first | done | rfl | (go_simp; done)) ?_; (with_reducible refine (field_Valid.calls a0_0 true _ A4.out).mono ?_); rintro e w' ⟨rfl, ⟨nd, rfl⟩⟩; refine ⟨_, rfl, ?_⟩))
    go_meet
    case rel => exact ⟨_, (true), (by first | rfl | (simp; done) | (simp [*]; done) | (simp; rfl) | (simp; decide +kernel)), H', ⟨by first | omega | exact Nat.le_refl _⟩, ⟨by exact B153.out⟩, ⟨by repeat (first | (with_reducible first | exact HB.out | apply below_alloc | apply pw_below_drewN | apply below_drew1 | refine below_set ?_ GE153.out) | exact HB.out)⟩⟩
   ·rw [if_neg c6] at H
    have c6b0 : decide (a0_1 < 0) = false := decide_eq_false c6
    clear c6
    (first | rw [c6b0] | (simp only [i64_w, i32_w]; rw [c6b0]) | skip)
    by_cases c8 : a0_1 > 18
    ·rw [if_pos c8] at H
     have c8b0 : decide (18 < a0_1) = true := decide_eq_true c8
     clear c8
     have H' := Aside0.mk H
     clear H
     have hcz9_0 : w3.cell? ⟨g153, 0, none⟩ = some (.int .i64 a0_0) := bq_ B153 0
     have hcz9_1 : w3.cell? ⟨g153, 1, none⟩ = some (.int .i64 a0_1) := bq_ B153 1
     have hcz9_2 : w3.cell? ⟨g153, 2, none⟩ = some (.int .i64 a0_2) := bq_ B153 2
     have hcz9_3 : w3.cell? ⟨g153, 3, none⟩ = some (.slice A0_3 l0_3.length c0_3) := bq_ B153 3
     have hfz9_0 := blk_frozen B153.out 0
     have hfz9_1 := blk_frozen B153.out 1
     have hfz9_2 := blk_frozen B153.out 2
     have hfz9_3 := blk_frozen B153.out 3
     go_wp2_with (first | ((with_reducible refine gate_callee (f := 38) rfl ?_); refine goesL_ (some 7) rfl rfl Tryd.func38 (by kernel_rfl) rfl #[.int .i64 a0_0] rfl (by (try simp only [List.map_toArray, List.map_cons, List.map_nil]); first | done | rfl | (go_simp; done)) ?_; (with_reducible refine (field_Valid.calls a0_0 true _ A4.out).mono ?_); rintro e w' ⟨rfl, ⟨nd, rfl⟩⟩; refine ⟨_, rfl, ?_⟩))
     go_meet
     case rel => exact ⟨_, (true), (by first | rfl | (simp; done) | (simp [*]; done) | (simp; rfl) | (simp; decide +kernel)), H', ⟨by first | omega | exact Nat.le_refl _⟩, ⟨by exact B153.out⟩, ⟨by repeat (first | (with_reducible first | exact HB.out | apply below_alloc | apply pw_below_drewN | apply below_drew1 | refine below_set ?_ GE153.out) | exact HB.out)⟩⟩
    ·rw [if_neg c8] at H
     have c8b0 : decide (18 < a0_1) = false := decide_eq_false c8
     clear c8
     by_cases c10 : a0_2 < 0
     ·rw [if_pos c10] at H
      have c10b0 : decide (a0_2 < 0) = true := decide_eq_true c10
      clear c10
      have H' := Aside0.mk H
      clear H
      have hcz11_0 : w3.cell? ⟨g153, 0, none⟩ = some (.int .i64 a0_0) := bq_ B153 0
      have hcz11_1 : w3.cell? ⟨g153, 1, none⟩ = some (.int .i64 a0_1) := bq_ B153 1
      have hcz11_2 : w3.cell? ⟨g153, 2, none⟩ = some (.int .i64 a0_2) := bq_ B153 2
      have hcz11_3 : w3.cell? ⟨g153, 3, none⟩ = some (.slice A0_3 l0_3.length c0_3) := bq_ B153 3
      have hfz11_0 := blk_frozen B153.out 0
      have hfz11_1 := blk_frozen B153.out 1
      have hfz11_2 := blk_frozen B153.out 2
      have hfz11_3 := blk_frozen B153.out 3
      go_wp2_with (first | ((with_reducible refine gate_callee (f := 38) rfl ?_); refine goesL_ (some 7) rfl rfl Tryd.func38 (by kernel_rfl) rfl #[.int .i64 a0_0] rfl (by (try simp only [List.map_toArray, List.map_cons, List.map_nil]); first | done | rfl | (go_simp; done)) ?_; (with_reducible refine (field_Valid.calls a0_0 true _ A4.out).mono ?_); rintro e w' ⟨rfl, ⟨nd, rfl⟩⟩; refine ⟨_, rfl, ?_⟩))
      go_meet
      case rel => exact ⟨_, (true), (by first | rfl | (simp; done) | (simp [*]; done) | (simp; rfl) | (simp; decide +kernel)), H', ⟨by first | omega | exact Nat.le_refl _⟩, ⟨by exact B153.out⟩, ⟨by repeat (first | (with_reducible first | exact HB.out | apply below_alloc | apply pw_below_drewN | apply below_drew1 | refine below_set ?_ GE153.out) | exact HB.out)⟩⟩
     ·rw [if_neg c10] at H
      have c10b0 : decide (a0_2 < 0) = false := decide_eq_false c10
      clear c10
      by_cases c12 : a0_2 > a0_1
      ·rw [if_pos c12] at H
       have c12b0 : decide (a0_1 < a0_2) = true := decide_eq_true c12
       clear c12
       have H' := Aside0.mk H
       clear H
       have hcz13_0 : w3.cell? ⟨g153, 0, none⟩ = some (.int .i64 a0_0) := bq_ B153 0
       have hcz13_1 : w3.cell? ⟨g153, 1, none⟩ = some (.int .i64 a0_1) := bq_ B153 1
       have hcz13_2 : w3.cell? ⟨g153, 2, none⟩ = some (.int .i64 a0_2) := bq_ B153 2
       have hcz13_3 : w3.cell? ⟨g153, 3, none⟩ = some (.slice A0_3 l0_3.length c0_3) := bq_ B153 3
       have hfz13_0 := blk_frozen B153.out 0
       have hfz13_1 := blk_frozen B153.out 1
       have hfz13_2 := blk_frozen B153.out 2
       have hfz13_3 := blk_frozen B153.out 3
       go_wp2_with (first | ((with_reducible refine gate_callee (f := 38) rfl ?_); refine goesL_ (some 7) rfl rfl Tryd.func38 (by kernel_rfl) rfl #[.int .i64 a0_0] rfl (by (try simp only [List.map_toArray, List.map_cons, List.map_nil]); first | done | rfl | (go_simp; done)) ?_; (with_reducible refine (field_Valid.calls a0_0 true _ A4.out).mono ?_); rintro e w' ⟨rfl, ⟨nd, rfl⟩⟩; refine ⟨_, rfl, ?_⟩))
       go_meet
       case rel => exact ⟨_, (true), (by first | rfl | (simp; done) | (simp [*]; done) | (simp; rfl) | (simp; decide +kernel)), H', ⟨by first | omega | exact Nat.le_refl _⟩, ⟨by exact B153.out⟩, ⟨by repeat (first | (with_reducible first | exact HB.out | apply below_alloc | apply pw_below_drewN | apply below_drew1 | refine below_set ?_ GE153.out) | exact HB.out)⟩⟩
      ·rw [if_neg c12] at H
       have c12b0 : decide (a0_1 < a0_2) = false := decide_eq_false c12
       clear c12
       have H' := Aside0.mk H
       clear H
       have hcz14_0 : w3.cell? ⟨g153, 0, none⟩ = some (.int .i64 a0_0) := bq_ B153 0
       have hcz14_1 : w3.cell? ⟨g153, 1, none⟩ = some (.int .i64 a0_1) := bq_ B153 1
       have hcz14_2 : w3.cell? ⟨g153, 2, none⟩ = some (.int .i64 a0_2) := bq_ B153 2
       have hcz14_3 : w3.cell? ⟨g153, 3, none⟩ = some (.slice A0_3 l0_3.length c0_3) := bq_ B153 3
       have hfz14_0 := blk_frozen B153.out 0
       have hfz14_1 := blk_frozen B153.out 1
       have hfz14_2 := blk_frozen B153.out 2
       have hfz14_3 := blk_frozen B153.out 3
       go_wp2_with (first | ((with_reducible refine gate_callee (f := 38) rfl ?_); refine goesL_ (some 7) rfl rfl Tryd.func38 (by kernel_rfl) rfl #[.int .i64 a0_0] rfl (by (try simp only [List.map_toArray, List.map_cons, List.map_nil]); first | done | rfl | (go_simp; done)) ?_; (with_reducible refine (field_Valid.calls a0_0 true _ A4.out).mono ?_); rintro e w' ⟨rfl, ⟨nd, rfl⟩⟩; refine ⟨_, rfl, ?_⟩))
       go_meet
       case rel => exact ⟨_, (((l0_3.length : Int) != (wrap64 ((wrap64 (a0_1 - a0_2)) + 1)))), (by first | rfl | (simp; done) | (simp [*]; done) | (simp; rfl) | (simp; decide +kernel)), H', ⟨by first | omega | exact Nat.le_refl _⟩, ⟨by exact B153.out⟩, ⟨by repeat (first | (with_reducible first | exact HB.out | apply below_alloc | apply pw_below_drewN | apply below_drew1 | refine below_set ?_ GE153.out) | exact HB.out)⟩⟩
  ·replace c5 := Bool.eq_false_iff.mpr c5
   subst c5
   have H1 : (tree_Valid.j0 k true a0_0 a0_1 a0_2 l0_3) = some r := by rw [if_neg (show ¬ (false = true) by decide)] at H; exact H
   clear H
   have H := H1
   clear H1
   have H' := Aside0.mk H
   clear H
   have hcz15_0 : w3.cell? ⟨g153, 0, none⟩ = some (.int .i64 a0_0) := bq_ B153 0
   have hcz15_1 : w3.cell? ⟨g153, 1, none⟩ = some (.int .i64 a0_1) := bq_ B153 1
   have hcz15_2 : w3.cell? ⟨g153, 2, none⟩ = some (.int .i64 a0_2) := bq_ B153 2
   have hcz15_3 : w3.cell? ⟨g153, 3, none⟩ = some (.slice A0_3 l0_3.length c0_3) := bq_ B153 3
   have hfz15_0 := blk_frozen B153.out 0
   have hfz15_1 := blk_frozen B153.out 1
   have hfz15_2 := blk_frozen B153.out 2
   have hfz15_3 := blk_frozen B153.out 3
   go_wp2_with (first | ((with_reducible refine gate_callee (f := 38) rfl ?_); refine goesL_ (some 7) rfl rfl Tryd.func38 (by kernel_rfl) rfl #[.int .i64 a0_0] rfl (by (try simp only [List.map_toArray, List.map_cons, List.map_nil]); first | done | rfl | (go_simp; done)) ?_; (with_reducible refine (field_Valid.calls a0_0 false _ A4.out).mono ?_); rintro e w' ⟨rfl, ⟨nd, rfl⟩⟩; refine ⟨_, rfl, ?_⟩))
   go_meet
   case rel => exact ⟨_, (true), (by first | rfl | (simp; done) | (simp [*]; done) | (simp; rfl) | (simp; decide +kernel)), H', ⟨by first | omega | exact Nat.le_refl _⟩, ⟨by exact B153.out⟩, ⟨by repeat (first | (with_reducible first | exact HB.out | apply below_alloc | apply pw_below_drewN | apply below_drew1 | refine below_set ?_ GE153.out) | exact HB.out)⟩⟩
 case rest =>
  clear HC2
  try clear c1
  try clear p2
  try clear c3
  try clear c5
  try clear c6
  try clear c6b0
  try clear p6
  try clear c8
  try clear c8b0
  try clear c10
  try clear c10b0
  try clear c12
  try clear c12b0
  try clear hcz11_0
  try clear hcz11_1
  try clear hcz11_2
  try clear hcz11_3
  try clear hcz13_0
  try clear hcz13_1
  try clear hcz13_2
  try clear hcz13_3
  try clear hcz14_0
  try clear hcz14_1
  try clear hcz14_2
  try clear hcz14_3
  try clear hcz15_0
  try clear hcz15_1
  try clear hcz15_2
  try clear hcz15_3
  try clear hcz7_0
  try clear hcz7_1
  try clear hcz7_2
  try clear hcz7_3
  try clear hcz9_0
  try clear hcz9_1
  try clear hcz9_2
  try clear hcz9_3
  try clear hfz11_0
  try clear hfz11_1
  try clear hfz11_2
  try clear hfz11_3
  try clear hfz13_0
  try clear hfz13_1
  try clear hfz13_2
  try clear hfz13_3
  try clear hfz14_0
  try clear hfz14_1
  try clear hfz14_2
  try clear hfz14_3
  try clear hfz15_0
  try clear hfz15_1
  try clear hfz15_2
  try clear hfz15_3
  try clear hfz7_0
  try clear hfz7_1
  try clear hfz7_2
  try clear hfz7_3
  try clear hfz9_0
  try clear hfz9_1
  try clear hfz9_2
  try clear hfz9_3
  obtain ⟨kq, x42_1, rfl, HA, HJ1, B153, HB⟩ := hcut
  cases kq with
  | zero => exact absurd HA.out (by simp [tree_Valid.j0])
  | succ kj1 =>
   have H := HA.out
   clear HA
   simp only [tree_Valid.j0] at H
   by_cases c16 : x42_1 = true
   ·subst c16
    have H1 : (some false) = some r := by rw [if_pos rfl] at H; exact H
    clear H
    have H := H1
    clear H1
    obtain rfl := Option.some.inj H
    go_wp2
    go_ret
    exact ⟨by first | rfl | (simp [errW_none, errW_some] <;> rfl) | (simp [*, errW_none, errW_some] <;> rfl), by repeat (first | (with_reducible first | exact HB.out | apply below_alloc | apply pw_below_drewN | apply below_drew1 | refine below_set ?_ GE153.out) | exact HB.out)⟩
   ·replace c16 := Bool.eq_false_iff.mpr c16
    subst c16
    have H1 : (tree_Valid.l0 kj1 l0_3 (l0_3.length : Int) 0 a0_0 a0_1 a0_2 l0_3) = some r := by rw [if_neg (show ¬ (false = true) by decide)] at H; exact H
    clear H
    have H := H1
    clear H1
    have H' := Aside0.mk H
    clear H
    have hcz17_0 : wc.cell? ⟨g153, 0, none⟩ = some (.int .i64 a0_0) := bq_ B153 0
    have hcz17_1 : wc.cell? ⟨g153, 1, none⟩ = some (.int .i64 a0_1) := bq_ B153 1
    have hcz17_2 : wc.cell? ⟨g153, 2, none⟩ = some (.int .i64 a0_2) := bq_ B153 2
    have hcz17_3 : wc.cell? ⟨g153, 3, none⟩ = some (.slice A0_3 l0_3.length c0_3) := bq_ B153 3
    have hfz17_0 := blk_frozen B153.out 0
    have hfz17_1 := blk_frozen B153.out 1
    have hfz17_2 := blk_frozen B153.out 2
    have hfz17_3 := blk_frozen B153.out 3
    go_wp2
    go_loopg [46] kj1 (fun kq v46 w' => ∃ (x46_2 : Int), v46 = .int .i64 x46_2 ∧ Aside0 (tree_Valid.l0 kq l0_3 (l0_3.length : Int) x46_2 a0_0 a0_1 a0_2 l0_3 = some r) ∧ Aside0 (kq ≤ kj1) ∧ Aside0 (w'.heap[g153]? = some (.cells #[.int .i64 a0_0, .int .i64 a0_1, .int .i64 a0_2, (.slice A0_3 l0_3.length c0_3)] 26 (0, 0))) ∧ Aside0 (Below w.heap.size w w'))
    case atStart => exact ⟨(0), (by first | rfl | (simp; done) | (simp [*]; done) | (simp; rfl) | (simp; decide +kernel)), H', ⟨Nat.le_refl _⟩, ⟨by exact B153.out⟩, ⟨by repeat (first | (with_reducible first | exact HB.out | apply below_alloc | apply pw_below_drewN | apply below_drew1 | refine below_set ?_ GE153.out) | exact HB.out)⟩⟩
    case round =>
     clear H'
     try clear c1
     try clear p2
     try clear c3
     try clear c5
     try clear c6
     try clear c6b0
     try clear p6
     try clear c8
     try clear c8b0
     try clear c10
     try clear c10b0
     try clear c12
     try clear c12b0
     try clear c16
     try clear hcz11_0
     try clear hcz11_1
     try clear hcz11_2
     try clear hcz11_3
     try clear hcz13_0
     try clear hcz13_1
     try clear hcz13_2
     try clear hcz13_3
     try clear hcz14_0
     try clear hcz14_1
     try clear hcz14_2
     try clear hcz14_3
     try clear hcz15_0
     try clear hcz15_1
     try clear hcz15_2
     try clear hcz15_3
     try clear hcz17_0
     try clear hcz17_1
     try clear hcz17_2
     try clear hcz17_3
     try clear hcz7_0
     try clear hcz7_1
     try clear hcz7_2
     try clear hcz7_3
     try clear hcz9_0
     try clear hcz9_1
     try clear hcz9_2
     try clear hcz9_3
     try clear hfz11_0
     try clear hfz11_1
     try clear hfz11_2
     try clear hfz11_3
     try clear hfz13_0
     try clear hfz13_1
     try clear hfz13_2
     try clear hfz13_3
     try clear hfz14_0
     try clear hfz14_1
     try clear hfz14_2
     try clear hfz14_3
     try clear hfz15_0
     try clear hfz15_1
     try clear hfz15_2
     try clear hfz15_3
     try clear hfz17_0
     try clear hfz17_1
     try clear hfz17_2
     try clear hfz17_3
     try clear hfz7_0
     try clear hfz7_1
     try clear hfz7_2
     try clear hfz7_3
     try clear hfz9_0
     try clear hfz9_1
     try clear hfz9_2
     try clear hfz9_3
     try clear p2
     try clear p6
     obtain ⟨x46_2, rfl, HA, HK2, B153, HB⟩ := hrel
     cases gk with
     | zero => exact absurd HA.out (by simp [tree_Valid.l0])
     | succ k2 =>
      have H := HA.out
      clear HA
      simp only [tree_Valid.l0] at H
      by_cases c18 : x46_2 < (l0_3.length : Int)
      ·rw [if_pos c18] at H
       have c18b0 : decide (x46_2 < (l0_3.length : Int)) = true := decide_eq_true c18
       clear c18
       by_cases c19 : 0 ≤ x46_2
       ·rw [if_pos c19] at H
        have c19b0 : decide (0 ≤ x46_2) = true := decide_eq_true c19
        clear c19
        by_cases c20 : x46_2 < (l0_3.length : Int)
        ·rw [if_pos c20] at H
         have c20b0 : decide (x46_2 < (l0_3.length : Int)) = true := decide_eq_true c20
         clear c20
         obtain ⟨ji21, hji21⟩ : ∃ j_ : Int, (wrap64 (a0_1 - x46_2)) = j_ := ⟨_, rfl⟩
         replace H : (if 0 ≤ (ji21) then (if ((rd_L3 l0_3 x46_2).length : Int) = (shl .i64 1 (ji21)) then ((tree_proper.f a0_0 (rd_L3 l0_3 x46_2)).bind fun t156 => (if t156 = true then (tree_Valid.l0 k2 l0_3 (l0_3.length : Int) (wrap64 (x46_2 + 1)) a0_0 a0_1 a0_2 l0_3) else (some false))) else (some false)) else (none)) = some r := by first | (rw [hji21] at H; exact H) | (simp only [hji21] at H ⊢; exact H)
         have hji21w : (IntKind.i64.wrap (a0_1 - x46_2)) = ji21 := (i64_w _).trans hji21
         by_cases c22 : 0 ≤ (ji21)
         ·rw [if_pos c22] at H
          have c22b0 := eq_true c22
          have c22b1 : decide (0 ≤ (ji21)) = true := decide_eq_true c22
          clear c22
          obtain ⟨ji23, hji23⟩ : ∃ j_ : Int, (shl .i64 1 (ji21)) = j_ := ⟨_, rfl⟩
          replace H : (if ((rd_L3 l0_3 x46_2).length : Int) = (ji23) then ((tree_proper.f a0_0 (rd_L3 l0_3 x46_2)).bind fun t156 => (if t156 = true then (tree_Valid.l0 k2 l0_3 (l0_3.length : Int) (wrap64 (x46_2 + 1)) a0_0 a0_1 a0_2 l0_3) else (some false))) else (some false)) = some r := by first | (rw [hji23] at H; exact H) | (simp only [hji23] at H ⊢; exact H)
          have hji23_ : (IntKind.i64.wrap (1 * 2 ^ min (ji21).toNat 64)) = ji23 := hji23
          have hji23z : (ji21) ≤ 64 → (IntKind.i64.wrap (1 * 2 ^ (ji21).toNat)) = ji23 := shl_small hji23
          have hji23u : (IntKind.i64.wrap (2 ^ min (ji21).toNat 64)) = ji23 := by have h_ := hji23_; rw [Int.one_mul] at h_; exact h_
          have hji23v : (ji21) ≤ 64 → (IntKind.i64.wrap (2 ^ (ji21).toNat)) = ji23 := fun hle_ => by have h_ := hji23z hle_; rw [Int.one_mul] at h_; exact h_
          have hji23y : (wrap64 (1 * 2 ^ min (ji21).toNat 64)) = ji23 := (i64_w _).symm.trans hji23_
          have hji23x : (ji21) ≤ 64 → (wrap64 (1 * 2 ^ (ji21).toNat)) = ji23 := fun h_ => (i64_w _).symm.trans (hji23z h_)
          by_cases c24 : ((rd_L3 l0_3 x46_2).length : Int) = (ji23)
          ·rw [if_pos c24] at H
           have c24b0 : (((rd_L3 l0_3 x46_2).length : Int) == (ji23)) = true := beq_iff_eq.mpr c24
           have c24b1 : (((rd_L3 l0_3 x46_2).length : Int) != (ji23)) = false := bne_eq_false_iff_eq.mpr c24
           clear c24
           replace H := Option.bind_eq_some_iff.mp H
           obtain ⟨t156, A250, H⟩ := H
           have A25 := Aside0.mk A250
           clear A250
           by_cases c26 : t156 = true
           ·subst c26
            have H1 : (tree_Valid.l0 k2 l0_3 (l0_3.length : Int) (wrap64 (x46_2 + 1)) a0_0 a0_1 a0_2 l0_3) = some r := by rw [if_pos rfl] at H; exact H
            clear H
            have H := H1
            clear H1
            have H' := Aside0.mk H
            clear H
            have p155 : 0 ≤ (x46_2 : Int) := of_decide_eq_true (by first | (with_reducible assumption) | assumption)
            have q155 : x46_2 < (l0_3.length : Int) := of_decide_eq_true (by first | (with_reducible assumption) | assumption)
            obtain ⟨ad155, A155_0, c155_0, e155, hx155_0, hl155_0, hi155_0⟩ := at_L3 HR0_3.out x46_2 p155 q155
            cases e155
            replace hx155_0 := (HB.out.cell (World.block_lt_of_cell? w _ hx155_0)).trans hx155_0
            have HR155_0 := Aside0.mk hi155_0
            have HC155_0 := Aside0.mk hl155_0
            clear hi155_0 hl155_0
            replace p155 := eq_true p155
            replace q155 := eq_true q155
            have hcz27_0 : wr.cell? ⟨g153, 0, none⟩ = some (.int .i64 a0_0) := bq_ B153 0
            have hcz27_1 : wr.cell? ⟨g153, 1, none⟩ = some (.int .i64 a0_1) := bq_ B153 1
            have hcz27_2 : wr.cell? ⟨g153, 2, none⟩ = some (.int .i64 a0_2) := bq_ B153 2
            have hcz27_3 : wr.cell? ⟨g153, 3, none⟩ = some (.slice (some ad155) l0_3.length c0_3) := bq_ B153 3
            have hfz27_0 := blk_frozen B153.out 0
            have hfz27_1 := blk_frozen B153.out 1
            have hfz27_2 := blk_frozen B153.out 2
            have hfz27_3 := blk_frozen B153.out 3
            go_wp2_with (first | (go_at_call 39; (with_reducible refine (tree_proper.calls a0_0 _ _ (rd_L3 l0_3 x46_2) true _ ?side1 ?side2 ?side3 A25.out).mono ?_); (case side1 => repeat (first | exact (Kd.C_below HR155_0.out HB.out) | (with_reducible refine Kd.C_alloc ?_ _) | (with_reducible refine Kd.C_drewN ?_ _) | (with_reducible refine Kd.C_drew ?_))); (case side2 => exact HC155_0.out); (case side3 => repeat (first | exact (GL.below HRG.out HB.out) | (with_reducible refine GL.alloc ?_ _) | (with_reducible refine GL.drewN ?_ _) | (with_reducible refine GL.drew ?_))); rintro e w28 ⟨rfl, hb⟩; have n0_ := Aside0.mk (blk_below (g := g153) (o := .cells #[.int .i64 a0_0, .int .i64 a0_1, .int .i64 a0_2, .slice (some ad155) l0_3.length c0_3] 26 (0, 0)) (by exact B153.out) hb); have n1_ := Aside0.mk (below_step (by repeat (first | (with_reducible first | exact HB.out | apply below_alloc | apply pw_below_drewN | apply below_drew1 | refine below_set ?_ GE153.out) | exact HB.out)) hb); clear B153; clear HB; have B153 := n0_; have HB := n1_; clear n0_ n1_; (try clear hb); (try clear hb2); (try clear hk); (try clear hi)))
            go_roundg k2
            case measure => have := HJ1.out; have := HK2.out; omega
            case rel => exact ⟨(wrap64 (x46_2 + 1)), (by first | rfl | (simp; done) | (simp [*]; done) | (simp; rfl) | (simp; decide +kernel)), H', ⟨by have := HJ1.out; have := HK2.out; omega⟩, ⟨by exact B153.out⟩, ⟨by repeat (first | (with_reducible first | exact HB.out | apply below_alloc | apply pw_below_drewN | apply below_drew1 | refine below_set ?_ GE153.out) | exact HB.out)⟩⟩
           ·replace c26 := Bool.eq_false_iff.mpr c26
            subst c26
            have H1 : (some false) = some r := by rw [if_neg (show ¬ (false = true) by decide)] at H; exact H
            clear H
            have H := H1
            clear H1
            obtain rfl := Option.some.inj H
            have p155 : 0 ≤ (x46_2 : Int) := of_decide_eq_true (by first | (with_reducible assumption) | assumption)
            have q155 : x46_2 < (l0_3.length : Int) := of_decide_eq_true (by first | (with_reducible assumption) | assumption)
            obtain ⟨ad155, A155_0, c155_0, e155, hx155_0, hl155_0, hi155_0⟩ := at_L3 HR0_3.out x46_2 p155 q155
            cases e155
            replace hx155_0 := (HB.out.cell (World.block_lt_of_cell? w _ hx155_0)).trans hx155_0
            have HR155_0 := Aside0.mk hi155_0
            have HC155_0 := Aside0.mk hl155_0
            clear hi155_0 hl155_0
            replace p155 := eq_true p155
            replace q155 := eq_true q155
            have hcz29_0 : wr.cell? ⟨g153, 0, none⟩ = some (.int .i64 a0_0) := bq_ B153 0
            have hcz29_1 : wr.cell? ⟨g153, 1, none⟩ = some (.int .i64 a0_1) := bq_ B153 1
            have hcz29_2 : wr.cell? ⟨g153, 2, none⟩ = some (.int .i64 a0_2) := bq_ B153 2
            have hcz29_3 : wr.cell? ⟨g153, 3, none⟩ = some (.slice (some ad155) l0_3.length c0_3) := bq_ B153 3
            have hfz29_0 := blk_frozen B153.out 0
            have hfz29_1 := blk_frozen B153.out 1
            have hfz29_2 := blk_frozen B153.out 2
            have hfz29_3 := blk_frozen B153.out 3
            go_wp2_with (first | (go_at_call 39; (with_reducible refine (tree_proper.calls a0_0 _ _ (rd_L3 l0_3 x46_2) false _ ?side1 ?side2 ?side3 A25.out).mono ?_); (case side1 => repeat (first | exact (Kd.C_below HR155_0.out HB.out) | (with_reducible refine Kd.C_alloc ?_ _) | (with_reducible refine Kd.C_drewN ?_ _) | (with_reducible refine Kd.C_drew ?_))); (case side2 => exact HC155_0.out); (case side3 => repeat (first | exact (GL.below HRG.out HB.out) | (with_reducible refine GL.alloc ?_ _) | (with_reducible refine GL.drewN ?_ _) | (with_reducible refine GL.drew ?_))); rintro e w30 ⟨rfl, hb⟩; have n0_ := Aside0.mk (blk_below (g := g153) (o := .cells #[.int .i64 a0_0, .int .i64 a0_1, .int .i64 a0_2, .slice (some ad155) l0_3.length c0_3] 26 (0, 0)) (by exact B153.out) hb); have n1_ := Aside0.mk (below_step (by repeat (first | (with_reducible first | exact HB.out | apply below_alloc | apply pw_below_drewN | apply below_drew1 | refine below_set ?_ GE153.out) | exact HB.out)) hb); clear B153; clear HB; have B153 := n0_; have HB := n1_; clear n0_ n1_; (try clear hb); (try clear hb2); (try clear hk); (try clear hi)))
            go_ret
            exact ⟨by first | rfl | (simp [errW_none, errW_some] <;> rfl) | (simp only [← hji21, ← hji23]; first | rfl | (simp [errW_none, errW_some] <;> rfl)) | (simp [*, errW_none, errW_some] <;> rfl), by repeat (first | (with_reducible first | exact HB.out | apply below_alloc | apply pw_below_drewN | apply below_drew1 | refine below_set ?_ GE153.out) | exact HB.out)⟩
          ·rw [if_neg c24] at H
           have c24b0 : (((rd_L3 l0_3 x46_2).length : Int) == (ji23)) = false := beq_eq_false_iff_ne.mpr c24
           have c24b1 : (((rd_L3 l0_3 x46_2).length : Int) != (ji23)) = true := bne_iff_ne.mpr c24
           obtain rfl := Option.some.inj H
           have p155 : 0 ≤ (x46_2 : Int) := of_decide_eq_true (by first | (with_reducible assumption) | assumption)
           have q155 : x46_2 < (l0_3.length : Int) := of_decide_eq_true (by first | (with_reducible assumption) | assumption)
           obtain ⟨ad155, A155_0, c155_0, e155, hx155_0, hl155_0, hi155_0⟩ := at_L3 HR0_3.out x46_2 p155 q155
           cases e155
           replace hx155_0 := (HB.out.cell (World.block_lt_of_cell? w _ hx155_0)).trans hx155_0
           have HR155_0 := Aside0.mk hi155_0
           have HC155_0 := Aside0.mk hl155_0
           clear hi155_0 hl155_0
           replace p155 := eq_true p155
           replace q155 := eq_true q155
           have hcz31_0 : wr.cell? ⟨g153, 0, none⟩ = some (.int .i64 a0_0) := bq_ B153 0
           have hcz31_1 : wr.cell? ⟨g153, 1, none⟩ = some (.int .i64 a0_1) := bq_ B153 1
           have hcz31_2 : wr.cell? ⟨g153, 2, none⟩ = some (.int .i64 a0_2) := bq_ B153 2
           have hcz31_3 : wr.cell? ⟨g153, 3, none⟩ = some (.slice (some ad155) l0_3.length c0_3) := bq_ B153 3
           have hfz31_0 := blk_frozen B153.out 0
           have hfz31_1 := blk_frozen B153.out 1
           have hfz31_2 := blk_frozen B153.out 2
           have hfz31_3 := blk_frozen B153.out 3
           go_wp2
           go_ret
           exact ⟨by first | rfl | (simp [errW_none, errW_some] <;> rfl) | (simp only [← hji21, ← hji23]; first | rfl | (simp [errW_none, errW_some] <;> rfl)) | (simp [*, errW_none, errW_some] <;> rfl), by repeat (first | (with_reducible first | exact HB.out | apply below_alloc | apply pw_below_drewN | apply below_drew1 | refine below_set ?_ GE153.out) | exact HB.out)⟩
         ·rw [if_neg c22] at H
          exact absurd H (by simp)
        ·rw [if_neg c20] at H
         exact absurd H (by simp)
       ·rw [if_neg c19] at H
        exact absurd H (by simp)
      ·rw [if_neg c18] at H
       have c18b0 : decide (x46_2 < (l0_3.length : Int)) = false := decide_eq_false c18
       clear c18
       obtain rfl := Option.some.inj H
       go_wp2
       go_ret
       exact ⟨by first | rfl | (simp [errW_none, errW_some] <;> rfl) | (simp [*, errW_none, errW_some] <;> rfl), by repeat (first | (with_reducible first | exact HB.out | apply below_alloc | apply pw_below_drewN | apply below_drew1 | refine below_set ?_ GE153.out) | exact HB.out)⟩

end Go.Proofs.YtpnpmeogffodgaaDoor.Q
end
section
namespace Go.Proofs.YtpnpmeogffodgaaDoor.Q
open Go.RowKit Go.Proofs.YtpnpmeogffodgaaDoorW.PrintWords Go.Proofs.YtpnpmeogffodgaaDoorW.PrintLast Go.Proofs.YtpnpmeogffodgaaDoorW.PrintMore
attribute [local go_sem] max2_int min2_int max_two min_two max_three min_three max_four min_four   -- for this text's walks alone
set_option linter.unusedVariables false
set_option linter.unusedSimpArgs false

/-! ### slices_Clone: function 45 -/
def slices_Clone.f (l0 : List (S36)) : Option ((List (S36))) := (some (([] : List (S36)) : List (S36))).bind fun y101 => (if y101.length + l0.length < 8796093022208 then (some (y101 ++ l0)) else (none))
set_option maxHeartbeats 8000000 in
set_option maxRecDepth 100000 in
theorem slices_Clone.calls_some (a0_ : Addr) (c0 : Nat) (l0 : List (S36)) (r : List (S36)) (w : World) (hr0 : Kd.C k36 w (some a0_) l0.length l0) (hc0 : l0.length ≤ c0) (h : slices_Clone.f l0 = some r) :
    Calls Tryd.prog 45 #[.slice (some a0_) l0.length c0] w fun e w' => ∃ v0_ : Value, e = .returned (v0_) ∧ Kd.R k36 36 w' w.heap.size (fun _ => True) v0_ r ∧ Below w.heap.size w w' := by
  have HR0 := Aside0.mk hr0
  have HC0 := Aside0.mk hc0
  clear hr0 hc0
  have HB := Aside0.mk (Below.refl w.heap.size w)
  have H : ((some (([] : List (S36)) : List (S36))).bind fun y101 => (if y101.length + l0.length < 8796093022208 then (some (y101 ++ l0)) else (none))) = some r := h
  clear h
  obtain ⟨y101, hy101⟩ : ∃ y_ : List (S36), y_ = (([] : List (S36))) := ⟨_, rfl⟩
  replace H : (if y101.length + l0.length < 8796093022208 then (some (y101 ++ l0)) else (none)) = some r := by first | (rw [hy101]; with_reducible exact H) | (have H2_ := (Option.bind_some _ _).symm.trans H; rw [hy101]; with_reducible exact H2_) | (have H2_ := (Option.bind_some _ _).symm.trans H; with_reducible exact H2_) | with_reducible exact H | (rw [hy101]; exact H) | exact H
  have Ny101 := Aside0.mk hy101
  clear hy101
  by_cases c2 : y101.length + l0.length < 8796093022208
  · rw [if_pos c2] at H
    have LMc2 := Aside0.mk c2
    clear c2
    obtain ⟨y104, hy104⟩ : ∃ y_ : List (S36), y_ = (y101 ++ l0) := ⟨_, rfl⟩
    replace H : (some y104) = some r := by first | (rw [hy104]; with_reducible exact H) | (have H2_ := (Option.bind_some _ _).symm.trans H; rw [hy104]; with_reducible exact H2_) | (have H2_ := (Option.bind_some _ _).symm.trans H; with_reducible exact H2_) | with_reducible exact H | (rw [hy104]; exact H) | exact H
    have Ny104 := Aside0.mk hy104
    clear hy104
    obtain rfl := Option.some.inj H
    have hnil := fun (W : World) => Lib.run_eql_slice_nil (P := Tryd.prog) W 22 36 (some a0_) l0.length c0 0 0 Tryd.underlying22
    go_enter Tryd.func45, Tryd.ntmps45
    go_wp2_with (first | ((with_reducible refine gate_dst (N := 5) rfl ?_); refine Kd.R_lit k36 _ 36 ?hg (N := 5) ?hd (xs := ([] : List (S36))) (inner := []) (ok := fun _ => True) (okp := fun _ => True) ?hr ?hp (fun _ hk => hk) trivial (Below.refl _ _) (Nat.le_refl _) (by simp) ?_; (case hd => rfl); (case hg => rfl); (case hr => first | (go_simp; done) | (go_simp; rfl)); (case hp => exact (Reps.none _ _)); intro v102 w3 ho4 hb hg_ hnew_; clear hg_ hnew_; (first | rw [← Ny101.out] at ho4 | (simp only [Int.reduceToNat] at ho4; rw [← Ny101.out] at ho4)); have n0_ := Aside0.mk (Kd.R_lower ho4 (below_size (by repeat (first | (with_reducible first | exact HB.out | apply below_alloc | apply pw_below_drewN | apply below_drew1) | exact HB.out)))); have n1_ := Aside0.mk (below_step (by repeat (first | (with_reducible first | exact HB.out | apply below_alloc | apply pw_below_drewN | apply below_drew1) | exact HB.out)) hb); clear HB; have HO103 := n0_; have HB := n1_; clear n0_ n1_; clear hb ho4) | ((with_reducible refine gate_builtin (b := .append) (xs := #[.tmp 5, .tmp 6]) rfl ?_); at_builtin; refine Kd.R_append_rows k36 (w0 := w) w.heap.size rfl (.tmp 5) (.tmp 6) 22 36 (.agg #[(.int .u64 0), (.int .u64 0)]) 16 rfl Tryd.underlying22 info36 rfl (by decide) (by omega) v102 y101 l0 _ _ _ (fun _ => True) (fun _ => False) rfl rfl ?aO ?aR (fun _ _ h => h) (fun _ h => h.elim) ?aF ?aB ?aS ?aL ?_; (case aR => repeat (first | exact (Kd.C_below HR0.out HB.out) | (with_reducible refine Kd.C_alloc ?_ _) | (with_reducible refine Kd.C_drewN ?_ _) | (with_reducible refine Kd.C_drew ?_))); (case aB => exact (by repeat (first | (with_reducible first | exact HB.out | apply below_alloc | apply pw_below_drewN | apply below_drew1) | exact HB.out))); (case aF => exact (fun _ _ => trivial)); (case aO => exact (by (with_reducible repeat (first | apply Kd.R_alloc | apply Kd.R_drewN | apply Kd.R_drew)); exact HO103.out)); (case aS => exact (below_size (by repeat (first | (with_reducible first | exact HB.out | apply below_alloc | apply pw_below_drewN | apply below_drew1) | exact HB.out)))); (case aL => have := LMc2.out; omega); intro v105 w5 ho hb hg hat; rw [← Ny104.out] at ho; have n0_ := Aside0.mk (hb); have n1_ := Aside0.mk (ho); clear HB; clear HO103; have HB := n0_; have HO106 := n1_; clear n0_ n1_; clear ho hb hg hat))
    go_ret
    exact ⟨_, by first | rfl | (simp [errW_none, errW_some] <;> rfl) | (simp [*, errW_none, errW_some] <;> rfl), by (with_reducible repeat (first | apply Kd.R_alloc | apply Kd.R_drewN | apply Kd.R_drew)); exact HO106.out, by repeat (first | (with_reducible first | exact HB.out | apply below_alloc | apply pw_below_drewN | apply below_drew1) | exact HB.out)⟩
  · rw [if_neg c2] at H
    exact absurd H (by simp)
set_option maxHeartbeats 1000000 in
theorem slices_Clone.calls_none (c0 : Nat) (l0 : List (S36)) (r : List (S36)) (w : World) (hr0 : Kd.C k36 w none l0.length l0) (hc0 : l0.length ≤ c0) (h : slices_Clone.f l0 = some r) :
    Calls Tryd.prog 45 #[.slice none l0.length c0] w fun e w' => ∃ v0_ : Value, e = .returned (v0_) ∧ Kd.R k36 36 w' w.heap.size (fun _ => True) v0_ r ∧ Below w.heap.size w w' := by
  have hl0 : l0 = [] := by
    by_cases hz : l0.length = 0
    · exact List.eq_nil_of_length_eq_zero hz
    · obtain ⟨ad, c, e, _⟩ := Kd.C_get hr0 z36 0 (by omega) (by omega)
      cases e
  subst hl0
  unfold slices_Clone.f at h
  have hr : r = [] := by simp at h; first | exact h | exact h.symm
  subst hr
  clear h hr0 hc0
  have hnil := fun (W : World) => Lib.run_eql_slice_nil (P := Tryd.prog) W 22 36 none 0 c0 0 0 Tryd.underlying22
  go_enter Tryd.func45, Tryd.ntmps45
  go_wp2
  go_ret
  exact ⟨_, rfl, by first | exact Kd.R_nil _ _ _ _ _ | exact Kd.S_nil _ _ _ _ _ | exact Kd.N_nil _ _ _ _ _ | exact Kd.V_nil _ _ _ _ _ | exact Kd.Q_nil _ _ _ _ _, Below.refl _ _⟩
theorem slices_Clone.calls (A0 : Option Addr) (c0 : Nat) (l0 : List (S36)) (r : List (S36)) (w : World) (hr0 : Kd.C k36 w A0 l0.length l0) (hc0 : l0.length ≤ c0) (h : slices_Clone.f l0 = some r) :
    Calls Tryd.prog 45 #[.slice A0 l0.length c0] w fun e w' => ∃ v0_ : Value, e = .returned (v0_) ∧ Kd.R k36 36 w' w.heap.size (fun _ => True) v0_ r ∧ Below w.heap.size w w' := by
  cases A0 with
  | none => exact slices_Clone.calls_none c0 l0 r w hr0 hc0 h
  | some a => exact slices_Clone.calls_some a c0 l0 r w hr0 hc0 h
end Go.Proofs.YtpnpmeogffodgaaDoor.Q
end
section
namespace Go.Proofs.YtpnpmeogffodgaaDoor.Q
open Go.RowKit Go.Proofs.YtpnpmeogffodgaaDoorW.PrintWords Go.Proofs.YtpnpmeogffodgaaDoorW.PrintLast Go.Proofs.YtpnpmeogffodgaaDoorW.PrintMore
attribute [local go_sem] max2_int min2_int max_two min_two max_three min_three max_four min_four run_store_fnV run_store_fnc run_store_nfn   -- for this text's walks alone
set_option linter.unusedVariables false
set_option linter.unusedSimpArgs false

/-! ### tree_Cap: function 19 -/
def tree_Cap.f (k : Nat) (a0_0 : Int) (a0_1 : Int) (a0_2 : Int) (l0_3 : List (List (S36))) : Option ((List (S36))) := (tree_Valid.f k a0_0 a0_1 a0_2 l0_3).bind fun t158 => (if t158 = true then (if 0 ≤ (wrap64 ((l0_3.length : Int) - 1)) then (if (wrap64 ((l0_3.length : Int) - 1)) < (l0_3.length : Int) then ((slices_Clone.f (rd_L3 l0_3 (wrap64 ((l0_3.length : Int) - 1)))).bind fun t160 => (some t160)) else (none)) else (none)) else (some ([] : List (S36))))
theorem tree_Cap.mono : ∀ a0 a1 a2 a3 k, LeO (tree_Cap.f k a0 a1 a2 a3) (tree_Cap.f (k + 1) a0 a1 a2 a3) := by
  intro a0 a1 a2 a3 k
  unfold tree_Cap.f
  repeat' first
      | (with_reducible exact tree_Valid.mono _ _ _ _ _)
      | (with_reducible exact LeO.refl _)
      | (with_reducible exact LeO.none _)
      | (with_reducible refine LeO.ite ?_ ?_)
      | (with_reducible refine LeO.bind ?_ (fun _ => ?_))
      | exact tree_Valid.mono _ _ _ _ _
      | exact LeO.none _
      | refine LeO.ite ?_ ?_
      | refine LeO.bind ?_ (fun _ => ?_)
set_option maxHeartbeats 8000000 in
set_option maxRecDepth 100000 in
theorem tree_Cap.calls (k : Nat) (a0_0 : Int) (a0_1 : Int) (a0_2 : Int) (A0_3 : Option Addr) (c0_3 : Nat) (l0_3 : List (List (S36))) (r : List (S36)) (w : World) (hr0_3 : Kd.C (Kd.slice 36 k36) w A0_3 l0_3.length l0_3) (hc0_3 : l0_3.length ≤ c0_3) (hrG : GL w) (h : tree_Cap.f k a0_0 a0_1 a0_2 l0_3 = some r) :
  Calls Tryd.prog 19 #[.agg #[.int .i64 a0_0, .int .i64 a0_1, .int .i64 a0_2, .slice A0_3 l0_3.length c0_3]] w fun e w' => ∃ v0_ : Value, e = .returned (v0_) ∧ Kd.R k36 36 w' w.heap.size (fun _ => True) v0_ r ∧ Below w.heap.size w w' := by
 have hu26 := Tryd.underlying26
 have HRG := Aside0.mk hrG
 clear hrG
 have HR0_3 := Aside0.mk hr0_3
 have HC0_3 := Aside0.mk hc0_3
 clear hr0_3 hc0_3
 have HB := Aside0.mk (Below.refl w.heap.size w)
 have H : ((tree_Valid.f k a0_0 a0_1 a0_2 l0_3).bind fun t158 => (if t158 = true then (if 0 ≤ (wrap64 ((l0_3.length : Int) - 1)) then (if (wrap64 ((l0_3.length : Int) - 1)) < (l0_3.length : Int) then ((slices_Clone.f (rd_L3 l0_3 (wrap64 ((l0_3.length : Int) - 1)))).bind fun t160 => (some t160)) else (none)) else (none)) else (some ([] : List (S36))))) = some r := h
 clear h
 replace H := Option.bind_eq_some_iff.mp H
 obtain ⟨t158, A20, H⟩ := H
 have A2 := Aside0.mk A20
 clear A20
 by_cases c3 : t158 = true
 ·subst c3
  have H1 : (if 0 ≤ (wrap64 ((l0_3.length : Int) - 1)) then (if (wrap64 ((l0_3.length : Int) - 1)) < (l0_3.length : Int) then ((slices_Clone.f (rd_L3 l0_3 (wrap64 ((l0_3.length : Int) - 1)))).bind fun t160 => (some t160)) else (none)) else (none)) = some r := by rw [if_pos rfl] at H; exact H
  clear H
  have H := H1
  clear H1
  obtain ⟨ji4, hji4⟩ : ∃ j_ : Int, (wrap64 ((l0_3.length : Int) - 1)) = j_ := ⟨_, rfl⟩
  replace H : (if 0 ≤ (ji4) then (if (ji4) < (l0_3.length : Int) then ((slices_Clone.f (rd_L3 l0_3 (ji4))).bind fun t160 => (some t160)) else (none)) else (none)) = some r := by first | (rw [hji4] at H; exact H) | (simp only [hji4] at H ⊢; exact H)
  (try rw [hji4] at A2)
  have hji4w : (IntKind.i64.wrap ((l0_3.length : Int) - 1)) = ji4 := (i64_w _).trans hji4
  by_cases c5 : 0 ≤ (ji4)
  ·rw [if_pos c5] at H
   have c5b0 : decide (0 ≤ (ji4)) = true := decide_eq_true c5
   clear c5
   by_cases c6 : (ji4) < (l0_3.length : Int)
   ·rw [if_pos c6] at H
    have c6b0 : decide ((ji4) < (l0_3.length : Int)) = true := decide_eq_true c6
    clear c6
    replace H := Option.bind_eq_some_iff.mp H
    obtain ⟨t160, A70, H⟩ := H
    have A7 := Aside0.mk A70
    clear A70
    obtain rfl := Option.some.inj H
    go_enter Tryd.func19, Tryd.ntmps19
    go_wp2_with (first | ((with_reducible refine gate_dst (N := 1) rfl ?_); refine box_event ?hg (N := 1) ?hd (cs := #[.int .i64 a0_0, .int .i64 a0_1, .int .i64 a0_2, .slice A0_3 l0_3.length c0_3]) (t := 26) ?hr ?_; (case hd => rfl); (case hg => rfl); (case hr => first | (go_simp; done) | (go_simp; rfl)); intro g157 hg w8 hbox hb; have n0_ := Aside0.mk (below_step (by repeat (first | (with_reducible first | exact HB.out | apply below_alloc | apply pw_below_drewN | apply below_drew1) | exact HB.out)) hb); have n1_ := Aside0.mk (hbox); have n2_ := Aside0.mk ((by rw [hg]; exact (below_size (by repeat (first | (with_reducible first | exact HB.out | apply below_alloc | apply pw_below_drewN | apply below_drew1) | exact HB.out))) : w.heap.size ≤ g157)); have n3_ := Aside0.mk ((by rw [hg]; exact (below_size (by repeat (first | (with_reducible first | exact HB.out | apply below_alloc | apply pw_below_drewN | apply below_drew1) | exact HB.out))) : w.heap.size ≤ g157)); clear HB; have HB := n0_; have B157 := n1_; have GW157 := n2_; have GE157 := n3_; clear n0_ n1_ n2_ n3_; clear hb hbox hg; have hcz9_0 : w8.cell? ⟨g157, 0, none⟩ = some (.int .i64 a0_0) := bq_ B157 0; have hcz9_1 : w8.cell? ⟨g157, 1, none⟩ = some (.int .i64 a0_1) := bq_ B157 1; have hcz9_2 : w8.cell? ⟨g157, 2, none⟩ = some (.int .i64 a0_2) := bq_ B157 2; have hcz9_3 : w8.cell? ⟨g157, 3, none⟩ = some (.slice A0_3 l0_3.length c0_3) := bq_ B157 3; have hfz9_0 := blk_frozen B157.out 0; have hfz9_1 := blk_frozen B157.out 1; have hfz9_2 := blk_frozen B157.out 2; have hfz9_3 := blk_frozen B157.out 3) | ((with_reducible refine gate_callee (f := 16) rfl ?_); refine goesL_ (some 4) rfl rfl Tryd.func16 (by kernel_rfl) rfl #[.agg #[.int .i64 a0_0, .int .i64 a0_1, .int .i64 a0_2, .slice A0_3 l0_3.length c0_3]] rfl (by (try simp only [List.map_toArray, List.map_cons, List.map_nil]); first | done | rfl | (go_simp; done)) ?_; (with_reducible refine (tree_Valid.calls k a0_0 a0_1 a0_2 _ _ l0_3 true _ ?side1 ?side2 ?side3 A2.out).mono ?_); (case side1 => repeat (first | exact (Kd.C_below HR0_3.out HB.out) | (with_reducible refine Kd.C_alloc ?_ _) | (with_reducible refine Kd.C_drewN ?_ _) | (with_reducible refine Kd.C_drew ?_))); (case side2 => exact HC0_3.out); (case side3 => repeat (first | exact (GL.below HRG.out HB.out) | (with_reducible refine GL.alloc ?_ _) | (with_reducible refine GL.drewN ?_ _) | (with_reducible refine GL.drew ?_))); rintro e w10 ⟨rfl, hb⟩; refine ⟨_, rfl, ?_⟩; have n0_ := Aside0.mk (blk_below (g := g157) (o := .cells #[.int .i64 a0_0, .int .i64 a0_1, .int .i64 a0_2, .slice A0_3 l0_3.length c0_3] 26 (0, 0)) (by exact B157.out) hb); have n1_ := Aside0.mk (below_step (by repeat (first | (with_reducible first | exact HB.out | apply below_alloc | apply pw_below_drewN | apply below_drew1 | refine below_set ?_ GE157.out) | exact HB.out)) hb); clear B157; clear HB; have B157 := n0_; have HB := n1_; clear n0_ n1_; (try clear hb); (try clear hb2); (try clear hk); (try clear hi); have hcz11_0 : w10.cell? ⟨g157, 0, none⟩ = some (.int .i64 a0_0) := bq_ B157 0; have hcz11_1 : w10.cell? ⟨g157, 1, none⟩ = some (.int .i64 a0_1) := bq_ B157 1; have hcz11_2 : w10.cell? ⟨g157, 2, none⟩ = some (.int .i64 a0_2) := bq_ B157 2; have hcz11_3 : w10.cell? ⟨g157, 3, none⟩ = some (.slice A0_3 l0_3.length c0_3) := bq_ B157 3; have hfz11_0 := blk_frozen B157.out 0; have hfz11_1 := blk_frozen B157.out 1; have hfz11_2 := blk_frozen B157.out 2; have hfz11_3 := blk_frozen B157.out 3; have p159 : 0 ≤ ((ji4) : Int) := of_decide_eq_true (by first | (with_reducible assumption) | assumption); have q159 : (ji4) < (l0_3.length : Int) := of_decide_eq_true (by first | (with_reducible assumption) | assumption); obtain ⟨ad159, A159_0, c159_0, e159, hx159_0, hl159_0, hi159_0⟩ := at_L3 HR0_3.out (ji4) p159 q159; cases e159; replace hx159_0 := (HB.out.cell (World.block_lt_of_cell? w _ hx159_0)).trans hx159_0; have HR159_0 := Aside0.mk hi159_0; have HC159_0 := Aside0.mk hl159_0; clear hi159_0 hl159_0; replace p159 := eq_true p159; replace q159 := eq_true q159) | ((with_reducible refine gate_callee (f := 45) rfl ?_); refine goesL_ (some 14) rfl rfl Tryd.func45 (by kernel_rfl) rfl #[.slice A159_0 (rd_L3 l0_3 (ji4)).length c159_0] rfl (by (try simp only [List.map_toArray, List.map_cons, List.map_nil]); first | done | (simp only [hji4]; rfl) | rfl | (simp only [List.length_drop, List.length_take]; rfl) | (go_simp; done) | (go_simp; rw [Int.tmod_eq_emod_of_nonneg (by omega)]; omega)) ?_; (with_reducible refine (slices_Clone.calls _ _ (rd_L3 l0_3 (ji4)) t160 _ ?side1 ?side2 A7.out).mono ?_); (case side1 => repeat (first | exact (Kd.C_below HR159_0.out HB.out) | (with_reducible refine Kd.C_alloc ?_ _) | (with_reducible refine Kd.C_drewN ?_ _) | (with_reducible refine Kd.C_drew ?_))); (case side2 => exact HC159_0.out); rintro e w12 ⟨v161, rfl, ho0, hb⟩; refine ⟨_, rfl, ?_⟩; have n0_ := Aside0.mk (Kd.R_lower ho0 (below_size (by repeat (first | (with_reducible first | exact HB.out | apply below_alloc | apply pw_below_drewN | apply below_drew1 | refine below_set ?_ GE157.out) | exact HB.out)))); have n1_ := Aside0.mk (blk_below (g := g157) (o := .cells #[.int .i64 a0_0, .int .i64 a0_1, .int .i64 a0_2, .slice (some ad159) l0_3.length c0_3] 26 (0, 0)) (by exact B157.out) hb); have n2_ := Aside0.mk (below_step (by repeat (first | (with_reducible first | exact HB.out | apply below_alloc | apply pw_below_drewN | apply below_drew1 | refine below_set ?_ GE157.out) | exact HB.out)) hb); clear B157; clear HB; have HO162 := n0_; have B157 := n1_; have HB := n2_; clear n0_ n1_ n2_; (try clear hb); (try clear hb2); (try clear hk); (try clear hi); (try clear ho0)))
    go_ret
    exact ⟨_, by first | rfl | (simp [errW_none, errW_some] <;> rfl) | (simp only [← hji4]; first | rfl | (simp [errW_none, errW_some] <;> rfl)) | (simp [*, errW_none, errW_some] <;> rfl), by (with_reducible repeat (first | apply Kd.R_alloc | apply Kd.R_drewN | apply Kd.R_drew)); exact HO162.out, by repeat (first | (with_reducible first | exact HB.out | apply below_alloc | apply pw_below_drewN | apply below_drew1 | refine below_set ?_ GE157.out) | exact HB.out)⟩
   ·rw [if_neg c6] at H
    exact absurd H (by simp)
  ·rw [if_neg c5] at H
   exact absurd H (by simp)
 ·replace c3 := Bool.eq_false_iff.mpr c3
  subst c3
  have H1 : (some ([] : List (S36))) = some r := by rw [if_neg (show ¬ (false = true) by decide)] at H; exact H
  clear H
  have H := H1
  clear H1
  obtain rfl := Option.some.inj H
  go_enter Tryd.func19, Tryd.ntmps19
  go_wp2_with (first | ((with_reducible refine gate_dst (N := 1) rfl ?_); refine box_event ?hg (N := 1) ?hd (cs := #[.int .i64 a0_0, .int .i64 a0_1, .int .i64 a0_2, .slice A0_3 l0_3.length c0_3]) (t := 26) ?hr ?_; (case hd => rfl); (case hg => rfl); (case hr => first | (go_simp; done) | (go_simp; rfl)); intro g157 hg w13 hbox hb; have n0_ := Aside0.mk (below_step (by repeat (first | (with_reducible first | exact HB.out | apply below_alloc | apply pw_below_drewN | apply below_drew1) | exact HB.out)) hb); have n1_ := Aside0.mk (hbox); have n2_ := Aside0.mk ((by rw [hg]; exact (below_size (by repeat (first | (with_reducible first | exact HB.out | apply below_alloc | apply pw_below_drewN | apply below_drew1) | exact HB.out))) : w.heap.size ≤ g157)); have n3_ := Aside0.mk ((by rw [hg]; exact (below_size (by repeat (first | (with_reducible first | exact HB.out | apply below_alloc | apply pw_below_drewN | apply below_drew1) | exact HB.out))) : w.heap.size ≤ g157)); clear HB; have HB := n0_; have B157 := n1_; have GW157 := n2_; have GE157 := n3_; clear n0_ n1_ n2_ n3_; clear hb hbox hg; have hcz14_0 : w13.cell? ⟨g157, 0, none⟩ = some (.int .i64 a0_0) := bq_ B157 0; have hcz14_1 : w13.cell? ⟨g157, 1, none⟩ = some (.int .i64 a0_1) := bq_ B157 1; have hcz14_2 : w13.cell? ⟨g157, 2, none⟩ = some (.int .i64 a0_2) := bq_ B157 2; have hcz14_3 : w13.cell? ⟨g157, 3, none⟩ = some (.slice A0_3 l0_3.length c0_3) := bq_ B157 3; have hfz14_0 := blk_frozen B157.out 0; have hfz14_1 := blk_frozen B157.out 1; have hfz14_2 := blk_frozen B157.out 2; have hfz14_3 := blk_frozen B157.out 3) | ((with_reducible refine gate_callee (f := 16) rfl ?_); refine goesL_ (some 4) rfl rfl Tryd.func16 (by kernel_rfl) rfl #[.agg #[.int .i64 a0_0, .int .i64 a0_1, .int .i64 a0_2, .slice A0_3 l0_3.length c0_3]] rfl (by (try simp only [List.map_toArray, List.map_cons, List.map_nil]); first | done | rfl | (go_simp; done)) ?_; (with_reducible refine (tree_Valid.calls k a0_0 a0_1 a0_2 _ _ l0_3 false _ ?side1 ?side2 ?side3 A2.out).mono ?_); (case side1 => repeat (first | exact (Kd.C_below HR0_3.out HB.out) | (with_reducible refine Kd.C_alloc ?_ _) | (with_reducible refine Kd.C_drewN ?_ _) | (with_reducible refine Kd.C_drew ?_))); (case side2 => exact HC0_3.out); (case side3 => repeat (first | exact (GL.below HRG.out HB.out) | (with_reducible refine GL.alloc ?_ _) | (with_reducible refine GL.drewN ?_ _) | (with_reducible refine GL.drew ?_))); rintro e w15 ⟨rfl, hb⟩; refine ⟨_, rfl, ?_⟩; have n0_ := Aside0.mk (blk_below (g := g157) (o := .cells #[.int .i64 a0_0, .int .i64 a0_1, .int .i64 a0_2, .slice A0_3 l0_3.length c0_3] 26 (0, 0)) (by exact B157.out) hb); have n1_ := Aside0.mk (below_step (by repeat (first | (with_reducible first | exact HB.out | apply below_alloc | apply pw_below_drewN | apply below_drew1 | refine below_set ?_ GE157.out) | exact HB.out)) hb); clear B157; clear HB; have B157 := n0_; have HB := n1_; clear n0_ n1_; (try clear hb); (try clear hb2); (try clear hk); (try clear hi)))
  go_ret
  exact ⟨_, by first | rfl | (simp [errW_none, errW_some] <;> rfl) | (simp [*, errW_none, errW_some] <;> rfl), by first | exact Kd.R_nil _ _ _ _ _ | exact Kd.N_nil _ _ _ _ _ | exact Kd.V_nil _ _ _ _ _ | exact Kd.Q_nil _ _ _ _ _ | exact Kd.S_nil _ _ _ _ _, by repeat (first | (with_reducible first | exact HB.out | apply below_alloc | apply pw_below_drewN | apply below_drew1 | refine below_set ?_ GE157.out) | exact HB.out)⟩

end Go.Proofs.YtpnpmeogffodgaaDoor.Q
end
section
namespace Go.Proofs.YtpnpmeogffodgaaDoor.Q
open Go.RowKit Go.Proofs.YtpnpmeogffodgaaDoorW.PrintWords Go.Proofs.YtpnpmeogffodgaaDoorW.PrintLast Go.Proofs.YtpnpmeogffodgaaDoorW.PrintMore
attribute [local go_sem] max2_int min2_int max_two min_two max_three min_three max_four min_four run_store_fnV run_store_fnc run_store_nfn   -- for this text's walks alone
set_option linter.unusedVariables false
set_option linter.unusedSimpArgs false

/-! ### tree_place: function 46 -/
def tree_place.f (k : Nat) (a0_0 : Int) (a0_1 : Int) (a0_2 : Int) (l0_3 : List (List (S36))) (a1 : Int) : Option (Int) := (tree_Valid.f k a0_0 a0_1 a0_2 l0_3).bind fun t164 => (if t164 = true then (if a1 < 0 then (some 2) else (if 0 < (l0_3.length : Int) then (if a1 ≥ ((rd_L3 l0_3 0).length : Int) then (some 2) else (some 0)) else (none))) else (some 1))
theorem tree_place.mono : ∀ a0 a1 a2 a3 a4 k, LeO (tree_place.f k a0 a1 a2 a3 a4) (tree_place.f (k + 1) a0 a1 a2 a3 a4) := by
  intro a0 a1 a2 a3 a4 k
  unfold tree_place.f
  repeat' first
      | (with_reducible exact tree_Valid.mono _ _ _ _ _)
      | (with_reducible exact LeO.refl _)
      | (with_reducible exact LeO.none _)
      | (with_reducible refine LeO.ite ?_ ?_)
      | (with_reducible refine LeO.bind ?_ (fun _ => ?_))
      | exact tree_Valid.mono _ _ _ _ _
      | exact LeO.none _
      | refine LeO.ite ?_ ?_
      | refine LeO.bind ?_ (fun _ => ?_)
set_option maxHeartbeats 8000000 in
set_option maxRecDepth 100000 in
theorem tree_place.calls (k : Nat) (a0_0 : Int) (a0_1 : Int) (a0_2 : Int) (A0_3 : Option Addr) (c0_3 : Nat) (l0_3 : List (List (S36))) (a1 : Int) (r : Int) (w : World) (hr0_3 : Kd.C (Kd.slice 36 k36) w A0_3 l0_3.length l0_3) (hc0_3 : l0_3.length ≤ c0_3) (hrG : GL w) (h : tree_place.f k a0_0 a0_1 a0_2 l0_3 a1 = some r) :
  Calls Tryd.prog 46 #[.agg #[.int .i64 a0_0, .int .i64 a0_1, .int .i64 a0_2, .slice A0_3 l0_3.length c0_3], .int .i64 a1] w fun e w' => e = .returned (.int .i64 r) ∧ Below w.heap.size w w' := by
 have hu26 := Tryd.underlying26
 have HRG := Aside0.mk hrG
 clear hrG
 have HR0_3 := Aside0.mk hr0_3
 have HC0_3 := Aside0.mk hc0_3
 clear hr0_3 hc0_3
 have HB := Aside0.mk (Below.refl w.heap.size w)
 have H : ((tree_Valid.f k a0_0 a0_1 a0_2 l0_3).bind fun t164 => (if t164 = true then (if a1 < 0 then (some 2) else (if 0 < (l0_3.length : Int) then (if a1 ≥ ((rd_L3 l0_3 0).length : Int) then (some 2) else (some 0)) else (none))) else (some 1))) = some r := h
 clear h
 replace H := Option.bind_eq_some_iff.mp H
 obtain ⟨t164, A30, H⟩ := H
 have A3 := Aside0.mk A30
 clear A30
 by_cases c4 : t164 = true
 ·subst c4
  have H1 : (if a1 < 0 then (some 2) else (if 0 < (l0_3.length : Int) then (if a1 ≥ ((rd_L3 l0_3 0).length : Int) then (some 2) else (some 0)) else (none))) = some r := by rw [if_pos rfl] at H; exact H
  clear H
  have H := H1
  clear H1
  by_cases c5 : a1 < 0
  ·rw [if_pos c5] at H
   have c5b0 : decide (a1 < 0) = true := decide_eq_true c5
   clear c5
   obtain rfl := Option.some.inj H
   go_enter Tryd.func46, Tryd.ntmps46
   go_wp2_with (first | ((with_reducible refine gate_dst (N := 2) rfl ?_); (try (refine gate_guard (by rfl) ?_; dsimp only)); refine box_event ?hg (N := 2) ?hd (cs := #[.int .i64 a0_0, .int .i64 a0_1, .int .i64 a0_2, .slice A0_3 l0_3.length c0_3]) (t := 26) ?hr ?_; (case hd => rfl); (case hg => rfl); (case hr => first | (go_simp; done) | (go_simp; rfl)); intro g163 hg w6 hbox hb; have n0_ := Aside0.mk (below_step (by repeat (first | (with_reducible first | exact HB.out | apply below_alloc | apply pw_below_drewN | apply below_drew1) | exact HB.out)) hb); have n1_ := Aside0.mk (hbox); have n2_ := Aside0.mk ((by rw [hg]; exact (below_size (by repeat (first | (with_reducible first | exact HB.out | apply below_alloc | apply pw_below_drewN | apply below_drew1) | exact HB.out))) : w.heap.size ≤ g163)); have n3_ := Aside0.mk ((by rw [hg]; exact (below_size (by repeat (first | (with_reducible first | exact HB.out | apply below_alloc | apply pw_below_drewN | apply below_drew1) | exact HB.out))) : w.heap.size ≤ g163)); clear HB; have HB := n0_; have B163 := n1_; have GW163 := n2_; have GE163 := n3_; clear n0_ n1_ n2_ n3_; clear hb hbox hg; have hcz7_0 : w6.cell? ⟨g163, 0, none⟩ = some (.int .i64 a0_0) := bq_ B163 0; have hcz7_1 : w6.cell? ⟨g163, 1, none⟩ = some (.int .i64 a0_1) := bq_ B163 1; have hcz7_2 : w6.cell? ⟨g163, 2, none⟩ = some (.int .i64 a0_2) := bq_ B163 2; have hcz7_3 : w6.cell? ⟨g163, 3, none⟩ = some (.slice A0_3 l0_3.length c0_3) := bq_ B163 3; have hfz7_0 := blk_frozen B163.out 0; have hfz7_1 := blk_frozen B163.out 1; have hfz7_2 := blk_frozen B163.out 2; have hfz7_3 := blk_frozen B163.out 3) | ((with_reducible refine gate_callee (f := 16) rfl ?_); refine goesL_ (some 7) rfl rfl Tryd.func16 (by kernel_rfl) rfl #[.agg #[.int .i64 a0_0, .int .i64 a0_1, .int .i64 a0_2, .slice A0_3 l0_3.length c0_3]] rfl (by (try simp only [List.map_toArray, List.map_cons, List.map_nil]); first | done | rfl | (go_simp; done)) ?_; (with_reducible refine (tree_Valid.calls k a0_0 a0_1 a0_2 _ _ l0_3 true _ ?side1 ?side2 ?side3 A3.out).mono ?_); (case side1 => repeat (first | exact (Kd.C_below HR0_3.out HB.out) | (with_reducible refine Kd.C_alloc ?_ _) | (with_reducible refine Kd.C_drewN ?_ _) | (with_reducible refine Kd.C_drew ?_))); (case side2 => exact HC0_3.out); (case side3 => repeat (first | exact (GL.below HRG.out HB.out) | (with_reducible refine GL.alloc ?_ _) | (with_reducible refine GL.drewN ?_ _) | (with_reducible refine GL.drew ?_))); rintro e w8 ⟨rfl, hb⟩; refine ⟨_, rfl, ?_⟩; have n0_ := Aside0.mk (blk_below (g := g163) (o := .cells #[.int .i64 a0_0, .int .i64 a0_1, .int .i64 a0_2, .slice A0_3 l0_3.length c0_3] 26 (0, 0)) (by exact B163.out) hb); have n1_ := Aside0.mk (below_step (by repeat (first | (with_reducible first | exact HB.out | apply below_alloc | apply pw_below_drewN | apply below_drew1 | refine below_set ?_ GE163.out) | exact HB.out)) hb); clear B163; clear HB; have B163 := n0_; have HB := n1_; clear n0_ n1_; (try clear hb); (try clear hb2); (try clear hk); (try clear hi)))
   go_ret
   exact ⟨by first | rfl | (simp [errW_none, errW_some] <;> rfl) | (simp [*, errW_none, errW_some] <;> rfl), by repeat (first | (with_reducible first | exact HB.out | apply below_alloc | apply pw_below_drewN | apply below_drew1 | refine below_set ?_ GE163.out) | exact HB.out)⟩
  ·rw [if_neg c5] at H
   have c5b0 : decide (a1 < 0) = false := decide_eq_false c5
   clear c5
   by_cases c9 : 0 < (l0_3.length : Int)
   ·rw [if_pos c9] at H
    have c9b0 : decide (0 < (l0_3.length : Int)) = true := decide_eq_true c9
    have c9b1 : decide (0 < l0_3.length) = true := decide_eq_true (by omega)
    clear c9
    by_cases c10 : a1 ≥ ((rd_L3 l0_3 0).length : Int)
    ·rw [if_pos c10] at H
     have c10b0 : decide (((rd_L3 l0_3 0).length : Int) ≤ a1) = true := decide_eq_true c10
     clear c10
     obtain rfl := Option.some.inj H
     go_enter Tryd.func46, Tryd.ntmps46
     go_wp2_with (first | ((with_reducible refine gate_dst (N := 2) rfl ?_); (try (refine gate_guard (by rfl) ?_; dsimp only)); refine box_event ?hg (N := 2) ?hd (cs := #[.int .i64 a0_0, .int .i64 a0_1, .int .i64 a0_2, .slice A0_3 l0_3.length c0_3]) (t := 26) ?hr ?_; (case hd => rfl); (case hg => rfl); (case hr => first | (go_simp; done) | (go_simp; rfl)); intro g163 hg w11 hbox hb; have n0_ := Aside0.mk (below_step (by repeat (first | (with_reducible first | exact HB.out | apply below_alloc | apply pw_below_drewN | apply below_drew1) | exact HB.out)) hb); have n1_ := Aside0.mk (hbox); have n2_ := Aside0.mk ((by rw [hg]; exact (below_size (by repeat (first | (with_reducible first | exact HB.out | apply below_alloc | apply pw_below_drewN | apply below_drew1) | exact HB.out))) : w.heap.size ≤ g163)); have n3_ := Aside0.mk ((by rw [hg]; exact (below_size (by repeat (first | (with_reducible first | exact HB.out | apply below_alloc | apply pw_below_drewN | apply below_drew1) | exact HB.out))) : w.heap.size ≤ g163)); clear HB; have HB := n0_; have B163 := n1_; have GW163 := n2_; have GE163 := n3_; clear n0_ n1_ n2_ n3_; clear hb hbox hg; have hcz12_0 : w11.cell? ⟨g163, 0, none⟩ = some (.int .i64 a0_0) := bq_ B163 0; have hcz12_1 : w11.cell? ⟨g163, 1, none⟩ = some (.int .i64 a0_1) := bq_ B163 1; have hcz12_2 : w11.cell? ⟨g163, 2, none⟩ = some (.int .i64 a0_2) := bq_ B163 2; have hcz12_3 : w11.cell? ⟨g163, 3, none⟩ = some (.slice A0_3 l0_3.length c0_3) := bq_ B163 3; have hfz12_0 := blk_frozen B163.out 0; have hfz12_1 := blk_frozen B163.out 1; have hfz12_2 := blk_frozen B163.out 2; have hfz12_3 := blk_frozen B163.out 3) | ((with_reducible refine gate_callee (f := 16) rfl ?_); refine goesL_ (some 7) rfl rfl Tryd.func16 (by kernel_rfl) rfl #[.agg #[.int .i64 a0_0, .int .i64 a0_1, .int .i64 a0_2, .slice A0_3 l0_3.length c0_3]] rfl (by (try simp only [List.map_toArray, List.map_cons, List.map_nil]); first | done | rfl | (go_simp; done)) ?_; (with_reducible refine (tree_Valid.calls k a0_0 a0_1 a0_2 _ _ l0_3 true _ ?side1 ?side2 ?side3 A3.out).mono ?_); (case side1 => repeat (first | exact (Kd.C_below HR0_3.out HB.out) | (with_reducible refine Kd.C_alloc ?_ _) | (with_reducible refine Kd.C_drewN ?_ _) | (with_reducible refine Kd.C_drew ?_))); (case side2 => exact HC0_3.out); (case side3 => repeat (first | exact (GL.below HRG.out HB.out) | (with_reducible refine GL.alloc ?_ _) | (with_reducible refine GL.drewN ?_ _) | (with_reducible refine GL.drew ?_))); rintro e w13 ⟨rfl, hb⟩; refine ⟨_, rfl, ?_⟩; have n0_ := Aside0.mk (blk_below (g := g163) (o := .cells #[.int .i64 a0_0, .int .i64 a0_1, .int .i64 a0_2, .slice A0_3 l0_3.length c0_3] 26 (0, 0)) (by exact B163.out) hb); have n1_ := Aside0.mk (below_step (by repeat (first | (with_reducible first | exact HB.out | apply below_alloc | apply pw_below_drewN | apply below_drew1 | refine below_set ?_ GE163.out) | exact HB.out)) hb); clear B163; clear HB; have B163 := n0_; have HB := n1_; clear n0_ n1_; (try clear hb); (try clear hb2); (try clear hk); (try clear hi); have hcz14_0 : w13.cell? ⟨g163, 0, none⟩ = some (.int .i64 a0_0) := bq_ B163 0; have hcz14_1 : w13.cell? ⟨g163, 1, none⟩ = some (.int .i64 a0_1) := bq_ B163 1; have hcz14_2 : w13.cell? ⟨g163, 2, none⟩ = some (.int .i64 a0_2) := bq_ B163 2; have hcz14_3 : w13.cell? ⟨g163, 3, none⟩ = some (.slice A0_3 l0_3.length c0_3) := bq_ B163 3; have hfz14_0 := blk_frozen B163.out 0; have hfz14_1 := blk_frozen B163.out 1; have hfz14_2 := blk_frozen B163.out 2; have hfz14_3 := blk_frozen B163.out 3; have p165 : 0 ≤ (0 : Int) := (by omega); have q165 : 0 < (l0_3.length : Int) := of_decide_eq_true (by first | (with_reducible assumption) | assumption); obtain ⟨ad165, A165_0, c165_0, e165, hx165_0, hl165_0, hi165_0⟩ := at_L3 HR0_3.out 0 p165 q165; cases e165; have qi165 : (0 < l0_3.length) = True := eq_true (by omega); (try rw [show ((0 : Int)).toNat = 0 from rfl] at hx165_0); (try rw [Addr.add_zero'] at hx165_0); replace hx165_0 := (HB.out.cell (World.block_lt_of_cell? w _ hx165_0)).trans hx165_0; have HR165_0 := Aside0.mk hi165_0; have HC165_0 := Aside0.mk hl165_0; clear hi165_0 hl165_0; replace p165 := eq_true p165; replace q165 := eq_true q165))
     go_ret
     exact ⟨by first | rfl | (simp [errW_none, errW_some] <;> rfl) | (simp [*, errW_none, errW_some] <;> rfl), by repeat (first | (with_reducible first | exact HB.out | apply below_alloc | apply pw_below_drewN | apply below_drew1 | refine below_set ?_ GE163.out) | exact HB.out)⟩
    ·rw [if_neg c10] at H
     have c10b0 : decide (((rd_L3 l0_3 0).length : Int) ≤ a1) = false := decide_eq_false c10
     clear c10
     obtain rfl := Option.some.inj H
     go_enter Tryd.func46, Tryd.ntmps46
     go_wp2_with (first | ((with_reducible refine gate_dst (N := 2) rfl ?_); (try (refine gate_guard (by rfl) ?_; dsimp only)); refine box_event ?hg (N := 2) ?hd (cs := #[.int .i64 a0_0, .int .i64 a0_1, .int .i64 a0_2, .slice A0_3 l0_3.length c0_3]) (t := 26) ?hr ?_; (case hd => rfl); (case hg => rfl); (case hr => first | (go_simp; done) | (go_simp; rfl)); intro g163 hg w15 hbox hb; have n0_ := Aside0.mk (below_step (by repeat (first | (with_reducible first | exact HB.out | apply below_alloc | apply pw_below_drewN | apply below_drew1) | exact HB.out)) hb); have n1_ := Aside0.mk (hbox); have n2_ := Aside0.mk ((by rw [hg]; exact (below_size (by repeat (first | (with_reducible first | exact HB.out | apply below_alloc | apply pw_below_drewN | apply below_drew1) | exact HB.out))) : w.heap.size ≤ g163)); have n3_ := Aside0.mk ((by rw [hg]; exact (below_size (by repeat (first | (with_reducible first | exact HB.out | apply below_alloc | apply pw_below_drewN | apply below_drew1) | exact HB.out))) : w.heap.size ≤ g163)); clear HB; have HB := n0_; have B163 := n1_; have GW163 := n2_; have GE163 := n3_; clear n0_ n1_ n2_ n3_; clear hb hbox hg; have hcz16_0 : w15.cell? ⟨g163, 0, none⟩ = some (.int .i64 a0_0) := bq_ B163 0; have hcz16_1 : w15.cell? ⟨g163, 1, none⟩ = some (.int .i64 a0_1) := bq_ B163 1; have hcz16_2 : w15.cell? ⟨g163, 2, none⟩ = some (.int .i64 a0_2) := bq_ B163 2; have hcz16_3 : w15.cell? ⟨g163, 3, none⟩ = some (.slice A0_3 l0_3.length c0_3) := bq_ B163 3; have hfz16_0 := blk_frozen B163.out 0; have hfz16_1 := blk_frozen B163.out 1; have hfz16_2 := blk_frozen B163.out 2; have hfz16_3 := blk_frozen B163.out 3) | ((with_reducible refine gate_callee (f := 16) rfl ?_); refine goesL_ (some 7) rfl rfl Tryd.func16 (by kernel_rfl) rfl #[.agg #[.int .i64 a0_0, .int .i64 a0_1, .int .i64 a0_2, .slice A0_3 l0_3.length c0_3]] rfl (by (try simp only [List.map_toArray, List.map_cons, List.map_nil]); first | done | rfl | (go_simp; done)) ?_; (with_reducible refine (tree_Valid.calls k a0_0 a0_1 a0_2 _ _ l0_3 true _ ?side1 ?side2 ?side3 A3.out).mono ?_); (case side1 => repeat (first | exact (Kd.C_below HR0_3.out HB.out) | (with_reducible refine Kd.C_alloc ?_ _) | (with_reducible refine Kd.C_drewN ?_ _) | (with_reducible refine Kd.C_drew ?_))); (case side2 => exact HC0_3.out); (case side3 => repeat (first | exact (GL.below HRG.out HB.out) | (with_reducible refine GL.alloc ?_ _) | (with_reducible refine GL.drewN ?_ _) | (with_reducible refine GL.drew ?_))); rintro e w17 ⟨rfl, hb⟩; refine ⟨_, rfl, ?_⟩; have n0_ := Aside0.mk (blk_below (g := g163) (o := .cells #[.int .i64 a0_0, .int .i64 a0_1, .int .i64 a0_2, .slice A0_3 l0_3.length c0_3] 26 (0, 0)) (by exact B163.out) hb); have n1_ := Aside0.mk (below_step (by repeat (first | (with_reducible first | exact HB.out | apply below_alloc | apply pw_below_drewN | apply below_drew1 | refine below_set ?_ GE163.out) | exact HB.out)) hb); clear B163; clear HB; have B163 := n0_; have HB := n1_; clear n0_ n1_; (try clear hb); (try clear hb2); (try clear hk); (try clear hi); have hcz18_0 : w17.cell? ⟨g163, 0, none⟩ = some (.int .i64 a0_0) := bq_ B163 0; have hcz18_1 : w17.cell? ⟨g163, 1, none⟩ = some (.int .i64 a0_1) := bq_ B163 1; have hcz18_2 : w17.cell? ⟨g163, 2, none⟩ = some (.int .i64 a0_2) := bq_ B163 2; have hcz18_3 : w17.cell? ⟨g163, 3, none⟩ = some (.slice A0_3 l0_3.length c0_3) := bq_ B163 3; have hfz18_0 := blk_frozen B163.out 0; have hfz18_1 := blk_frozen B163.out 1; have hfz18_2 := blk_frozen B163.out 2; have hfz18_3 := blk_frozen B163.out 3; have p165 : 0 ≤ (0 : Int) := (by omega); have q165 : 0 < (l0_3.length : Int) := of_decide_eq_true (by first | (with_reducible assumption) | assumption); obtain ⟨ad165, A165_0, c165_0, e165, hx165_0, hl165_0, hi165_0⟩ := at_L3 HR0_3.out 0 p165 q165; cases e165; have qi165 : (0 < l0_3.length) = True := eq_true (by omega); (try rw [show ((0 : Int)).toNat = 0 from rfl] at hx165_0); (try rw [Addr.add_zero'] at hx165_0); replace hx165_0 := (HB.out.cell (World.block_lt_of_cell? w _ hx165_0)).trans hx165_0; have HR165_0 := Aside0.mk hi165_0; have HC165_0 := Aside0.mk hl165_0; clear hi165_0 hl165_0; replace p165 := eq_true p165; replace q165 := eq_true q165))
     go_ret
     exact ⟨by first | rfl | (simp [errW_none, errW_some] <;> rfl) | (simp [*, errW_none, errW_some] <;> rfl), by repeat (first | (with_reducible first | exact HB.out | apply below_alloc | apply pw_below_drewN | apply below_drew1 | refine below_set ?_ GE163.out) | exact HB.out)⟩
   ·rw [if_neg c9] at H
    exact absurd H (by simp)
 ·replace c4 := Bool.eq_false_iff.mpr c4
  subst c4
  have H1 : (some 1) = some r := by rw [if_neg (show ¬ (false = true) by decide)] at H; exact H
  clear H
  have H := H1
  clear H1
  obtain rfl := Option.some.inj H
  go_enter Tryd.func46, Tryd.ntmps46
  go_wp2_with (first | ((with_reducible refine gate_dst (N := 2) rfl ?_); (try (refine gate_guard (by rfl) ?_; dsimp only)); refine box_event ?hg (N := 2) ?hd (cs := #[.int .i64 a0_0, .int .i64 a0_1, .int .i64 a0_2, .slice A0_3 l0_3.length c0_3]) (t := 26) ?hr ?_; (case hd => rfl); (case hg => rfl); (case hr => first | (go_simp; done) | (go_simp; rfl)); intro g163 hg w19 hbox hb; have n0_ := Aside0.mk (below_step (by repeat (first | (with_reducible first | exact HB.out | apply below_alloc | apply pw_below_drewN | apply below_drew1) | exact HB.out)) hb); have n1_ := Aside0.mk (hbox); have n2_ := Aside0.mk ((by rw [hg]; exact (below_size (by repeat (first | (with_reducible first | exact HB.out | apply below_alloc | apply pw_below_drewN | apply below_drew1) | exact HB.out))) : w.heap.size ≤ g163)); have n3_ := Aside0.mk ((by rw [hg]; exact (below_size (by repeat (first | (with_reducible first | exact HB.out | apply below_alloc | apply pw_below_drewN | apply below_drew1) | exact HB.out))) : w.heap.size ≤ g163)); clear HB; have HB := n0_; have B163 := n1_; have GW163 := n2_; have GE163 := n3_; clear n0_ n1_ n2_ n3_; clear hb hbox hg; have hcz20_0 : w19.cell? ⟨g163, 0, none⟩ = some (.int .i64 a0_0) := bq_ B163 0; have hcz20_1 : w19.cell? ⟨g163, 1, none⟩ = some (.int .i64 a0_1) := bq_ B163 1; have hcz20_2 : w19.cell? ⟨g163, 2, none⟩ = some (.int .i64 a0_2) := bq_ B163 2; have hcz20_3 : w19.cell? ⟨g163, 3, none⟩ = some (.slice A0_3 l0_3.length c0_3) := bq_ B163 3; have hfz20_0 := blk_frozen B163.out 0; have hfz20_1 := blk_frozen B163.out 1; have hfz20_2 := blk_frozen B163.out 2; have hfz20_3 := blk_frozen B163.out 3) | ((with_reducible refine gate_callee (f := 16) rfl ?_); refine goesL_ (some 7) rfl rfl Tryd.func16 (by kernel_rfl) rfl #[.agg #[.int .i64 a0_0, .int .i64 a0_1, .int .i64 a0_2, .slice A0_3 l0_3.length c0_3]] rfl (by (try simp only [List.map_toArray, List.map_cons, List.map_nil]); first | done | rfl | (go_simp; done)) ?_; (with_reducible refine (tree_Valid.calls k a0_0 a0_1 a0_2 _ _ l0_3 false _ ?side1 ?side2 ?side3 A3.out).mono ?_); (case side1 => repeat (first | exact (Kd.C_below HR0_3.out HB.out) | (with_reducible refine Kd.C_alloc ?_ _) | (with_reducible refine Kd.C_drewN ?_ _) | (with_reducible refine Kd.C_drew ?_))); (case side2 => exact HC0_3.out); (case side3 => repeat (first | exact (GL.below HRG.out HB.out) | (with_reducible refine GL.alloc ?_ _) | (with_reducible refine GL.drewN ?_ _) | (with_reducible refine GL.drew ?_))); rintro e w21 ⟨rfl, hb⟩; refine ⟨_, rfl, ?_⟩; have n0_ := Aside0.mk (blk_below (g := g163) (o := .cells #[.int .i64 a0_0, .int .i64 a0_1, .int .i64 a0_2, .slice A0_3 l0_3.length c0_3] 26 (0, 0)) (by exact B163.out) hb); have n1_ := Aside0.mk (below_step (by repeat (first | (with_reducible first | exact HB.out | apply below_alloc | apply pw_below_drewN | apply below_drew1 | refine below_set ?_ GE163.out) | exact HB.out)) hb); clear B163; clear HB; have B163 := n0_; have HB := n1_; clear n0_ n1_; (try clear hb); (try clear hb2); (try clear hk); (try clear hi)))
  go_ret
  exact ⟨by first | rfl | (simp [errW_none, errW_some] <;> rfl) | (simp [*, errW_none, errW_some] <;> rfl), by repeat (first | (with_reducible first | exact HB.out | apply below_alloc | apply pw_below_drewN | apply below_drew1 | refine below_set ?_ GE163.out) | exact HB.out)⟩

end Go.Proofs.YtpnpmeogffodgaaDoor.Q
end
section
namespace Go.Proofs.YtpnpmeogffodgaaDoor.Q
open Go.RowKit Go.Proofs.YtpnpmeogffodgaaDoorW.PrintWords Go.Proofs.YtpnpmeogffodgaaDoorW.PrintLast Go.Proofs.YtpnpmeogffodgaaDoorW.PrintMore
attribute [local go_sem] max2_int min2_int max_two min_two max_three min_three max_four min_four run_store_fnV run_store_fnc run_store_nfn   -- for this text's walks alone
set_option linter.unusedVariables false
set_option linter.unusedSimpArgs false

/-! ### tree_Path: function 23 -/
def tree_Path.l0 : Nat → Int → List (S36) → List (List (S36)) → Int → Int → Option ((List (S36)) × Int)
  | 0, _, _, _, _, _ => none
  | k + 1, x1, x7, x22, x23, x24 => if x24 < x23 then (if 0 ≤ x24 then (if x24 < (x22.length : Int) then (if 0 ≤ (Go.bits .xor .i64 x1 1) then (if (Go.bits .xor .i64 x1 1) < ((rd_L3 x22 x24).length : Int) then (if x7.length < 8796093022208 then (tree_Path.l0 k (x1 / 2) (x7 ++ [(⟨(rd_T36 (rd_L3 x22 x24) (Go.bits .xor .i64 x1 1)).f0, (rd_T36 (rd_L3 x22 x24) (Go.bits .xor .i64 x1 1)).f1⟩ : S36)]) x22 x23 (wrap64 (x24 + 1))) else (none)) else (none)) else (none)) else (none)) else (none)) else (some (x7, 0))
def tree_Path.f (k : Nat) (a0_0 : Int) (a0_1 : Int) (a0_2 : Int) (l0_3 : List (List (S36))) (a1 : Int) : Option ((List (S36)) × Int) := (tree_place.f k a0_0 a0_1 a0_2 l0_3 a1).bind fun t167 => (if t167 = 0 then (if 0 ≤ (wrap64 ((l0_3.length : Int) - 1)) then (if (wrap64 ((l0_3.length : Int) - 1)) ≤ (l0_3.length : Int) then ((some (l0_3.take ((wrap64 ((l0_3.length : Int) - 1)) : Int).toNat : List (List (S36)))).bind fun y168 => (tree_Path.l0 k a1 ([] : List (S36)) y168 (y168.length : Int) 0)) else (none)) else (none)) else (some (([] : List (S36)), t167)))
theorem tree_Path.mono_l : ∀ k, (∀ y0 y1 y2 y3 y4, LeO (tree_Path.l0 k y0 y1 y2 y3 y4) (tree_Path.l0 (k + 1) y0 y1 y2 y3 y4))
  | 0 => fun _ _ _ _ _ r h => by simp [tree_Path.l0] at h
  | k + 1 => by
    have ih0 := tree_Path.mono_l k
    · intro y0 y1 y2 y3 y4
      unfold tree_Path.l0
      repeat' first
      | (with_reducible exact ih0 _ _ _ _ _)
      | (with_reducible exact tree_place.mono _ _ _ _ _ _)
      | (with_reducible exact LeO.refl _)
      | (with_reducible exact LeO.none _)
      | (with_reducible refine LeO.ite ?_ ?_)
      | (with_reducible refine LeO.bind ?_ (fun _ => ?_))
      | exact ih0 _ _ _ _ _
      | exact tree_place.mono _ _ _ _ _ _
      | exact LeO.none _
      | refine LeO.ite ?_ ?_
      | refine LeO.bind ?_ (fun _ => ?_)
theorem tree_Path.mono : ∀ a0 a1 a2 a3 a4 k, LeO (tree_Path.f k a0 a1 a2 a3 a4) (tree_Path.f (k + 1) a0 a1 a2 a3 a4) := by
  intro a0 a1 a2 a3 a4 k
  have ih0 := tree_Path.mono_l k
  unfold tree_Path.f
  repeat' first
      | (with_reducible exact ih0 _ _ _ _ _)
      | (with_reducible exact tree_place.mono _ _ _ _ _ _)
      | (with_reducible exact LeO.refl _)
      | (with_reducible exact LeO.none _)
      | (with_reducible refine LeO.ite ?_ ?_)
      | (with_reducible refine LeO.bind ?_ (fun _ => ?_))
      | exact ih0 _ _ _ _ _
      | exact tree_place.mono _ _ _ _ _ _
      | exact LeO.none _
      | refine LeO.ite ?_ ?_
      | refine LeO.bind ?_ (fun _ => ?_)
set_option maxHeartbeats 8000000 in
set_option maxRecDepth 100000 in
theorem tree_Path.calls (k : Nat) (a0_0 : Int) (a0_1 : Int) (a0_2 : Int) (A0_3 : Option Addr) (c0_3 : Nat) (l0_3 : List (List (S36))) (a1 : Int) (r1 : List (S36)) (r2 : Int) (w : World) (hr0_3 : Kd.C (Kd.slice 36 k36) w A0_3 l0_3.length l0_3) (hc0_3 : l0_3.length ≤ c0_3) (hrG : GL w) (h : tree_Path.f k a0_0 a0_1 a0_2 l0_3 a1 = some (r1, r2)) :
  Calls Tryd.prog 23 #[.agg #[.int .i64 a0_0, .int .i64 a0_1, .int .i64 a0_2, .slice A0_3 l0_3.length c0_3], .int .i64 a1] w fun e w' => ∃ v0_ : Value, e = .returned (.tuple #[v0_, .int .i64 r2]) ∧ Kd.R k36 36 w' w.heap.size (fun _ => True) v0_ r1 ∧ Below w.heap.size w w' := by
 have hu26 := Tryd.underlying26
 have hu36 := Tryd.underlying36
 have HRG := Aside0.mk hrG
 clear hrG
 have HR0_3 := Aside0.mk hr0_3
 have HC0_3 := Aside0.mk hc0_3
 clear hr0_3 hc0_3
 have HB := Aside0.mk (Below.refl w.heap.size w)
 have H : ((tree_place.f k a0_0 a0_1 a0_2 l0_3 a1).bind fun t167 => (if t167 = 0 then (if 0 ≤ (wrap64 ((l0_3.length : Int) - 1)) then (if (wrap64 ((l0_3.length : Int) - 1)) ≤ (l0_3.length : Int) then ((some (l0_3.take ((wrap64 ((l0_3.length : Int) - 1)) : Int).toNat : List (List (S36)))).bind fun y168 => (tree_Path.l0 k a1 ([] : List (S36)) y168 (y168.length : Int) 0)) else (none)) else (none)) else (some (([] : List (S36)), t167)))) = some (r1, r2) := h
 clear h
 replace H := Option.bind_eq_some_iff.mp H
 obtain ⟨t167, A30, H⟩ := H
 have A3 := Aside0.mk A30
 clear A30
 by_cases c4 : t167 = 0
 ·rw [if_pos c4] at H
  have c4b0 : (t167 == 0) = true := beq_iff_eq.mpr c4
  have c4b1 : (t167 != 0) = false := bne_eq_false_iff_eq.mpr c4
  clear c4
  obtain ⟨ji5, hji5⟩ : ∃ j_ : Int, (wrap64 ((l0_3.length : Int) - 1)) = j_ := ⟨_, rfl⟩
  replace H : (if 0 ≤ (ji5) then (if (ji5) ≤ (l0_3.length : Int) then ((some (l0_3.take ((ji5) : Int).toNat : List (List (S36)))).bind fun y168 => (tree_Path.l0 k a1 ([] : List (S36)) y168 (y168.length : Int) 0)) else (none)) else (none)) = some (r1, r2) := by first | (rw [hji5] at H; exact H) | (simp only [hji5] at H ⊢; exact H)
  (try rw [hji5] at A3)
  have hji5w : (IntKind.i64.wrap ((l0_3.length : Int) - 1)) = ji5 := (i64_w _).trans hji5
  by_cases c6 : 0 ≤ (ji5)
  ·rw [if_pos c6] at H
   have c6b0 := eq_true c6
   have c6b1 : decide (0 ≤ (ji5)) = true := decide_eq_true c6
   clear c6
   by_cases c7 : (ji5) ≤ (l0_3.length : Int)
   ·rw [if_pos c7] at H
    have c7b0 := eq_true c7
    have c7b1 : decide ((ji5) ≤ (l0_3.length : Int)) = true := decide_eq_true c7
    clear c7
    obtain ⟨y168, hy168⟩ : ∃ y_ : List (List (S36)), y_ = (l0_3.take ((ji5) : Int).toNat) := ⟨_, rfl⟩
    replace H : (tree_Path.l0 k a1 ([] : List (S36)) y168 (y168.length : Int) 0) = some (r1, r2) := by first | (rw [hy168]; with_reducible exact H) | (have H2_ := (Option.bind_some _ _).symm.trans H; rw [hy168]; with_reducible exact H2_) | (have H2_ := (Option.bind_some _ _).symm.trans H; with_reducible exact H2_) | with_reducible exact H | (rw [hy168]; exact H) | exact H
    have Ny168 := Aside0.mk hy168
    clear hy168
    have H' := Aside0.mk H
    clear H
    go_enter Tryd.func23, Tryd.ntmps23
    go_wp2_with (first | ((with_reducible refine gate_dst (N := 2) rfl ?_); refine box_event ?hg (N := 2) ?hd (cs := #[.int .i64 a0_0, .int .i64 a0_1, .int .i64 a0_2, .slice A0_3 l0_3.length c0_3]) (t := 26) ?hr ?_; (case hd => rfl); (case hg => rfl); (case hr => first | (go_simp; done) | (go_simp; rfl)); intro g166 hg w8 hbox hb; have n0_ := Aside0.mk (below_step (by repeat (first | (with_reducible first | exact HB.out | apply below_alloc | apply pw_below_drewN | apply below_drew1) | exact HB.out)) hb); have n1_ := Aside0.mk (hbox); have n2_ := Aside0.mk ((by rw [hg]; exact (below_size (by repeat (first | (with_reducible first | exact HB.out | apply below_alloc | apply pw_below_drewN | apply below_drew1) | exact HB.out))) : w.heap.size ≤ g166)); have n3_ := Aside0.mk ((by rw [hg]; exact (below_size (by repeat (first | (with_reducible first | exact HB.out | apply below_alloc | apply pw_below_drewN | apply below_drew1) | exact HB.out))) : w.heap.size ≤ g166)); clear HB; have HB := n0_; have B166 := n1_; have GW166 := n2_; have GE166 := n3_; clear n0_ n1_ n2_ n3_; clear hb hbox hg; have hcz9_0 : w8.cell? ⟨g166, 0, none⟩ = some (.int .i64 a0_0) := bq_ B166 0; have hcz9_1 : w8.cell? ⟨g166, 1, none⟩ = some (.int .i64 a0_1) := bq_ B166 1; have hcz9_2 : w8.cell? ⟨g166, 2, none⟩ = some (.int .i64 a0_2) := bq_ B166 2; have hcz9_3 : w8.cell? ⟨g166, 3, none⟩ = some (.slice A0_3 l0_3.length c0_3) := bq_ B166 3; have hfz9_0 := blk_frozen B166.out 0; have hfz9_1 := blk_frozen B166.out 1; have hfz9_2 := blk_frozen B166.out 2; have hfz9_3 := blk_frozen B166.out 3) | ((with_reducible refine gate_callee (f := 46) rfl ?_); refine goesL_ (some 12) rfl rfl Tryd.func46 (by kernel_rfl) rfl #[.agg #[.int .i64 a0_0, .int .i64 a0_1, .int .i64 a0_2, .slice A0_3 l0_3.length c0_3], .int .i64 a1] rfl (by (try simp only [List.map_toArray, List.map_cons, List.map_nil]); first | done | rfl | (go_simp; done)) ?_; (with_reducible refine (tree_place.calls k a0_0 a0_1 a0_2 _ _ l0_3 a1 t167 _ ?side1 ?side2 ?side3 A3.out).mono ?_); (case side1 => repeat (first | exact (Kd.C_below HR0_3.out HB.out) | (with_reducible refine Kd.C_alloc ?_ _) | (with_reducible refine Kd.C_drewN ?_ _) | (with_reducible refine Kd.C_drew ?_))); (case side2 => exact HC0_3.out); (case side3 => repeat (first | exact (GL.below HRG.out HB.out) | (with_reducible refine GL.alloc ?_ _) | (with_reducible refine GL.drewN ?_ _) | (with_reducible refine GL.drew ?_))); rintro e w10 ⟨rfl, hb⟩; refine ⟨_, rfl, ?_⟩; have n0_ := Aside0.mk (blk_below (g := g166) (o := .cells #[.int .i64 a0_0, .int .i64 a0_1, .int .i64 a0_2, .slice A0_3 l0_3.length c0_3] 26 (0, 0)) (by exact B166.out) hb); have n1_ := Aside0.mk (below_step (by repeat (first | (with_reducible first | exact HB.out | apply below_alloc | apply pw_below_drewN | apply below_drew1 | refine below_set ?_ GE166.out) | exact HB.out)) hb); clear B166; clear HB; have B166 := n0_; have HB := n1_; clear n0_ n1_; (try clear hb); (try clear hb2); (try clear hk); (try clear hi); have hcz11_0 : w10.cell? ⟨g166, 0, none⟩ = some (.int .i64 a0_0) := bq_ B166 0; have hcz11_1 : w10.cell? ⟨g166, 1, none⟩ = some (.int .i64 a0_1) := bq_ B166 1; have hcz11_2 : w10.cell? ⟨g166, 2, none⟩ = some (.int .i64 a0_2) := bq_ B166 2; have hcz11_3 : w10.cell? ⟨g166, 3, none⟩ = some (.slice A0_3 l0_3.length c0_3) := bq_ B166 3; have hfz11_0 := blk_frozen B166.out 0; have hfz11_1 := blk_frozen B166.out 1; have hfz11_2 := blk_frozen B166.out 2; have hfz11_3 := blk_frozen B166.out 3; have q12 : ((ji5) : Int) ≤ ((l0_3.length : Int) : Int) := of_decide_eq_true (by first | (with_reducible assumption) | assumption); obtain ⟨i012, hi012, _, hsz12, _⟩ := info_parts info22; have hroom12 : l0_3.length ≤ c0_3 := HC0_3.out; have hC12 : Kd.C (Kd.slice 36 k36) _ A0_3 l0_3.length l0_3 := HR0_3.out; have hcut12 := cut_to (P := Tryd.prog) 24 22 .i64 Tryd.underlying24 hi012 A0_3 l0_3.length c0_3 (ji5) (of_decide_eq_true (by first | (with_reducible assumption) | assumption)) q12 hroom12; have hr12 := Kd.C_take (m := ((ji5) : Int).toNat) hC12 (by omega); have hy12 : y168.length = ((ji5) : Int).toNat := (by rw [Ny168.out, List.length_take]; omega); rw [← Ny168.out] at hr12; rw [← hy12] at hcut12; have HR171 := Aside0.mk hr12; have HC171 := Aside0.mk (show y168.length ≤ c0_3 from by omega); clear hr12 hC12 hroom12 hi012 hsz12; have KY12 := Aside0.mk hy12; clear hy12; replace q12 := eq_true q12))
    go_loopg [1, 7, 24] k (fun kq v1 v7 v24 w' => ∃ (x1_1 : Int) (x7_1 : List (S36)) (x24_1 : Int), v1 = .int .i64 x1_1 ∧ v24 = .int .i64 x24_1 ∧ Aside0 (tree_Path.l0 kq x1_1 x7_1 y168 (y168.length : Int) x24_1 = some (r1, r2)) ∧ Aside0 (kq ≤ k) ∧ Aside0 (Kd.R k36 36 w' w.heap.size (fun _ => True) v7 x7_1) ∧ Aside0 (w'.heap[g166]? = some (.cells #[.int .i64 a0_0, .int .i64 a0_1, .int .i64 a0_2, (.slice A0_3 l0_3.length c0_3)] 26 (0, 0))) ∧ Aside0 (Below w.heap.size w w'))
    case atStart => exact ⟨(a1), (([] : List (S36))), (0), (by first | rfl | (simp; done) | (simp [*]; done) | (simp; rfl) | (simp; decide +kernel)), (by first | rfl | (simp; done) | (simp [*]; done) | (simp; rfl) | (simp; decide +kernel)), H', ⟨Nat.le_refl _⟩, ⟨by first | exact Kd.R_nil _ _ _ _ _ | exact Kd.N_nil _ _ _ _ _ | exact Kd.V_nil _ _ _ _ _ | exact Kd.Q_nil _ _ _ _ _ | exact Kd.S_nil _ _ _ _ _⟩, ⟨by exact B166.out⟩, ⟨by repeat (first | (with_reducible first | exact HB.out | apply below_alloc | apply pw_below_drewN | apply below_drew1 | refine below_set ?_ GE166.out) | exact HB.out)⟩⟩
    case round =>
     clear H'
     try clear q1
     try clear c2
     try clear p2
     try clear c4
     try clear c4b0
     try clear c4b1
     try clear c6
     try clear c6b0
     try clear c6b1
     try clear p6
     try clear c7
     try clear c7b0
     try clear c7b1
     try clear q12
     try clear hcz11_0
     try clear hcz11_1
     try clear hcz11_2
     try clear hcz11_3
     try clear hcz9_0
     try clear hcz9_1
     try clear hcz9_2
     try clear hcz9_3
     try clear hfz11_0
     try clear hfz11_1
     try clear hfz11_2
     try clear hfz11_3
     try clear hfz9_0
     try clear hfz9_1
     try clear hfz9_2
     try clear hfz9_3
     try clear q12
     obtain ⟨x1_1, x7_1, x24_1, rfl, rfl, HA, HK1, HO_7, B166, HB⟩ := hrel
     cases gk with
     | zero => exact absurd HA.out (by simp [tree_Path.l0])
     | succ k1 =>
      have H := HA.out
      clear HA
      simp only [tree_Path.l0] at H
      by_cases c13 : x24_1 < (y168.length : Int)
      ·rw [if_pos c13] at H
       have c13b0 : decide (x24_1 < (y168.length : Int)) = true := decide_eq_true c13
       clear c13
       by_cases c14 : 0 ≤ x24_1
       ·rw [if_pos c14] at H
        have c14b0 : decide (0 ≤ x24_1) = true := decide_eq_true c14
        clear c14
        by_cases c15 : x24_1 < (y168.length : Int)
        ·rw [if_pos c15] at H
         have c15b0 : decide (x24_1 < (y168.length : Int)) = true := decide_eq_true c15
         clear c15
         by_cases c16 : 0 ≤ (Go.bits .xor .i64 x1_1 1)
         ·rw [if_pos c16] at H
          have c16b0 : decide (0 ≤ (Go.bits .xor .i64 x1_1 1)) = true := decide_eq_true c16
          clear c16
          by_cases c17 : (Go.bits .xor .i64 x1_1 1) < ((rd_L3 y168 x24_1).length : Int)
          ·rw [if_pos c17] at H
           have c17b0 : decide ((Go.bits .xor .i64 x1_1 1) < ((rd_L3 y168 x24_1).length : Int)) = true := decide_eq_true c17
           clear c17
           by_cases c18 : x7_1.length < 8796093022208
           ·rw [if_pos c18] at H
            have LMc18 := Aside0.mk c18
            clear c18
            obtain ⟨y174, hy174⟩ : ∃ y_ : List (S36), y_ = (x7_1 ++ [(⟨(rd_T36 (rd_L3 y168 x24_1) (Go.bits .xor .i64 x1_1 1)).f0, (rd_T36 (rd_L3 y168 x24_1) (Go.bits .xor .i64 x1_1 1)).f1⟩ : S36)]) := ⟨_, rfl⟩
            replace H : (tree_Path.l0 k1 (x1_1 / 2) y174 y168 (y168.length : Int) (wrap64 (x24_1 + 1))) = some (r1, r2) := by first | (rw [hy174]; with_reducible exact H) | (have H2_ := (Option.bind_some _ _).symm.trans H; rw [hy174]; with_reducible exact H2_) | (have H2_ := (Option.bind_some _ _).symm.trans H; with_reducible exact H2_) | with_reducible exact H | (rw [hy174]; exact H) | exact H
            have Ny174 := Aside0.mk hy174
            clear hy174
            have H' := Aside0.mk H
            clear H
            have p172 : 0 ≤ (x24_1 : Int) := of_decide_eq_true (by first | (with_reducible assumption) | assumption)
            have q172 : x24_1 < (y168.length : Int) := of_decide_eq_true (by first | (with_reducible assumption) | assumption)
            obtain ⟨ad172, A172_0, c172_0, e172, hx172_0, hl172_0, hi172_0⟩ := at_L3 HR171.out x24_1 p172 q172
            cases e172
            replace hx172_0 := (HB.out.cell (World.block_lt_of_cell? w _ hx172_0)).trans hx172_0
            have HR172_0 := Aside0.mk hi172_0
            have HC172_0 := Aside0.mk hl172_0
            clear hi172_0 hl172_0
            replace p172 := eq_true p172
            replace q172 := eq_true q172
            have p173 : 0 ≤ ((Go.bits .xor .i64 x1_1 1) : Int) := of_decide_eq_true (by first | (with_reducible assumption) | assumption)
            have q173 : (Go.bits .xor .i64 x1_1 1) < ((rd_L3 y168 x24_1).length : Int) := of_decide_eq_true (by first | (with_reducible assumption) | assumption)
            obtain ⟨ad173, e173, hx173_0, hx173_1⟩ := at_T36 HR172_0.out (Go.bits .xor .i64 x1_1 1) p173 q173
            cases e173
            replace hx173_0 := (HB.out.cell (World.block_lt_of_cell? w _ hx173_0)).trans hx173_0
            replace hx173_1 := (HB.out.cell (World.block_lt_of_cell? w _ hx173_1)).trans hx173_1
            replace p173 := eq_true p173
            replace q173 := eq_true q173
            go_wp2_with (first | ((with_reducible refine gate_builtin (b := .append) (xs := #[.tmp 28, .tmp 34]) rfl ?_); at_builtin; refine Kd.R_append k36 (w0 := w) w.heap.size rfl (.tmp 28) (.tmp 34) 22 36 (.agg #[(.int .u64 0), (.int .u64 0)]) 16 rfl Tryd.underlying22 info36 rfl (by decide) (by omega) u7 x7_1 (⟨(rd_T36 (rd_L3 y168 x24_1) (Go.bits .xor .i64 x1_1 1)).f0, (rd_T36 (rd_L3 y168 x24_1) (Go.bits .xor .i64 x1_1 1)).f1⟩ : S36) [.int .u64 ((rd_T36 (rd_L3 y168 x24_1) (Go.bits .xor .i64 x1_1 1)).f0), .int .u64 ((rd_T36 (rd_L3 y168 x24_1) (Go.bits .xor .i64 x1_1 1)).f1)] (fun _ => True) (fun _ => False) rfl rfl ?aP (fun _ hk => hk.elim) ?aF ?aO ?aB ?aS ?aL ?_; (case aP => exact k36_mkM _ _ _ (⟨(rd_T36 (rd_L3 y168 x24_1) (Go.bits .xor .i64 x1_1 1)).f0, (rd_T36 (rd_L3 y168 x24_1) (Go.bits .xor .i64 x1_1 1)).f1⟩ : S36)); (case aB => exact (by repeat (first | (with_reducible first | exact HB.out | apply below_alloc | apply pw_below_drewN | apply below_drew1 | refine below_set ?_ GE166.out) | exact HB.out))); (case aF => exact (fun _ _ => trivial)); (case aO => exact (by (with_reducible repeat (first | apply Kd.R_alloc | apply Kd.R_drewN | apply Kd.R_drew)); exact HO_7.out)); (case aS => exact (below_size (by repeat (first | (with_reducible first | exact HB.out | apply below_alloc | apply pw_below_drewN | apply below_drew1 | refine below_set ?_ GE166.out) | exact HB.out)))); (case aL => have := LMc18.out; omega); intro v175 w19 ho hb hg hat; rw [← Ny174.out] at ho; have n0_ := Aside0.mk (blk_grown (g := g166) (o := .cells #[.int .i64 a0_0, .int .i64 a0_1, .int .i64 a0_2, .slice (some ad172) l0_3.length c0_3] 26 (0, 0)) (by exact B166.out) hg (Kd.R_ne HO_7.out B166.out (by decide))); have n1_ := Aside0.mk (hb); have n2_ := Aside0.mk (ho); clear B166; clear HB; clear HO_7; have B166 := n0_; have HB := n1_; have HO176 := n2_; clear n0_ n1_ n2_; clear ho hb hg hat))
            go_roundg k1
            case measure => have := HK1.out; omega
            case rel => exact ⟨(x1_1 / 2), (y174), (wrap64 (x24_1 + 1)), (by first | rfl | (simp; done) | (simp [*]; done) | (simp; rfl) | (simp; decide +kernel)), (by first | rfl | (simp; done) | (simp [*]; done) | (simp; rfl) | (simp; decide +kernel)), H', ⟨by have := HK1.out; omega⟩, ⟨by (with_reducible repeat (first | apply Kd.R_alloc | apply Kd.R_drewN | apply Kd.R_drew)); exact HO176.out⟩, ⟨by exact B166.out⟩, ⟨by repeat (first | (with_reducible first | exact HB.out | apply below_alloc | apply pw_below_drewN | apply below_drew1 | refine below_set ?_ GE166.out) | exact HB.out)⟩⟩
           ·rw [if_neg c18] at H
            exact absurd H (by simp)
          ·rw [if_neg c17] at H
           exact absurd H (by simp)
         ·rw [if_neg c16] at H
          exact absurd H (by simp)
        ·rw [if_neg c15] at H
         exact absurd H (by simp)
       ·rw [if_neg c14] at H
        exact absurd H (by simp)
      ·rw [if_neg c13] at H
       have c13b0 : decide (x24_1 < (y168.length : Int)) = false := decide_eq_false c13
       clear c13
       simp only [Option.some.injEq, Prod.mk.injEq] at H
       obtain ⟨rfl, rfl⟩ := H
       go_wp2
       go_ret2
       exact ⟨_, by first | rfl | (simp [errW_none, errW_some] <;> rfl) | (simp only [← hji5]; first | rfl | (simp [errW_none, errW_some] <;> rfl)) | (simp [*, errW_none, errW_some] <;> rfl), by (with_reducible repeat (first | apply Kd.R_alloc | apply Kd.R_drewN | apply Kd.R_drew)); exact HO_7.out, by repeat (first | (with_reducible first | exact HB.out | apply below_alloc | apply pw_below_drewN | apply below_drew1 | refine below_set ?_ GE166.out) | exact HB.out)⟩
   ·rw [if_neg c7] at H
    exact absurd H (by simp)
  ·rw [if_neg c6] at H
   exact absurd H (by simp)
 ·rw [if_neg c4] at H
  have c4b0 : (t167 == 0) = false := beq_eq_false_iff_ne.mpr c4
  have c4b1 : (t167 != 0) = true := bne_iff_ne.mpr c4
  simp only [Option.some.injEq, Prod.mk.injEq] at H
  obtain ⟨rfl, rfl⟩ := H
  go_enter Tryd.func23, Tryd.ntmps23
  go_wp2_with (first | ((with_reducible refine gate_dst (N := 2) rfl ?_); refine box_event ?hg (N := 2) ?hd (cs := #[.int .i64 a0_0, .int .i64 a0_1, .int .i64 a0_2, .slice A0_3 l0_3.length c0_3]) (t := 26) ?hr ?_; (case hd => rfl); (case hg => rfl); (case hr => first | (go_simp; done) | (go_simp; rfl)); intro g166 hg w20 hbox hb; have n0_ := Aside0.mk (below_step (by repeat (first | (with_reducible first | exact HB.out | apply below_alloc | apply pw_below_drewN | apply below_drew1) | exact HB.out)) hb); have n1_ := Aside0.mk (hbox); have n2_ := Aside0.mk ((by rw [hg]; exact (below_size (by repeat (first | (with_reducible first | exact HB.out | apply below_alloc | apply pw_below_drewN | apply below_drew1) | exact HB.out))) : w.heap.size ≤ g166)); have n3_ := Aside0.mk ((by rw [hg]; exact (below_size (by repeat (first | (with_reducible first | exact HB.out | apply below_alloc | apply pw_below_drewN | apply below_drew1) | exact HB.out))) : w.heap.size ≤ g166)); clear HB; have HB := n0_; have B166 := n1_; have GW166 := n2_; have GE166 := n3_; clear n0_ n1_ n2_ n3_; clear hb hbox hg; have hcz21_0 : w20.cell? ⟨g166, 0, none⟩ = some (.int .i64 a0_0) := bq_ B166 0; have hcz21_1 : w20.cell? ⟨g166, 1, none⟩ = some (.int .i64 a0_1) := bq_ B166 1; have hcz21_2 : w20.cell? ⟨g166, 2, none⟩ = some (.int .i64 a0_2) := bq_ B166 2; have hcz21_3 : w20.cell? ⟨g166, 3, none⟩ = some (.slice A0_3 l0_3.length c0_3) := bq_ B166 3; have hfz21_0 := blk_frozen B166.out 0; have hfz21_1 := blk_frozen B166.out 1; have hfz21_2 := blk_frozen B166.out 2; have hfz21_3 := blk_frozen B166.out 3) | ((with_reducible refine gate_callee (f := 46) rfl ?_); refine goesL_ (some 12) rfl rfl Tryd.func46 (by kernel_rfl) rfl #[.agg #[.int .i64 a0_0, .int .i64 a0_1, .int .i64 a0_2, .slice A0_3 l0_3.length c0_3], .int .i64 a1] rfl (by (try simp only [List.map_toArray, List.map_cons, List.map_nil]); first | done | rfl | (go_simp; done)) ?_; (with_reducible refine (tree_place.calls k a0_0 a0_1 a0_2 _ _ l0_3 a1 t167 _ ?side1 ?side2 ?side3 A3.out).mono ?_); (case side1 => repeat (first | exact (Kd.C_below HR0_3.out HB.out) | (with_reducible refine Kd.C_alloc ?_ _) | (with_reducible refine Kd.C_drewN ?_ _) | (with_reducible refine Kd.C_drew ?_))); (case side2 => exact HC0_3.out); (case side3 => repeat (first | exact (GL.below HRG.out HB.out) | (with_reducible refine GL.alloc ?_ _) | (with_reducible refine GL.drewN ?_ _) | (with_reducible refine GL.drew ?_))); rintro e w22 ⟨rfl, hb⟩; refine ⟨_, rfl, ?_⟩; have n0_ := Aside0.mk (blk_below (g := g166) (o := .cells #[.int .i64 a0_0, .int .i64 a0_1, .int .i64 a0_2, .slice A0_3 l0_3.length c0_3] 26 (0, 0)) (by exact B166.out) hb); have n1_ := Aside0.mk (below_step (by repeat (first | (with_reducible first | exact HB.out | apply below_alloc | apply pw_below_drewN | apply below_drew1 | refine below_set ?_ GE166.out) | exact HB.out)) hb); clear B166; clear HB; have B166 := n0_; have HB := n1_; clear n0_ n1_; (try clear hb); (try clear hb2); (try clear hk); (try clear hi)))
  go_ret2
  exact ⟨_, by first | rfl | (simp [errW_none, errW_some] <;> rfl) | (simp [*, errW_none, errW_some] <;> rfl), by first | exact Kd.R_nil _ _ _ _ _ | exact Kd.N_nil _ _ _ _ _ | exact Kd.V_nil _ _ _ _ _ | exact Kd.Q_nil _ _ _ _ _ | exact Kd.S_nil _ _ _ _ _, by repeat (first | (with_reducible first | exact HB.out | apply below_alloc | apply pw_below_drewN | apply below_drew1 | refine below_set ?_ GE166.out) | exact HB.out)⟩

end Go.Proofs.YtpnpmeogffodgaaDoor.Q
end
