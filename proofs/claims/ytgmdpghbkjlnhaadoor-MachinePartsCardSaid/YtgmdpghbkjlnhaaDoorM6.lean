/- Several texts in one, in build order. What they prove, each by its own first remark:
Written by our own copy of a printing program (a twelfth state) out of the translation. Not trusted: Lean checks it.
Of PParts what this claim needs.
For all arguments attestorlaw28.MachineParts returns true and leaves them as they were, where the variable 'uses' holds what the program's text lays (the card ties that): no other condition. -/
import Derived.Test.YtgmdpghbkjlnhaaDoorM2
import Derived.Test.YtgmdpghbkjlnhaaDoorM4
import Derived.Test.YtgmdpghbkjlnhaaDoorM5
import Derived.Test.YtgmdpghbkjlnhaaDoorCards
import Derived.Test.YtgmdpghbkjlnhaaDoorTie
import Derived.SevenTiedAt
import Derived.SizedLaws
import Derived.ShutString
import Derived.ChangeOld
import Derived.ProofKit
import Derived.Below
import Derived.OpenShut
section
namespace Go.Proofs.YtgmdpghbkjlnhaaDoor.Q
open Go.RowKit Go.Proofs.YtgmdpghbkjlnhaaDoorW.PrintWords Go.Proofs.YtgmdpghbkjlnhaaDoorW.PrintLast Go.Proofs.YtgmdpghbkjlnhaaDoorW.PrintMore
attribute [local go_sem] max2_int min2_int max_two min_two max_three min_three max_four min_four run_store_fnV run_store_fnc run_store_nfn   -- for this text's walks alone
set_option linter.unusedVariables false
set_option linter.unusedSimpArgs false

attribute [local go_sem high] eqA26
abbrev z5_0_ : Array Bool := #[false, false, false, false, false, false, false, false, false, false, false, false, false, false, false, false, false, false, false, false, false, false, false, false]
abbrev z5_1_ : Array Bool := #[true, false, false, false, false, false, false, false, false, false, false, false, false, false, false, false, false, false, false, false, false, false, false, false]
abbrev z5_2_ : Array Bool := #[true, true, false, false, false, false, false, false, false, false, false, false, false, false, false, false, false, false, false, false, false, false, false, false]
abbrev z5_3_ : Array Bool := #[true, true, true, false, false, false, false, false, false, false, false, false, false, false, false, false, false, false, false, false, false, false, false, false]
abbrev z5_4_ : Array Bool := #[true, true, true, true, false, false, false, false, false, false, false, false, false, false, false, false, false, false, false, false, false, false, false, false]
abbrev z5_5_ : Array Bool := #[true, true, true, true, true, false, false, false, false, false, false, false, false, false, false, false, false, false, false, false, false, false, false, false]
abbrev z5_6_ : Array Bool := #[true, true, true, true, true, true, false, false, false, false, false, false, false, false, false, false, false, false, false, false, false, false, false, false]
abbrev z5_7_ : Array Bool := #[true, true, true, true, true, true, true, false, false, false, false, false, false, false, false, false, false, false, false, false, false, false, false, false]
abbrev z5_8_ : Array Bool := #[true, true, true, true, true, true, true, true, false, false, false, false, false, false, false, false, false, false, false, false, false, false, false, false]
abbrev z5_9_ : Array Bool := #[true, true, true, true, true, true, true, true, true, false, false, false, false, false, false, false, false, false, false, false, false, false, false, false]
abbrev z5_10_ : Array Bool := #[true, true, true, true, true, true, true, true, true, true, false, false, false, false, false, false, false, false, false, false, false, false, false, false]
abbrev z5_11_ : Array Bool := #[true, true, true, true, true, true, true, true, true, true, true, false, false, false, false, false, false, false, false, false, false, false, false, false]
abbrev z5_12_ : Array Bool := #[true, true, true, true, true, true, true, true, true, true, true, true, false, false, false, false, false, false, false, false, false, false, false, false]
abbrev z5_13_ : Array Bool := #[true, true, true, true, true, true, true, true, true, true, true, true, true, false, false, false, false, false, false, false, false, false, false, false]
abbrev z5_14_ : Array Bool := #[true, true, true, true, true, true, true, true, true, true, true, true, true, true, false, false, false, false, false, false, false, false, false, false]
abbrev z5_15_ : Array Bool := #[true, true, true, true, true, true, true, true, true, true, true, true, true, true, true, false, false, false, false, false, false, false, false, false]
abbrev z5_16_ : Array Bool := #[true, true, true, true, true, true, true, true, true, true, true, true, true, true, true, true, false, false, false, false, false, false, false, false]
abbrev z5_17_ : Array Bool := #[true, true, true, true, true, true, true, true, true, true, true, true, true, true, true, true, true, false, false, false, false, false, false, false]
abbrev z5_18_ : Array Bool := #[true, true, true, true, true, true, true, true, true, true, true, true, true, true, true, true, true, true, false, false, false, false, false, false]
abbrev z5_19_ : Array Bool := #[true, true, true, true, true, true, true, true, true, true, true, true, true, true, true, true, true, true, true, false, false, false, false, false]
abbrev z5_20_ : Array Bool := #[true, true, true, true, true, true, true, true, true, true, true, true, true, true, true, true, true, true, true, true, false, false, false, false]
abbrev z5_21_ : Array Bool := #[true, true, true, true, true, true, true, true, true, true, true, true, true, true, true, true, true, true, true, true, true, false, false, false]
abbrev z5_22_ : Array Bool := #[true, true, true, true, true, true, true, true, true, true, true, true, true, true, true, true, true, true, true, true, true, true, false, false]
abbrev z5_23_ : Array Bool := #[true, true, true, true, true, true, true, true, true, true, true, true, true, true, true, true, true, true, true, true, true, true, true, false]
abbrev z5_24_ : Array Bool := #[true, true, true, true, true, true, true, true, true, true, true, true, true, true, true, true, true, true, true, true, true, true, true, true]
abbrev z5_25_ : Array Bool := #[false, false, false, false, false, false, false, false, false, false, false, false, false, false]
abbrev z5_26_ : Array Bool := #[true, false, false, false, false, false, false, false, false, false, false, false, false, false]
abbrev z5_27_ : Array Bool := #[true, true, false, false, false, false, false, false, false, false, false, false, false, false]
abbrev z5_28_ : Array Bool := #[true, true, true, false, false, false, false, false, false, false, false, false, false, false]
abbrev z5_29_ : Array Bool := #[true, true, true, true, false, false, false, false, false, false, false, false, false, false]
abbrev z5_30_ : Array Bool := #[true, true, true, true, true, false, false, false, false, false, false, false, false, false]
abbrev z5_31_ : Array Bool := #[true, true, true, true, true, true, false, false, false, false, false, false, false, false]
abbrev z5_32_ : Array Bool := #[true, true, true, true, true, true, true, false, false, false, false, false, false, false]
abbrev z5_33_ : Array Bool := #[true, true, true, true, true, true, true, true, false, false, false, false, false, false]
abbrev z5_34_ : Array Bool := #[true, true, true, true, true, true, true, true, true, false, false, false, false, false]
abbrev z5_35_ : Array Bool := #[true, true, true, true, true, true, true, true, true, true, false, false, false, false]
abbrev z5_36_ : Array Bool := #[true, true, true, true, true, true, true, true, true, true, true, false, false, false]
abbrev z5_37_ : Array Bool := #[true, true, true, true, true, true, true, true, true, true, true, true, false, false]
abbrev z5_38_ : Array Bool := #[true, true, true, true, true, true, true, true, true, true, true, true, true, false]
abbrev z5_39_ : Array Bool := #[true, true, true, true, true, true, true, true, true, true, true, true, true, true]
/-! ### attestorlaw28_MachineParts: function 5 -/
mutual
def attestorlaw28_MachineParts.j0 : Nat → List (S47) → Int → Int → List (S26) → Bool → Int → Int → Int → Int → Int → Int → Int → Int → Int → Int → Int → Int → Int → Int → Int → Int → Int → Int → Int → Int → Int → Int → Int → Int → Int → Int → Int → Int → Int → Int → Int → Int → Int → Int → Int → Int → Int → Int → Int → Int → Int → Int → Option (Bool)
  | 0, _, _, _, _, _, _, _, _, _, _, _, _, _, _, _, _, _, _, _, _, _, _, _, _, _, _, _, _, _, _, _, _, _, _, _, _, _, _, _, _, _, _, _, _, _, _, _ => none
  | k + 1, x0, x10, x16, x18, x139, x630000, x630001, x630002, x630003, x630004, x630005, x630006, x630007, x630008, x630009, x630010, x630011, x630012, x630013, x630014, x630015, x630016, x630017, x630018, x630019, x630020, x680000, x680001, x680002, x680003, x680004, x680005, x680006, x680007, x680008, x680009, x680010, x680011, x680012, x680013, x680014, x680015, x680016, x680017, x680018, x680019, x680020 => if x139 = true then (none) else (attestorlaw28_MachineParts.l0 k x0 x10 x16 x18 0 x630000 x630001 x630002 x630003 x630004 x630005 x630006 x630007 x630008 x630009 x630010 x630011 x630012 x630013 x630014 x630015 x630016 x630017 x630018 x630019 x630020 x680000 x680001 x680002 x680003 x680004 x680005 x680006 x680007 x680008 x680009 x680010 x680011 x680012 x680013 x680014 x680015 x680016 x680017 x680018 x680019 x680020)
def attestorlaw28_MachineParts.l0 : Nat → List (S47) → Int → Int → List (S26) → Int → Int → Int → Int → Int → Int → Int → Int → Int → Int → Int → Int → Int → Int → Int → Int → Int → Int → Int → Int → Int → Int → Int → Int → Int → Int → Int → Int → Int → Int → Int → Int → Int → Int → Int → Int → Int → Int → Int → Int → Int → Int → Int → Option (Bool)
  | 0, _, _, _, _, _, _, _, _, _, _, _, _, _, _, _, _, _, _, _, _, _, _, _, _, _, _, _, _, _, _, _, _, _, _, _, _, _, _, _, _, _, _, _, _, _, _, _ => none
  | k + 1, x0, x10, x16, x18, x20, x630000, x630001, x630002, x630003, x630004, x630005, x630006, x630007, x630008, x630009, x630010, x630011, x630012, x630013, x630014, x630015, x630016, x630017, x630018, x630019, x630020, x680000, x680001, x680002, x680003, x680004, x680005, x680006, x680007, x680008, x680009, x680010, x680011, x680012, x680013, x680014, x680015, x680016, x680017, x680018, x680019, x680020 => if x20 < (x18.length : Int) then (if x20 ≥ x16 then (if 0 ≤ x20 then (if (!(((rd_T26 x18 x20).f0) == x680000) || ((!(((rd_T26 x18 x20).f1.f0) == x680001) || (!(((rd_T26 x18 x20).f1.f1) == x680002) || (!(((rd_T26 x18 x20).f1.f2) == x680003) || (!(((rd_T26 x18 x20).f1.f3) == x680004))))) || ((!(((rd_T26 x18 x20).f2.f0) == x680005) || (!(((rd_T26 x18 x20).f2.f1) == x680006) || (!(((rd_T26 x18 x20).f2.f2) == x680007) || (!(((rd_T26 x18 x20).f2.f3) == x680008) || (!(((rd_T26 x18 x20).f2.f4) == x680009) || (!(((rd_T26 x18 x20).f2.f5) == x680010) || (!(((rd_T26 x18 x20).f2.f6) == x680011) || (!(((rd_T26 x18 x20).f2.f7) == x680012) || (!(((rd_T26 x18 x20).f2.f8) == x680013) || (!(((rd_T26 x18 x20).f2.f9) == x680014) || (!(((rd_T26 x18 x20).f2.f10) == x680015) || (!(((rd_T26 x18 x20).f2.f11) == x680016) || (!(((rd_T26 x18 x20).f2.f12) == x680017) || (!(((rd_T26 x18 x20).f2.f13) == x680018) || (!(((rd_T26 x18 x20).f2.f14) == x680019) || (!(((rd_T26 x18 x20).f2.f15) == x680020)))))))))))))))))))) = true then (none) else (if x20 < x16 then ((machine_Halted.f k x0 ((rd_T26 x18 x20).f0) ((rd_T26 x18 x20).f1.f0) ((rd_T26 x18 x20).f1.f1) ((rd_T26 x18 x20).f1.f2) ((rd_T26 x18 x20).f1.f3) ((rd_T26 x18 x20).f2.f0) ((rd_T26 x18 x20).f2.f1) ((rd_T26 x18 x20).f2.f2) ((rd_T26 x18 x20).f2.f3) ((rd_T26 x18 x20).f2.f4) ((rd_T26 x18 x20).f2.f5) ((rd_T26 x18 x20).f2.f6) ((rd_T26 x18 x20).f2.f7) ((rd_T26 x18 x20).f2.f8) ((rd_T26 x18 x20).f2.f9) ((rd_T26 x18 x20).f2.f10) ((rd_T26 x18 x20).f2.f11) ((rd_T26 x18 x20).f2.f12) ((rd_T26 x18 x20).f2.f13) ((rd_T26 x18 x20).f2.f14) ((rd_T26 x18 x20).f2.f15)).bind fun t687 => (if t687 = true then (none) else (attestorlaw28_MachineParts.l0 k x0 x10 x16 x18 (wrap64 (x20 + 1)) x630000 x630001 x630002 x630003 x630004 x630005 x630006 x630007 x630008 x630009 x630010 x630011 x630012 x630013 x630014 x630015 x630016 x630017 x630018 x630019 x630020 x680000 x680001 x680002 x680003 x680004 x680005 x680006 x680007 x680008 x680009 x680010 x680011 x680012 x680013 x680014 x680015 x680016 x680017 x680018 x680019 x680020))) else (attestorlaw28_MachineParts.l0 k x0 x10 x16 x18 (wrap64 (x20 + 1)) x630000 x630001 x630002 x630003 x630004 x630005 x630006 x630007 x630008 x630009 x630010 x630011 x630012 x630013 x630014 x630015 x630016 x630017 x630018 x630019 x630020 x680000 x680001 x680002 x680003 x680004 x680005 x680006 x680007 x680008 x680009 x680010 x680011 x680012 x680013 x680014 x680015 x680016 x680017 x680018 x680019 x680020))) else (none)) else (if x20 < x16 then (if 0 ≤ x20 then ((machine_Halted.f k x0 ((rd_T26 x18 x20).f0) ((rd_T26 x18 x20).f1.f0) ((rd_T26 x18 x20).f1.f1) ((rd_T26 x18 x20).f1.f2) ((rd_T26 x18 x20).f1.f3) ((rd_T26 x18 x20).f2.f0) ((rd_T26 x18 x20).f2.f1) ((rd_T26 x18 x20).f2.f2) ((rd_T26 x18 x20).f2.f3) ((rd_T26 x18 x20).f2.f4) ((rd_T26 x18 x20).f2.f5) ((rd_T26 x18 x20).f2.f6) ((rd_T26 x18 x20).f2.f7) ((rd_T26 x18 x20).f2.f8) ((rd_T26 x18 x20).f2.f9) ((rd_T26 x18 x20).f2.f10) ((rd_T26 x18 x20).f2.f11) ((rd_T26 x18 x20).f2.f12) ((rd_T26 x18 x20).f2.f13) ((rd_T26 x18 x20).f2.f14) ((rd_T26 x18 x20).f2.f15)).bind fun t689 => (if t689 = true then (none) else (attestorlaw28_MachineParts.l0 k x0 x10 x16 x18 (wrap64 (x20 + 1)) x630000 x630001 x630002 x630003 x630004 x630005 x630006 x630007 x630008 x630009 x630010 x630011 x630012 x630013 x630014 x630015 x630016 x630017 x630018 x630019 x630020 x680000 x680001 x680002 x680003 x680004 x680005 x680006 x680007 x680008 x680009 x680010 x680011 x680012 x680013 x680014 x680015 x680016 x680017 x680018 x680019 x680020))) else (none)) else (attestorlaw28_MachineParts.l0 k x0 x10 x16 x18 (wrap64 (x20 + 1)) x630000 x630001 x630002 x630003 x630004 x630005 x630006 x630007 x630008 x630009 x630010 x630011 x630012 x630013 x630014 x630015 x630016 x630017 x630018 x630019 x630020 x680000 x680001 x680002 x680003 x680004 x680005 x680006 x680007 x680008 x680009 x680010 x680011 x680012 x680013 x680014 x680015 x680016 x680017 x680018 x680019 x680020))) else (if 0 ≤ (mn x10 (wrap64 ((x18.length : Int) - 1))) then (if (mn x10 (wrap64 ((x18.length : Int) - 1))) < (x18.length : Int) then (if (((rd_T26 x18 (mn x10 (wrap64 ((x18.length : Int) - 1)))).f0) == x630000 && ((((rd_T26 x18 (mn x10 (wrap64 ((x18.length : Int) - 1)))).f1.f0) == x630001 && (((rd_T26 x18 (mn x10 (wrap64 ((x18.length : Int) - 1)))).f1.f1) == x630002 && (((rd_T26 x18 (mn x10 (wrap64 ((x18.length : Int) - 1)))).f1.f2) == x630003 && (((rd_T26 x18 (mn x10 (wrap64 ((x18.length : Int) - 1)))).f1.f3) == x630004)))) && ((((rd_T26 x18 (mn x10 (wrap64 ((x18.length : Int) - 1)))).f2.f0) == x630005 && (((rd_T26 x18 (mn x10 (wrap64 ((x18.length : Int) - 1)))).f2.f1) == x630006 && (((rd_T26 x18 (mn x10 (wrap64 ((x18.length : Int) - 1)))).f2.f2) == x630007 && (((rd_T26 x18 (mn x10 (wrap64 ((x18.length : Int) - 1)))).f2.f3) == x630008 && (((rd_T26 x18 (mn x10 (wrap64 ((x18.length : Int) - 1)))).f2.f4) == x630009 && (((rd_T26 x18 (mn x10 (wrap64 ((x18.length : Int) - 1)))).f2.f5) == x630010 && (((rd_T26 x18 (mn x10 (wrap64 ((x18.length : Int) - 1)))).f2.f6) == x630011 && (((rd_T26 x18 (mn x10 (wrap64 ((x18.length : Int) - 1)))).f2.f7) == x630012 && (((rd_T26 x18 (mn x10 (wrap64 ((x18.length : Int) - 1)))).f2.f8) == x630013 && (((rd_T26 x18 (mn x10 (wrap64 ((x18.length : Int) - 1)))).f2.f9) == x630014 && (((rd_T26 x18 (mn x10 (wrap64 ((x18.length : Int) - 1)))).f2.f10) == x630015 && (((rd_T26 x18 (mn x10 (wrap64 ((x18.length : Int) - 1)))).f2.f11) == x630016 && (((rd_T26 x18 (mn x10 (wrap64 ((x18.length : Int) - 1)))).f2.f12) == x630017 && (((rd_T26 x18 (mn x10 (wrap64 ((x18.length : Int) - 1)))).f2.f13) == x630018 && (((rd_T26 x18 (mn x10 (wrap64 ((x18.length : Int) - 1)))).f2.f14) == x630019 && (((rd_T26 x18 (mn x10 (wrap64 ((x18.length : Int) - 1)))).f2.f15) == x630020))))))))))))))))))) = true then ((attestorlaw28_lives.f k).bind fun t691 => (some t691)) else (none)) else (none)) else (none))
end
def attestorlaw28_MachineParts.f (k : Nat) (l0 : List (S47)) (a1_0 : Int) (a1_1 : Int) (a1_2 : Int) (a1_3 : Int) (a1_4 : Int) (a1_5 : Int) (a1_6 : Int) (a1_7 : Int) (a1_8 : Int) (a1_9 : Int) (a1_10 : Int) (a1_11 : Int) (a1_12 : Int) (a1_13 : Int) (a1_14 : Int) (a1_15 : Int) (a1_16 : Int) (a1_17 : Int) (a1_18 : Int) (a1_19 : Int) (a1_20 : Int) (a2 : Int) (a3 : Int) : Option (Bool) := (attestorlaw28_cut.f l0).bind fun t582 => ((attestorlaw28_valid.f t582 a1_0 a1_1 a1_2 a1_3 a1_4 a1_5 a1_6 a1_7 a1_8 a1_9 a1_10 a1_11 a1_12 a1_13 a1_14 a1_15 a1_16 a1_17 a1_18 a1_19 a1_20).bind fun bt585 => ((machine_Run.f k t582 bt585.1 bt585.2.1 bt585.2.2.1 bt585.2.2.2.1 bt585.2.2.2.2.1 bt585.2.2.2.2.2.1 bt585.2.2.2.2.2.2.1 bt585.2.2.2.2.2.2.2.1 bt585.2.2.2.2.2.2.2.2.1 bt585.2.2.2.2.2.2.2.2.2.1 bt585.2.2.2.2.2.2.2.2.2.2.1 bt585.2.2.2.2.2.2.2.2.2.2.2.1 bt585.2.2.2.2.2.2.2.2.2.2.2.2.1 bt585.2.2.2.2.2.2.2.2.2.2.2.2.2.1 bt585.2.2.2.2.2.2.2.2.2.2.2.2.2.2.1 bt585.2.2.2.2.2.2.2.2.2.2.2.2.2.2.2.1 bt585.2.2.2.2.2.2.2.2.2.2.2.2.2.2.2.2.1 bt585.2.2.2.2.2.2.2.2.2.2.2.2.2.2.2.2.2.1 bt585.2.2.2.2.2.2.2.2.2.2.2.2.2.2.2.2.2.2.1 bt585.2.2.2.2.2.2.2.2.2.2.2.2.2.2.2.2.2.2.2.1 bt585.2.2.2.2.2.2.2.2.2.2.2.2.2.2.2.2.2.2.2.2 (wrap64 (a2))).bind fun bt606 => ((isa_Valid.f k t582).bind fun t630 => (if t630 = 0 then ((machine_Run.f k t582 bt606.1 bt606.2.1 bt606.2.2.1 bt606.2.2.2.1 bt606.2.2.2.2.1 bt606.2.2.2.2.2.1 bt606.2.2.2.2.2.2.1 bt606.2.2.2.2.2.2.2.1 bt606.2.2.2.2.2.2.2.2.1 bt606.2.2.2.2.2.2.2.2.2.1 bt606.2.2.2.2.2.2.2.2.2.2.1 bt606.2.2.2.2.2.2.2.2.2.2.2.1 bt606.2.2.2.2.2.2.2.2.2.2.2.2.1 bt606.2.2.2.2.2.2.2.2.2.2.2.2.2.1 bt606.2.2.2.2.2.2.2.2.2.2.2.2.2.2.1 bt606.2.2.2.2.2.2.2.2.2.2.2.2.2.2.2.1 bt606.2.2.2.2.2.2.2.2.2.2.2.2.2.2.2.2.1 bt606.2.2.2.2.2.2.2.2.2.2.2.2.2.2.2.2.2.1 bt606.2.2.2.2.2.2.2.2.2.2.2.2.2.2.2.2.2.2.1 bt606.2.2.2.2.2.2.2.2.2.2.2.2.2.2.2.2.2.2.2.1 bt606.2.2.2.2.2.2.2.2.2.2.2.2.2.2.2.2.2.2.2.2.1 (wrap64 (a3))).bind fun bt632 => ((machine_Run.f k t582 bt585.1 bt585.2.1 bt585.2.2.1 bt585.2.2.2.1 bt585.2.2.2.2.1 bt585.2.2.2.2.2.1 bt585.2.2.2.2.2.2.1 bt585.2.2.2.2.2.2.2.1 bt585.2.2.2.2.2.2.2.2.1 bt585.2.2.2.2.2.2.2.2.2.1 bt585.2.2.2.2.2.2.2.2.2.2.1 bt585.2.2.2.2.2.2.2.2.2.2.2.1 bt585.2.2.2.2.2.2.2.2.2.2.2.2.1 bt585.2.2.2.2.2.2.2.2.2.2.2.2.2.1 bt585.2.2.2.2.2.2.2.2.2.2.2.2.2.2.1 bt585.2.2.2.2.2.2.2.2.2.2.2.2.2.2.2.1 bt585.2.2.2.2.2.2.2.2.2.2.2.2.2.2.2.2.1 bt585.2.2.2.2.2.2.2.2.2.2.2.2.2.2.2.2.2.1 bt585.2.2.2.2.2.2.2.2.2.2.2.2.2.2.2.2.2.2.1 bt585.2.2.2.2.2.2.2.2.2.2.2.2.2.2.2.2.2.2.2.1 bt585.2.2.2.2.2.2.2.2.2.2.2.2.2.2.2.2.2.2.2.2 (wrap64 ((wrap64 (a2)) + (wrap64 (a3))))).bind fun bt656 => ((machine_States.f k t582 bt585.1 bt585.2.1 bt585.2.2.1 bt585.2.2.2.1 bt585.2.2.2.2.1 bt585.2.2.2.2.2.1 bt585.2.2.2.2.2.2.1 bt585.2.2.2.2.2.2.2.1 bt585.2.2.2.2.2.2.2.2.1 bt585.2.2.2.2.2.2.2.2.2.1 bt585.2.2.2.2.2.2.2.2.2.2.1 bt585.2.2.2.2.2.2.2.2.2.2.2.1 bt585.2.2.2.2.2.2.2.2.2.2.2.2.1 bt585.2.2.2.2.2.2.2.2.2.2.2.2.2.1 bt585.2.2.2.2.2.2.2.2.2.2.2.2.2.2.1 bt585.2.2.2.2.2.2.2.2.2.2.2.2.2.2.2.1 bt585.2.2.2.2.2.2.2.2.2.2.2.2.2.2.2.2.1 bt585.2.2.2.2.2.2.2.2.2.2.2.2.2.2.2.2.2.1 bt585.2.2.2.2.2.2.2.2.2.2.2.2.2.2.2.2.2.2.1 bt585.2.2.2.2.2.2.2.2.2.2.2.2.2.2.2.2.2.2.2.1 bt585.2.2.2.2.2.2.2.2.2.2.2.2.2.2.2.2.2.2.2.2 (wrap64 ((wrap64 ((wrap64 (a2)) + (wrap64 (a3)))) + 1))).bind fun bt680 => (if bt606.2.2.2.2.2.2.2.2.2.2.2.2.2.2.2.2.2.2.2.2.2.2 = 0 then (if bt632.2.2.2.2.2.2.2.2.2.2.2.2.2.2.2.2.2.2.2.2.2.2 = 0 then (if bt656.2.2.2.2.2.2.2.2.2.2.2.2.2.2.2.2.2.2.2.2.2.2 = 0 then (if bt680.2 = 0 then (if (!(bt632.1 == bt656.1) || ((!(bt632.2.1 == bt656.2.1) || (!(bt632.2.2.1 == bt656.2.2.1) || (!(bt632.2.2.2.1 == bt656.2.2.2.1) || (!(bt632.2.2.2.2.1 == bt656.2.2.2.2.1))))) || ((!(bt632.2.2.2.2.2.1 == bt656.2.2.2.2.2.1) || (!(bt632.2.2.2.2.2.2.1 == bt656.2.2.2.2.2.2.1) || (!(bt632.2.2.2.2.2.2.2.1 == bt656.2.2.2.2.2.2.2.1) || (!(bt632.2.2.2.2.2.2.2.2.1 == bt656.2.2.2.2.2.2.2.2.1) || (!(bt632.2.2.2.2.2.2.2.2.2.1 == bt656.2.2.2.2.2.2.2.2.2.1) || (!(bt632.2.2.2.2.2.2.2.2.2.2.1 == bt656.2.2.2.2.2.2.2.2.2.2.1) || (!(bt632.2.2.2.2.2.2.2.2.2.2.2.1 == bt656.2.2.2.2.2.2.2.2.2.2.2.1) || (!(bt632.2.2.2.2.2.2.2.2.2.2.2.2.1 == bt656.2.2.2.2.2.2.2.2.2.2.2.2.1) || (!(bt632.2.2.2.2.2.2.2.2.2.2.2.2.2.1 == bt656.2.2.2.2.2.2.2.2.2.2.2.2.2.1) || (!(bt632.2.2.2.2.2.2.2.2.2.2.2.2.2.2.1 == bt656.2.2.2.2.2.2.2.2.2.2.2.2.2.2.1) || (!(bt632.2.2.2.2.2.2.2.2.2.2.2.2.2.2.2.1 == bt656.2.2.2.2.2.2.2.2.2.2.2.2.2.2.2.1) || (!(bt632.2.2.2.2.2.2.2.2.2.2.2.2.2.2.2.2.1 == bt656.2.2.2.2.2.2.2.2.2.2.2.2.2.2.2.2.1) || (!(bt632.2.2.2.2.2.2.2.2.2.2.2.2.2.2.2.2.2.1 == bt656.2.2.2.2.2.2.2.2.2.2.2.2.2.2.2.2.2.1) || (!(bt632.2.2.2.2.2.2.2.2.2.2.2.2.2.2.2.2.2.2.1 == bt656.2.2.2.2.2.2.2.2.2.2.2.2.2.2.2.2.2.2.1) || (!(bt632.2.2.2.2.2.2.2.2.2.2.2.2.2.2.2.2.2.2.2.1 == bt656.2.2.2.2.2.2.2.2.2.2.2.2.2.2.2.2.2.2.2.1) || (!(bt632.2.2.2.2.2.2.2.2.2.2.2.2.2.2.2.2.2.2.2.2.1 == bt656.2.2.2.2.2.2.2.2.2.2.2.2.2.2.2.2.2.2.2.2.1)))))))))))))))))))) = true then (none) else (if (wrap64 (bt606.2.2.2.2.2.2.2.2.2.2.2.2.2.2.2.2.2.2.2.2.2.1 + bt632.2.2.2.2.2.2.2.2.2.2.2.2.2.2.2.2.2.2.2.2.2.1)) = bt656.2.2.2.2.2.2.2.2.2.2.2.2.2.2.2.2.2.2.2.2.2.1 then (if (bt680.1.length : Int) = (wrap64 ((wrap64 ((wrap64 (a2)) + (wrap64 (a3)))) + 1)) then (if bt606.2.2.2.2.2.2.2.2.2.2.2.2.2.2.2.2.2.2.2.2.2.1 > (wrap64 (a2)) then (none) else (if bt606.2.2.2.2.2.2.2.2.2.2.2.2.2.2.2.2.2.2.2.2.2.1 < (wrap64 (a2)) then ((machine_Halted.f k t582 bt606.1 bt606.2.1 bt606.2.2.1 bt606.2.2.2.1 bt606.2.2.2.2.1 bt606.2.2.2.2.2.1 bt606.2.2.2.2.2.2.1 bt606.2.2.2.2.2.2.2.1 bt606.2.2.2.2.2.2.2.2.1 bt606.2.2.2.2.2.2.2.2.2.1 bt606.2.2.2.2.2.2.2.2.2.2.1 bt606.2.2.2.2.2.2.2.2.2.2.2.1 bt606.2.2.2.2.2.2.2.2.2.2.2.2.1 bt606.2.2.2.2.2.2.2.2.2.2.2.2.2.1 bt606.2.2.2.2.2.2.2.2.2.2.2.2.2.2.1 bt606.2.2.2.2.2.2.2.2.2.2.2.2.2.2.2.1 bt606.2.2.2.2.2.2.2.2.2.2.2.2.2.2.2.2.1 bt606.2.2.2.2.2.2.2.2.2.2.2.2.2.2.2.2.2.1 bt606.2.2.2.2.2.2.2.2.2.2.2.2.2.2.2.2.2.2.1 bt606.2.2.2.2.2.2.2.2.2.2.2.2.2.2.2.2.2.2.2.1 bt606.2.2.2.2.2.2.2.2.2.2.2.2.2.2.2.2.2.2.2.2.1).bind fun t684 => (attestorlaw28_MachineParts.j0 k t582 bt606.2.2.2.2.2.2.2.2.2.2.2.2.2.2.2.2.2.2.2.2.2.1 bt656.2.2.2.2.2.2.2.2.2.2.2.2.2.2.2.2.2.2.2.2.2.1 bt680.1 (!t684) bt606.1 bt606.2.1 bt606.2.2.1 bt606.2.2.2.1 bt606.2.2.2.2.1 bt606.2.2.2.2.2.1 bt606.2.2.2.2.2.2.1 bt606.2.2.2.2.2.2.2.1 bt606.2.2.2.2.2.2.2.2.1 bt606.2.2.2.2.2.2.2.2.2.1 bt606.2.2.2.2.2.2.2.2.2.2.1 bt606.2.2.2.2.2.2.2.2.2.2.2.1 bt606.2.2.2.2.2.2.2.2.2.2.2.2.1 bt606.2.2.2.2.2.2.2.2.2.2.2.2.2.1 bt606.2.2.2.2.2.2.2.2.2.2.2.2.2.2.1 bt606.2.2.2.2.2.2.2.2.2.2.2.2.2.2.2.1 bt606.2.2.2.2.2.2.2.2.2.2.2.2.2.2.2.2.1 bt606.2.2.2.2.2.2.2.2.2.2.2.2.2.2.2.2.2.1 bt606.2.2.2.2.2.2.2.2.2.2.2.2.2.2.2.2.2.2.1 bt606.2.2.2.2.2.2.2.2.2.2.2.2.2.2.2.2.2.2.2.1 bt606.2.2.2.2.2.2.2.2.2.2.2.2.2.2.2.2.2.2.2.2.1 bt656.1 bt656.2.1 bt656.2.2.1 bt656.2.2.2.1 bt656.2.2.2.2.1 bt656.2.2.2.2.2.1 bt656.2.2.2.2.2.2.1 bt656.2.2.2.2.2.2.2.1 bt656.2.2.2.2.2.2.2.2.1 bt656.2.2.2.2.2.2.2.2.2.1 bt656.2.2.2.2.2.2.2.2.2.2.1 bt656.2.2.2.2.2.2.2.2.2.2.2.1 bt656.2.2.2.2.2.2.2.2.2.2.2.2.1 bt656.2.2.2.2.2.2.2.2.2.2.2.2.2.1 bt656.2.2.2.2.2.2.2.2.2.2.2.2.2.2.1 bt656.2.2.2.2.2.2.2.2.2.2.2.2.2.2.2.1 bt656.2.2.2.2.2.2.2.2.2.2.2.2.2.2.2.2.1 bt656.2.2.2.2.2.2.2.2.2.2.2.2.2.2.2.2.2.1 bt656.2.2.2.2.2.2.2.2.2.2.2.2.2.2.2.2.2.2.1 bt656.2.2.2.2.2.2.2.2.2.2.2.2.2.2.2.2.2.2.2.1 bt656.2.2.2.2.2.2.2.2.2.2.2.2.2.2.2.2.2.2.2.2.1)) else (attestorlaw28_MachineParts.j0 k t582 bt606.2.2.2.2.2.2.2.2.2.2.2.2.2.2.2.2.2.2.2.2.2.1 bt656.2.2.2.2.2.2.2.2.2.2.2.2.2.2.2.2.2.2.2.2.2.1 bt680.1 false bt606.1 bt606.2.1 bt606.2.2.1 bt606.2.2.2.1 bt606.2.2.2.2.1 bt606.2.2.2.2.2.1 bt606.2.2.2.2.2.2.1 bt606.2.2.2.2.2.2.2.1 bt606.2.2.2.2.2.2.2.2.1 bt606.2.2.2.2.2.2.2.2.2.1 bt606.2.2.2.2.2.2.2.2.2.2.1 bt606.2.2.2.2.2.2.2.2.2.2.2.1 bt606.2.2.2.2.2.2.2.2.2.2.2.2.1 bt606.2.2.2.2.2.2.2.2.2.2.2.2.2.1 bt606.2.2.2.2.2.2.2.2.2.2.2.2.2.2.1 bt606.2.2.2.2.2.2.2.2.2.2.2.2.2.2.2.1 bt606.2.2.2.2.2.2.2.2.2.2.2.2.2.2.2.2.1 bt606.2.2.2.2.2.2.2.2.2.2.2.2.2.2.2.2.2.1 bt606.2.2.2.2.2.2.2.2.2.2.2.2.2.2.2.2.2.2.1 bt606.2.2.2.2.2.2.2.2.2.2.2.2.2.2.2.2.2.2.2.1 bt606.2.2.2.2.2.2.2.2.2.2.2.2.2.2.2.2.2.2.2.2.1 bt656.1 bt656.2.1 bt656.2.2.1 bt656.2.2.2.1 bt656.2.2.2.2.1 bt656.2.2.2.2.2.1 bt656.2.2.2.2.2.2.1 bt656.2.2.2.2.2.2.2.1 bt656.2.2.2.2.2.2.2.2.1 bt656.2.2.2.2.2.2.2.2.2.1 bt656.2.2.2.2.2.2.2.2.2.2.1 bt656.2.2.2.2.2.2.2.2.2.2.2.1 bt656.2.2.2.2.2.2.2.2.2.2.2.2.1 bt656.2.2.2.2.2.2.2.2.2.2.2.2.2.1 bt656.2.2.2.2.2.2.2.2.2.2.2.2.2.2.1 bt656.2.2.2.2.2.2.2.2.2.2.2.2.2.2.2.1 bt656.2.2.2.2.2.2.2.2.2.2.2.2.2.2.2.2.1 bt656.2.2.2.2.2.2.2.2.2.2.2.2.2.2.2.2.2.1 bt656.2.2.2.2.2.2.2.2.2.2.2.2.2.2.2.2.2.2.1 bt656.2.2.2.2.2.2.2.2.2.2.2.2.2.2.2.2.2.2.2.1 bt656.2.2.2.2.2.2.2.2.2.2.2.2.2.2.2.2.2.2.2.2.1))) else (none)) else (none))) else (none)) else (none)) else (none)) else (none))))) else (if bt606.2.2.2.2.2.2.2.2.2.2.2.2.2.2.2.2.2.2.2.2.2.2 = 1 then (if bt606.2.2.2.2.2.2.2.2.2.2.2.2.2.2.2.2.2.2.2.2.2.1 = 0 then (if (bt606.1 == 0 && ((bt606.2.1 == 0 && (bt606.2.2.1 == 0 && (bt606.2.2.2.1 == 0 && (bt606.2.2.2.2.1 == 0)))) && ((bt606.2.2.2.2.2.1 == 0 && (bt606.2.2.2.2.2.2.1 == 0 && (bt606.2.2.2.2.2.2.2.1 == 0 && (bt606.2.2.2.2.2.2.2.2.1 == 0 && (bt606.2.2.2.2.2.2.2.2.2.1 == 0 && (bt606.2.2.2.2.2.2.2.2.2.2.1 == 0 && (bt606.2.2.2.2.2.2.2.2.2.2.2.1 == 0 && (bt606.2.2.2.2.2.2.2.2.2.2.2.2.1 == 0 && (bt606.2.2.2.2.2.2.2.2.2.2.2.2.2.1 == 0 && (bt606.2.2.2.2.2.2.2.2.2.2.2.2.2.2.1 == 0 && (bt606.2.2.2.2.2.2.2.2.2.2.2.2.2.2.2.1 == 0 && (bt606.2.2.2.2.2.2.2.2.2.2.2.2.2.2.2.2.1 == 0 && (bt606.2.2.2.2.2.2.2.2.2.2.2.2.2.2.2.2.2.1 == 0 && (bt606.2.2.2.2.2.2.2.2.2.2.2.2.2.2.2.2.2.2.1 == 0 && (bt606.2.2.2.2.2.2.2.2.2.2.2.2.2.2.2.2.2.2.2.1 == 0 && (bt606.2.2.2.2.2.2.2.2.2.2.2.2.2.2.2.2.2.2.2.2.1 == 0))))))))))))))))))) = true then ((attestorlaw28_lives.f k).bind fun t631 => (some t631)) else (none)) else (none)) else (none))))))
theorem attestorlaw28_MachineParts.mono_l : ∀ k, (∀ y0 y1 y2 y3 y4 y5 y6 y7 y8 y9 y10 y11 y12 y13 y14 y15 y16 y17 y18 y19 y20 y21 y22 y23 y24 y25 y26 y27 y28 y29 y30 y31 y32 y33 y34 y35 y36 y37 y38 y39 y40 y41 y42 y43 y44 y45 y46, LeO (attestorlaw28_MachineParts.j0 k y0 y1 y2 y3 y4 y5 y6 y7 y8 y9 y10 y11 y12 y13 y14 y15 y16 y17 y18 y19 y20 y21 y22 y23 y24 y25 y26 y27 y28 y29 y30 y31 y32 y33 y34 y35 y36 y37 y38 y39 y40 y41 y42 y43 y44 y45 y46) (attestorlaw28_MachineParts.j0 (k + 1) y0 y1 y2 y3 y4 y5 y6 y7 y8 y9 y10 y11 y12 y13 y14 y15 y16 y17 y18 y19 y20 y21 y22 y23 y24 y25 y26 y27 y28 y29 y30 y31 y32 y33 y34 y35 y36 y37 y38 y39 y40 y41 y42 y43 y44 y45 y46)) ∧ (∀ y0 y1 y2 y3 y4 y5 y6 y7 y8 y9 y10 y11 y12 y13 y14 y15 y16 y17 y18 y19 y20 y21 y22 y23 y24 y25 y26 y27 y28 y29 y30 y31 y32 y33 y34 y35 y36 y37 y38 y39 y40 y41 y42 y43 y44 y45 y46, LeO (attestorlaw28_MachineParts.l0 k y0 y1 y2 y3 y4 y5 y6 y7 y8 y9 y10 y11 y12 y13 y14 y15 y16 y17 y18 y19 y20 y21 y22 y23 y24 y25 y26 y27 y28 y29 y30 y31 y32 y33 y34 y35 y36 y37 y38 y39 y40 y41 y42 y43 y44 y45 y46) (attestorlaw28_MachineParts.l0 (k + 1) y0 y1 y2 y3 y4 y5 y6 y7 y8 y9 y10 y11 y12 y13 y14 y15 y16 y17 y18 y19 y20 y21 y22 y23 y24 y25 y26 y27 y28 y29 y30 y31 y32 y33 y34 y35 y36 y37 y38 y39 y40 y41 y42 y43 y44 y45 y46))
  | 0 => ⟨fun _ _ _ _ _ _ _ _ _ _ _ _ _ _ _ _ _ _ _ _ _ _ _ _ _ _ _ _ _ _ _ _ _ _ _ _ _ _ _ _ _ _ _ _ _ _ _ r h => by simp [attestorlaw28_MachineParts.j0] at h, fun _ _ _ _ _ _ _ _ _ _ _ _ _ _ _ _ _ _ _ _ _ _ _ _ _ _ _ _ _ _ _ _ _ _ _ _ _ _ _ _ _ _ _ _ _ _ _ r h => by simp [attestorlaw28_MachineParts.l0] at h⟩
  | k + 1 => by
    obtain ⟨ih0, ih1⟩ := attestorlaw28_MachineParts.mono_l k
    refine ⟨?_, ?_⟩
    · intro y0 y1 y2 y3 y4 y5 y6 y7 y8 y9 y10 y11 y12 y13 y14 y15 y16 y17 y18 y19 y20 y21 y22 y23 y24 y25 y26 y27 y28 y29 y30 y31 y32 y33 y34 y35 y36 y37 y38 y39 y40 y41 y42 y43 y44 y45 y46
      unfold attestorlaw28_MachineParts.j0
      repeat' first
      | (with_reducible exact ih0 _ _ _ _ _ _ _ _ _ _ _ _ _ _ _ _ _ _ _ _ _ _ _ _ _ _ _ _ _ _ _ _ _ _ _ _ _ _ _ _ _ _ _ _ _ _ _)
      | (with_reducible exact ih1 _ _ _ _ _ _ _ _ _ _ _ _ _ _ _ _ _ _ _ _ _ _ _ _ _ _ _ _ _ _ _ _ _ _ _ _ _ _ _ _ _ _ _ _ _ _ _)
      | (with_reducible exact attestorlaw28_lives.mono _)
      | (with_reducible exact isa_Valid.mono _ _)
      | (with_reducible exact machine_Halted.mono _ _ _ _ _ _ _ _ _ _ _ _ _ _ _ _ _ _ _ _ _ _ _)
      | (with_reducible exact machine_Run.mono _ _ _ _ _ _ _ _ _ _ _ _ _ _ _ _ _ _ _ _ _ _ _ _)
      | (with_reducible exact machine_States.mono _ _ _ _ _ _ _ _ _ _ _ _ _ _ _ _ _ _ _ _ _ _ _ _)
      | (with_reducible exact LeO.refl _)
      | (with_reducible exact LeO.none _)
      | (with_reducible refine LeO.ite ?_ ?_)
      | (with_reducible refine LeO.bind ?_ (fun _ => ?_))
      | exact ih0 _ _ _ _ _ _ _ _ _ _ _ _ _ _ _ _ _ _ _ _ _ _ _ _ _ _ _ _ _ _ _ _ _ _ _ _ _ _ _ _ _ _ _ _ _ _ _
      | exact ih1 _ _ _ _ _ _ _ _ _ _ _ _ _ _ _ _ _ _ _ _ _ _ _ _ _ _ _ _ _ _ _ _ _ _ _ _ _ _ _ _ _ _ _ _ _ _ _
      | exact attestorlaw28_lives.mono _
      | exact isa_Valid.mono _ _
      | exact machine_Halted.mono _ _ _ _ _ _ _ _ _ _ _ _ _ _ _ _ _ _ _ _ _ _ _
      | exact machine_Run.mono _ _ _ _ _ _ _ _ _ _ _ _ _ _ _ _ _ _ _ _ _ _ _ _
      | exact machine_States.mono _ _ _ _ _ _ _ _ _ _ _ _ _ _ _ _ _ _ _ _ _ _ _ _
      | exact LeO.none _
      | refine LeO.ite ?_ ?_
      | refine LeO.bind ?_ (fun _ => ?_)
    · intro y0 y1 y2 y3 y4 y5 y6 y7 y8 y9 y10 y11 y12 y13 y14 y15 y16 y17 y18 y19 y20 y21 y22 y23 y24 y25 y26 y27 y28 y29 y30 y31 y32 y33 y34 y35 y36 y37 y38 y39 y40 y41 y42 y43 y44 y45 y46
      unfold attestorlaw28_MachineParts.l0
      repeat' first
      | (with_reducible exact ih0 _ _ _ _ _ _ _ _ _ _ _ _ _ _ _ _ _ _ _ _ _ _ _ _ _ _ _ _ _ _ _ _ _ _ _ _ _ _ _ _ _ _ _ _ _ _ _)
      | (with_reducible exact ih1 _ _ _ _ _ _ _ _ _ _ _ _ _ _ _ _ _ _ _ _ _ _ _ _ _ _ _ _ _ _ _ _ _ _ _ _ _ _ _ _ _ _ _ _ _ _ _)
      | (with_reducible exact attestorlaw28_lives.mono _)
      | (with_reducible exact isa_Valid.mono _ _)
      | (with_reducible exact machine_Halted.mono _ _ _ _ _ _ _ _ _ _ _ _ _ _ _ _ _ _ _ _ _ _ _)
      | (with_reducible exact machine_Run.mono _ _ _ _ _ _ _ _ _ _ _ _ _ _ _ _ _ _ _ _ _ _ _ _)
      | (with_reducible exact machine_States.mono _ _ _ _ _ _ _ _ _ _ _ _ _ _ _ _ _ _ _ _ _ _ _ _)
      | (with_reducible exact LeO.refl _)
      | (with_reducible exact LeO.none _)
      | (with_reducible refine LeO.ite ?_ ?_)
      | (with_reducible refine LeO.bind ?_ (fun _ => ?_))
      | exact ih0 _ _ _ _ _ _ _ _ _ _ _ _ _ _ _ _ _ _ _ _ _ _ _ _ _ _ _ _ _ _ _ _ _ _ _ _ _ _ _ _ _ _ _ _ _ _ _
      | exact ih1 _ _ _ _ _ _ _ _ _ _ _ _ _ _ _ _ _ _ _ _ _ _ _ _ _ _ _ _ _ _ _ _ _ _ _ _ _ _ _ _ _ _ _ _ _ _ _
      | exact attestorlaw28_lives.mono _
      | exact isa_Valid.mono _ _
      | exact machine_Halted.mono _ _ _ _ _ _ _ _ _ _ _ _ _ _ _ _ _ _ _ _ _ _ _
      | exact machine_Run.mono _ _ _ _ _ _ _ _ _ _ _ _ _ _ _ _ _ _ _ _ _ _ _ _
      | exact machine_States.mono _ _ _ _ _ _ _ _ _ _ _ _ _ _ _ _ _ _ _ _ _ _ _ _
      | exact LeO.none _
      | refine LeO.ite ?_ ?_
      | refine LeO.bind ?_ (fun _ => ?_)
theorem attestorlaw28_MachineParts.mono : ∀ a0 a1 a2 a3 a4 a5 a6 a7 a8 a9 a10 a11 a12 a13 a14 a15 a16 a17 a18 a19 a20 a21 a22 a23 k, LeO (attestorlaw28_MachineParts.f k a0 a1 a2 a3 a4 a5 a6 a7 a8 a9 a10 a11 a12 a13 a14 a15 a16 a17 a18 a19 a20 a21 a22 a23) (attestorlaw28_MachineParts.f (k + 1) a0 a1 a2 a3 a4 a5 a6 a7 a8 a9 a10 a11 a12 a13 a14 a15 a16 a17 a18 a19 a20 a21 a22 a23) := by
  intro a0 a1 a2 a3 a4 a5 a6 a7 a8 a9 a10 a11 a12 a13 a14 a15 a16 a17 a18 a19 a20 a21 a22 a23 k
  obtain ⟨ih0, ih1⟩ := attestorlaw28_MachineParts.mono_l k
  unfold attestorlaw28_MachineParts.f
  repeat' first
      | (with_reducible exact ih0 _ _ _ _ _ _ _ _ _ _ _ _ _ _ _ _ _ _ _ _ _ _ _ _ _ _ _ _ _ _ _ _ _ _ _ _ _ _ _ _ _ _ _ _ _ _ _)
      | (with_reducible exact ih1 _ _ _ _ _ _ _ _ _ _ _ _ _ _ _ _ _ _ _ _ _ _ _ _ _ _ _ _ _ _ _ _ _ _ _ _ _ _ _ _ _ _ _ _ _ _ _)
      | (with_reducible exact attestorlaw28_lives.mono _)
      | (with_reducible exact isa_Valid.mono _ _)
      | (with_reducible exact machine_Halted.mono _ _ _ _ _ _ _ _ _ _ _ _ _ _ _ _ _ _ _ _ _ _ _)
      | (with_reducible exact machine_Run.mono _ _ _ _ _ _ _ _ _ _ _ _ _ _ _ _ _ _ _ _ _ _ _ _)
      | (with_reducible exact machine_States.mono _ _ _ _ _ _ _ _ _ _ _ _ _ _ _ _ _ _ _ _ _ _ _ _)
      | (with_reducible exact LeO.refl _)
      | (with_reducible exact LeO.none _)
      | (with_reducible refine LeO.ite ?_ ?_)
      | (with_reducible refine LeO.bind ?_ (fun _ => ?_))
      | exact ih0 _ _ _ _ _ _ _ _ _ _ _ _ _ _ _ _ _ _ _ _ _ _ _ _ _ _ _ _ _ _ _ _ _ _ _ _ _ _ _ _ _ _ _ _ _ _ _
      | exact ih1 _ _ _ _ _ _ _ _ _ _ _ _ _ _ _ _ _ _ _ _ _ _ _ _ _ _ _ _ _ _ _ _ _ _ _ _ _ _ _ _ _ _ _ _ _ _ _
      | exact attestorlaw28_lives.mono _
      | exact isa_Valid.mono _ _
      | exact machine_Halted.mono _ _ _ _ _ _ _ _ _ _ _ _ _ _ _ _ _ _ _ _ _ _ _
      | exact machine_Run.mono _ _ _ _ _ _ _ _ _ _ _ _ _ _ _ _ _ _ _ _ _ _ _ _
      | exact machine_States.mono _ _ _ _ _ _ _ _ _ _ _ _ _ _ _ _ _ _ _ _ _ _ _ _
      | exact LeO.none _
      | refine LeO.ite ?_ ?_
      | refine LeO.bind ?_ (fun _ => ?_)
def attestorlaw28_MachineParts.T14 : Bool × List (List Nat × List Nat) := (true, [([], []), ([], []), ([0, 1], [0, 1]), ([2], [2]), ([3], [3]), ([3], [3]), ([4, 5, 3], [3, 4, 5]), ([6, 3], [3, 6]), ([3], [3]), ([7, 8, 3], [3, 7, 8]), ([3, 9], [3, 9]), ([10, 3], [10]), ([11], [11]), ([11], [11]), ([12, 13, 11], [11, 12, 13]), ([14, 11, 11], [11, 14]), ([15], [15]), ([15], [15]), ([15], [15]), ([17, 18, 15], [15, 17, 18]), ([19, 15], [15, 19]), ([16, 20, 15, 15], [15, 16, 20]), ([15, 21, 11], [11, 15, 21]), ([11, 22], [11, 22])])
def attestorlaw28_MachineParts.B14 : List Nat := [0, 0, 3, 7, 15, 15, 63, 127, 15, 511, 1023, 2047, 4095, 4095, 16383, 32767, 65535, 65535, 65535, 458751, 983039, 2097151, 4194303, 8388607]
theorem attestorlaw28_MachineParts.tab14 : rtab .any (opsOf Tryd.f5 14) = attestorlaw28_MachineParts.T14 := by kernel_rfl
theorem attestorlaw28_MachineParts.bits14 : waitsOk attestorlaw28_MachineParts.T14.2 attestorlaw28_MachineParts.B14 = true := by kernel_rfl
def attestorlaw28_MachineParts.T16 : Bool × List (List Nat × List Nat) := (true, [([], []), ([], []), ([], []), ([2], [2]), ([3], [3]), ([1, 4], [1, 4]), ([0, 5], [0, 5]), ([6], [6]), ([], []), ([7, 8], [7, 8]), ([9], [9]), ([10, 10], [10]), ([10, 11], [10, 11]), ([12, 11, 0, 1, 2, 3, 4, 5, 6, 7, 8, 9, 10, 11, 12], [12])])
def attestorlaw28_MachineParts.B16 : List Nat := [0, 0, 0, 4, 12, 30, 63, 127, 0, 511, 1023, 2047, 4095, 8191]
theorem attestorlaw28_MachineParts.tab16 : rtab .any (opsOf Tryd.f5 16) = attestorlaw28_MachineParts.T16 := by kernel_rfl
theorem attestorlaw28_MachineParts.bits16 : waitsOk attestorlaw28_MachineParts.T16.2 attestorlaw28_MachineParts.B16 = true := by kernel_rfl
set_option maxHeartbeats 8000000 in
set_option maxRecDepth 100000 in
theorem attestorlaw28_MachineParts.calls (k : Nat) (A0 : Option Addr) (c0 : Nat) (l0 : List (S47)) (a1_0 : Int) (a1_1 : Int) (a1_2 : Int) (a1_3 : Int) (a1_4 : Int) (a1_5 : Int) (a1_6 : Int) (a1_7 : Int) (a1_8 : Int) (a1_9 : Int) (a1_10 : Int) (a1_11 : Int) (a1_12 : Int) (a1_13 : Int) (a1_14 : Int) (a1_15 : Int) (a1_16 : Int) (a1_17 : Int) (a1_18 : Int) (a1_19 : Int) (a1_20 : Int) (a2 : Int) (a3 : Int) (r : Bool) (w : World) (hr0 : Kd.C k47 w A0 l0.length l0) (hc0 : l0.length ≤ c0) (hrG : GL w) (h : attestorlaw28_MachineParts.f k l0 a1_0 a1_1 a1_2 a1_3 a1_4 a1_5 a1_6 a1_7 a1_8 a1_9 a1_10 a1_11 a1_12 a1_13 a1_14 a1_15 a1_16 a1_17 a1_18 a1_19 a1_20 a2 a3 = some r) :
  Calls Tryd.prog 5 #[.slice A0 l0.length c0, .agg #[.int .i64 a1_0, .int .u8 a1_1, .int .u8 a1_2, .int .u8 a1_3, .int .u8 a1_4, .int .u8 a1_5, .int .u8 a1_6, .int .u8 a1_7, .int .u8 a1_8, .int .u8 a1_9, .int .u8 a1_10, .int .u8 a1_11, .int .u8 a1_12, .int .u8 a1_13, .int .u8 a1_14, .int .u8 a1_15, .int .u8 a1_16, .int .u8 a1_17, .int .u8 a1_18, .int .u8 a1_19, .int .u8 a1_20], .int .u8 a2, .int .u8 a3] w fun e w' => e = .returned (.bool r) ∧ Below w.heap.size w w' := by
 have hu26 := Tryd.underlying26
 have HRG := Aside0.mk hrG
 clear hrG
 have HR0 := Aside0.mk hr0
 have HC0 := Aside0.mk hc0
 clear hr0 hc0
 have HB := Aside0.mk (Below.refl w.heap.size w)
 have H : ((attestorlaw28_cut.f l0).bind fun t582 => ((attestorlaw28_valid.f t582 a1_0 a1_1 a1_2 a1_3 a1_4 a1_5 a1_6 a1_7 a1_8 a1_9 a1_10 a1_11 a1_12 a1_13 a1_14 a1_15 a1_16 a1_17 a1_18 a1_19 a1_20).bind fun bt585 => ((machine_Run.f k t582 bt585.1 bt585.2.1 bt585.2.2.1 bt585.2.2.2.1 bt585.2.2.2.2.1 bt585.2.2.2.2.2.1 bt585.2.2.2.2.2.2.1 bt585.2.2.2.2.2.2.2.1 bt585.2.2.2.2.2.2.2.2.1 bt585.2.2.2.2.2.2.2.2.2.1 bt585.2.2.2.2.2.2.2.2.2.2.1 bt585.2.2.2.2.2.2.2.2.2.2.2.1 bt585.2.2.2.2.2.2.2.2.2.2.2.2.1 bt585.2.2.2.2.2.2.2.2.2.2.2.2.2.1 bt585.2.2.2.2.2.2.2.2.2.2.2.2.2.2.1 bt585.2.2.2.2.2.2.2.2.2.2.2.2.2.2.2.1 bt585.2.2.2.2.2.2.2.2.2.2.2.2.2.2.2.2.1 bt585.2.2.2.2.2.2.2.2.2.2.2.2.2.2.2.2.2.1 bt585.2.2.2.2.2.2.2.2.2.2.2.2.2.2.2.2.2.2.1 bt585.2.2.2.2.2.2.2.2.2.2.2.2.2.2.2.2.2.2.2.1 bt585.2.2.2.2.2.2.2.2.2.2.2.2.2.2.2.2.2.2.2.2 (wrap64 (a2))).bind fun bt606 => ((isa_Valid.f k t582).bind fun t630 => (if t630 = 0 then ((machine_Run.f k t582 bt606.1 bt606.2.1 bt606.2.2.1 bt606.2.2.2.1 bt606.2.2.2.2.1 bt606.2.2.2.2.2.1 bt606.2.2.2.2.2.2.1 bt606.2.2.2.2.2.2.2.1 bt606.2.2.2.2.2.2.2.2.1 bt606.2.2.2.2.2.2.2.2.2.1 bt606.2.2.2.2.2.2.2.2.2.2.1 bt606.2.2.2.2.2.2.2.2.2.2.2.1 bt606.2.2.2.2.2.2.2.2.2.2.2.2.1 bt606.2.2.2.2.2.2.2.2.2.2.2.2.2.1 bt606.2.2.2.2.2.2.2.2.2.2.2.2.2.2.1 bt606.2.2.2.2.2.2.2.2.2.2.2.2.2.2.2.1 bt606.2.2.2.2.2.2.2.2.2.2.2.2.2.2.2.2.1 bt606.2.2.2.2.2.2.2.2.2.2.2.2.2.2.2.2.2.1 bt606.2.2.2.2.2.2.2.2.2.2.2.2.2.2.2.2.2.2.1 bt606.2.2.2.2.2.2.2.2.2.2.2.2.2.2.2.2.2.2.2.1 bt606.2.2.2.2.2.2.2.2.2.2.2.2.2.2.2.2.2.2.2.2.1 (wrap64 (a3))).bind fun bt632 => ((machine_Run.f k t582 bt585.1 bt585.2.1 bt585.2.2.1 bt585.2.2.2.1 bt585.2.2.2.2.1 bt585.2.2.2.2.2.1 bt585.2.2.2.2.2.2.1 bt585.2.2.2.2.2.2.2.1 bt585.2.2.2.2.2.2.2.2.1 bt585.2.2.2.2.2.2.2.2.2.1 bt585.2.2.2.2.2.2.2.2.2.2.1 bt585.2.2.2.2.2.2.2.2.2.2.2.1 bt585.2.2.2.2.2.2.2.2.2.2.2.2.1 bt585.2.2.2.2.2.2.2.2.2.2.2.2.2.1 bt585.2.2.2.2.2.2.2.2.2.2.2.2.2.2.1 bt585.2.2.2.2.2.2.2.2.2.2.2.2.2.2.2.1 bt585.2.2.2.2.2.2.2.2.2.2.2.2.2.2.2.2.1 bt585.2.2.2.2.2.2.2.2.2.2.2.2.2.2.2.2.2.1 bt585.2.2.2.2.2.2.2.2.2.2.2.2.2.2.2.2.2.2.1 bt585.2.2.2.2.2.2.2.2.2.2.2.2.2.2.2.2.2.2.2.1 bt585.2.2.2.2.2.2.2.2.2.2.2.2.2.2.2.2.2.2.2.2 (wrap64 ((wrap64 (a2)) + (wrap64 (a3))))).bind fun bt656 => ((machine_States.f k t582 bt585.1 bt585.2.1 bt585.2.2.1 bt585.2.2.2.1 bt585.2.2.2.2.1 bt585.2.2.2.2.2.1 bt585.2.2.2.2.2.2.1 bt585.2.2.2.2.2.2.2.1 bt585.2.2.2.2.2.2.2.2.1 bt585.2.2.2.2.2.2.2.2.2.1 bt585.2.2.2.2.2.2.2.2.2.2.1 bt585.2.2.2.2.2.2.2.2.2.2.2.1 bt585.2.2.2.2.2.2.2.2.2.2.2.2.1 bt585.2.2.2.2.2.2.2.2.2.2.2.2.2.1 bt585.2.2.2.2.2.2.2.2.2.2.2.2.2.2.1 bt585.2.2.2.2.2.2.2.2.2.2.2.2.2.2.2.1 bt585.2.2.2.2.2.2.2.2.2.2.2.2.2.2.2.2.1 bt585.2.2.2.2.2.2.2.2.2.2.2.2.2.2.2.2.2.1 bt585.2.2.2.2.2.2.2.2.2.2.2.2.2.2.2.2.2.2.1 bt585.2.2.2.2.2.2.2.2.2.2.2.2.2.2.2.2.2.2.2.1 bt585.2.2.2.2.2.2.2.2.2.2.2.2.2.2.2.2.2.2.2.2 (wrap64 ((wrap64 ((wrap64 (a2)) + (wrap64 (a3)))) + 1))).bind fun bt680 => (if bt606.2.2.2.2.2.2.2.2.2.2.2.2.2.2.2.2.2.2.2.2.2.2 = 0 then (if bt632.2.2.2.2.2.2.2.2.2.2.2.2.2.2.2.2.2.2.2.2.2.2 = 0 then (if bt656.2.2.2.2.2.2.2.2.2.2.2.2.2.2.2.2.2.2.2.2.2.2 = 0 then (if bt680.2 = 0 then (if (!(bt632.1 == bt656.1) || ((!(bt632.2.1 == bt656.2.1) || (!(bt632.2.2.1 == bt656.2.2.1) || (!(bt632.2.2.2.1 == bt656.2.2.2.1) || (!(bt632.2.2.2.2.1 == bt656.2.2.2.2.1))))) || ((!(bt632.2.2.2.2.2.1 == bt656.2.2.2.2.2.1) || (!(bt632.2.2.2.2.2.2.1 == bt656.2.2.2.2.2.2.1) || (!(bt632.2.2.2.2.2.2.2.1 == bt656.2.2.2.2.2.2.2.1) || (!(bt632.2.2.2.2.2.2.2.2.1 == bt656.2.2.2.2.2.2.2.2.1) || (!(bt632.2.2.2.2.2.2.2.2.2.1 == bt656.2.2.2.2.2.2.2.2.2.1) || (!(bt632.2.2.2.2.2.2.2.2.2.2.1 == bt656.2.2.2.2.2.2.2.2.2.2.1) || (!(bt632.2.2.2.2.2.2.2.2.2.2.2.1 == bt656.2.2.2.2.2.2.2.2.2.2.2.1) || (!(bt632.2.2.2.2.2.2.2.2.2.2.2.2.1 == bt656.2.2.2.2.2.2.2.2.2.2.2.2.1) || (!(bt632.2.2.2.2.2.2.2.2.2.2.2.2.2.1 == bt656.2.2.2.2.2.2.2.2.2.2.2.2.2.1) || (!(bt632.2.2.2.2.2.2.2.2.2.2.2.2.2.2.1 == bt656.2.2.2.2.2.2.2.2.2.2.2.2.2.2.1) || (!(bt632.2.2.2.2.2.2.2.2.2.2.2.2.2.2.2.1 == bt656.2.2.2.2.2.2.2.2.2.2.2.2.2.2.2.1) || (!(bt632.2.2.2.2.2.2.2.2.2.2.2.2.2.2.2.2.1 == bt656.2.2.2.2.2.2.2.2.2.2.2.2.2.2.2.2.1) || (!(bt632.2.2.2.2.2.2.2.2.2.2.2.2.2.2.2.2.2.1 == bt656.2.2.2.2.2.2.2.2.2.2.2.2.2.2.2.2.2.1) || (!(bt632.2.2.2.2.2.2.2.2.2.2.2.2.2.2.2.2.2.2.1 == bt656.2.2.2.2.2.2.2.2.2.2.2.2.2.2.2.2.2.2.1) || (!(bt632.2.2.2.2.2.2.2.2.2.2.2.2.2.2.2.2.2.2.2.1 == bt656.2.2.2.2.2.2.2.2.2.2.2.2.2.2.2.2.2.2.2.1) || (!(bt632.2.2.2.2.2.2.2.2.2.2.2.2.2.2.2.2.2.2.2.2.1 == bt656.2.2.2.2.2.2.2.2.2.2.2.2.2.2.2.2.2.2.2.2.1)))))))))))))))))))) = true then (none) else (if (wrap64 (bt606.2.2.2.2.2.2.2.2.2.2.2.2.2.2.2.2.2.2.2.2.2.1 + bt632.2.2.2.2.2.2.2.2.2.2.2.2.2.2.2.2.2.2.2.2.2.1)) = bt656.2.2.2.2.2.2.2.2.2.2.2.2.2.2.2.2.2.2.2.2.2.1 then (if (bt680.1.length : Int) = (wrap64 ((wrap64 ((wrap64 (a2)) + (wrap64 (a3)))) + 1)) then (if bt606.2.2.2.2.2.2.2.2.2.2.2.2.2.2.2.2.2.2.2.2.2.1 > (wrap64 (a2)) then (none) else (if bt606.2.2.2.2.2.2.2.2.2.2.2.2.2.2.2.2.2.2.2.2.2.1 < (wrap64 (a2)) then ((machine_Halted.f k t582 bt606.1 bt606.2.1 bt606.2.2.1 bt606.2.2.2.1 bt606.2.2.2.2.1 bt606.2.2.2.2.2.1 bt606.2.2.2.2.2.2.1 bt606.2.2.2.2.2.2.2.1 bt606.2.2.2.2.2.2.2.2.1 bt606.2.2.2.2.2.2.2.2.2.1 bt606.2.2.2.2.2.2.2.2.2.2.1 bt606.2.2.2.2.2.2.2.2.2.2.2.1 bt606.2.2.2.2.2.2.2.2.2.2.2.2.1 bt606.2.2.2.2.2.2.2.2.2.2.2.2.2.1 bt606.2.2.2.2.2.2.2.2.2.2.2.2.2.2.1 bt606.2.2.2.2.2.2.2.2.2.2.2.2.2.2.2.1 bt606.2.2.2.2.2.2.2.2.2.2.2.2.2.2.2.2.1 bt606.2.2.2.2.2.2.2.2.2.2.2.2.2.2.2.2.2.1 bt606.2.2.2.2.2.2.2.2.2.2.2.2.2.2.2.2.2.2.1 bt606.2.2.2.2.2.2.2.2.2.2.2.2.2.2.2.2.2.2.2.1 bt606.2.2.2.2.2.2.2.2.2.2.2.2.2.2.2.2.2.2.2.2.1).bind fun t684 => (attestorlaw28_MachineParts.j0 k t582 bt606.2.2.2.2.2.2.2.2.2.2.2.2.2.2.2.2.2.2.2.2.2.1 bt656.2.2.2.2.2.2.2.2.2.2.2.2.2.2.2.2.2.2.2.2.2.1 bt680.1 (!t684) bt606.1 bt606.2.1 bt606.2.2.1 bt606.2.2.2.1 bt606.2.2.2.2.1 bt606.2.2.2.2.2.1 bt606.2.2.2.2.2.2.1 bt606.2.2.2.2.2.2.2.1 bt606.2.2.2.2.2.2.2.2.1 bt606.2.2.2.2.2.2.2.2.2.1 bt606.2.2.2.2.2.2.2.2.2.2.1 bt606.2.2.2.2.2.2.2.2.2.2.2.1 bt606.2.2.2.2.2.2.2.2.2.2.2.2.1 bt606.2.2.2.2.2.2.2.2.2.2.2.2.2.1 bt606.2.2.2.2.2.2.2.2.2.2.2.2.2.2.1 bt606.2.2.2.2.2.2.2.2.2.2.2.2.2.2.2.1 bt606.2.2.2.2.2.2.2.2.2.2.2.2.2.2.2.2.1 bt606.2.2.2.2.2.2.2.2.2.2.2.2.2.2.2.2.2.1 bt606.2.2.2.2.2.2.2.2.2.2.2.2.2.2.2.2.2.2.1 bt606.2.2.2.2.2.2.2.2.2.2.2.2.2.2.2.2.2.2.2.1 bt606.2.2.2.2.2.2.2.2.2.2.2.2.2.2.2.2.2.2.2.2.1 bt656.1 bt656.2.1 bt656.2.2.1 bt656.2.2.2.1 bt656.2.2.2.2.1 bt656.2.2.2.2.2.1 bt656.2.2.2.2.2.2.1 bt656.2.2.2.2.2.2.2.1 bt656.2.2.2.2.2.2.2.2.1 bt656.2.2.2.2.2.2.2.2.2.1 bt656.2.2.2.2.2.2.2.2.2.2.1 bt656.2.2.2.2.2.2.2.2.2.2.2.1 bt656.2.2.2.2.2.2.2.2.2.2.2.2.1 bt656.2.2.2.2.2.2.2.2.2.2.2.2.2.1 bt656.2.2.2.2.2.2.2.2.2.2.2.2.2.2.1 bt656.2.2.2.2.2.2.2.2.2.2.2.2.2.2.2.1 bt656.2.2.2.2.2.2.2.2.2.2.2.2.2.2.2.2.1 bt656.2.2.2.2.2.2.2.2.2.2.2.2.2.2.2.2.2.1 bt656.2.2.2.2.2.2.2.2.2.2.2.2.2.2.2.2.2.2.1 bt656.2.2.2.2.2.2.2.2.2.2.2.2.2.2.2.2.2.2.2.1 bt656.2.2.2.2.2.2.2.2.2.2.2.2.2.2.2.2.2.2.2.2.1)) else (attestorlaw28_MachineParts.j0 k t582 bt606.2.2.2.2.2.2.2.2.2.2.2.2.2.2.2.2.2.2.2.2.2.1 bt656.2.2.2.2.2.2.2.2.2.2.2.2.2.2.2.2.2.2.2.2.2.1 bt680.1 false bt606.1 bt606.2.1 bt606.2.2.1 bt606.2.2.2.1 bt606.2.2.2.2.1 bt606.2.2.2.2.2.1 bt606.2.2.2.2.2.2.1 bt606.2.2.2.2.2.2.2.1 bt606.2.2.2.2.2.2.2.2.1 bt606.2.2.2.2.2.2.2.2.2.1 bt606.2.2.2.2.2.2.2.2.2.2.1 bt606.2.2.2.2.2.2.2.2.2.2.2.1 bt606.2.2.2.2.2.2.2.2.2.2.2.2.1 bt606.2.2.2.2.2.2.2.2.2.2.2.2.2.1 bt606.2.2.2.2.2.2.2.2.2.2.2.2.2.2.1 bt606.2.2.2.2.2.2.2.2.2.2.2.2.2.2.2.1 bt606.2.2.2.2.2.2.2.2.2.2.2.2.2.2.2.2.1 bt606.2.2.2.2.2.2.2.2.2.2.2.2.2.2.2.2.2.1 bt606.2.2.2.2.2.2.2.2.2.2.2.2.2.2.2.2.2.2.1 bt606.2.2.2.2.2.2.2.2.2.2.2.2.2.2.2.2.2.2.2.1 bt606.2.2.2.2.2.2.2.2.2.2.2.2.2.2.2.2.2.2.2.2.1 bt656.1 bt656.2.1 bt656.2.2.1 bt656.2.2.2.1 bt656.2.2.2.2.1 bt656.2.2.2.2.2.1 bt656.2.2.2.2.2.2.1 bt656.2.2.2.2.2.2.2.1 bt656.2.2.2.2.2.2.2.2.1 bt656.2.2.2.2.2.2.2.2.2.1 bt656.2.2.2.2.2.2.2.2.2.2.1 bt656.2.2.2.2.2.2.2.2.2.2.2.1 bt656.2.2.2.2.2.2.2.2.2.2.2.2.1 bt656.2.2.2.2.2.2.2.2.2.2.2.2.2.1 bt656.2.2.2.2.2.2.2.2.2.2.2.2.2.2.1 bt656.2.2.2.2.2.2.2.2.2.2.2.2.2.2.2.1 bt656.2.2.2.2.2.2.2.2.2.2.2.2.2.2.2.2.1 bt656.2.2.2.2.2.2.2.2.2.2.2.2.2.2.2.2.2.1 bt656.2.2.2.2.2.2.2.2.2.2.2.2.2.2.2.2.2.2.1 bt656.2.2.2.2.2.2.2.2.2.2.2.2.2.2.2.2.2.2.2.1 bt656.2.2.2.2.2.2.2.2.2.2.2.2.2.2.2.2.2.2.2.2.1))) else (none)) else (none))) else (none)) else (none)) else (none)) else (none))))) else (if bt606.2.2.2.2.2.2.2.2.2.2.2.2.2.2.2.2.2.2.2.2.2.2 = 1 then (if bt606.2.2.2.2.2.2.2.2.2.2.2.2.2.2.2.2.2.2.2.2.2.1 = 0 then (if (bt606.1 == 0 && ((bt606.2.1 == 0 && (bt606.2.2.1 == 0 && (bt606.2.2.2.1 == 0 && (bt606.2.2.2.2.1 == 0)))) && ((bt606.2.2.2.2.2.1 == 0 && (bt606.2.2.2.2.2.2.1 == 0 && (bt606.2.2.2.2.2.2.2.1 == 0 && (bt606.2.2.2.2.2.2.2.2.1 == 0 && (bt606.2.2.2.2.2.2.2.2.2.1 == 0 && (bt606.2.2.2.2.2.2.2.2.2.2.1 == 0 && (bt606.2.2.2.2.2.2.2.2.2.2.2.1 == 0 && (bt606.2.2.2.2.2.2.2.2.2.2.2.2.1 == 0 && (bt606.2.2.2.2.2.2.2.2.2.2.2.2.2.1 == 0 && (bt606.2.2.2.2.2.2.2.2.2.2.2.2.2.2.1 == 0 && (bt606.2.2.2.2.2.2.2.2.2.2.2.2.2.2.2.1 == 0 && (bt606.2.2.2.2.2.2.2.2.2.2.2.2.2.2.2.2.1 == 0 && (bt606.2.2.2.2.2.2.2.2.2.2.2.2.2.2.2.2.2.1 == 0 && (bt606.2.2.2.2.2.2.2.2.2.2.2.2.2.2.2.2.2.2.1 == 0 && (bt606.2.2.2.2.2.2.2.2.2.2.2.2.2.2.2.2.2.2.2.1 == 0 && (bt606.2.2.2.2.2.2.2.2.2.2.2.2.2.2.2.2.2.2.2.2.1 == 0))))))))))))))))))) = true then ((attestorlaw28_lives.f k).bind fun t631 => (some t631)) else (none)) else (none)) else (none))))))) = some r := h
 clear h
 replace H := Option.bind_eq_some_iff.mp H
 obtain ⟨t582, A50, H⟩ := H
 (try dsimp only at H)
 have A5 := Aside0.mk A50
 clear A50
 replace H := Option.bind_eq_some_iff.mp H
 obtain ⟨⟨t585, t586, t587, t588, t589, t590, t591, t592, t593, t594, t595, t596, t597, t598, t599, t600, t601, t602, t603, t604, t605⟩, A60, H⟩ := H
 (try dsimp only at H)
 have A6 := Aside0.mk A60
 clear A60
 replace H := Option.bind_eq_some_iff.mp H
 obtain ⟨⟨t606, t607, t608, t609, t610, t611, t612, t613, t614, t615, t616, t617, t618, t619, t620, t621, t622, t623, t624, t625, t626, t627, t628⟩, A70, H⟩ := H
 (try dsimp only at H)
 have A7 := Aside0.mk A70
 clear A70
 replace H := Option.bind_eq_some_iff.mp H
 obtain ⟨t630, A80, H⟩ := H
 (try dsimp only at H)
 have A8 := Aside0.mk A80
 clear A80
 by_cases c9 : t630 = 0
 ·rw [if_pos c9] at H
  have c9b0 : (t630 == 0) = true := beq_iff_eq.mpr c9
  have c9b1 : (t630 != 0) = false := bne_eq_false_iff_eq.mpr c9
  clear c9
  replace H := Option.bind_eq_some_iff.mp H
  obtain ⟨⟨t632, t633, t634, t635, t636, t637, t638, t639, t640, t641, t642, t643, t644, t645, t646, t647, t648, t649, t650, t651, t652, t653, t654⟩, A100, H⟩ := H
  (try dsimp only at H)
  have A10 := Aside0.mk A100
  clear A100
  replace H := Option.bind_eq_some_iff.mp H
  obtain ⟨⟨t656, t657, t658, t659, t660, t661, t662, t663, t664, t665, t666, t667, t668, t669, t670, t671, t672, t673, t674, t675, t676, t677, t678⟩, A110, H⟩ := H
  (try dsimp only at H)
  have A11 := Aside0.mk A110
  clear A110
  replace H := Option.bind_eq_some_iff.mp H
  obtain ⟨⟨t680, t683⟩, A120, H⟩ := H
  (try dsimp only at H)
  have A12 := Aside0.mk A120
  clear A120
  have HC13 := Aside0.mk H
  clear H
  go_enter Tryd.func5, Tryd.ntmps5
  go_upto_region 9 with (first | ((with_reducible refine gate_dst (N := 5) rfl ?_); (try (refine gate_guard (by rfl) ?_; dsimp only)); refine box_event ?hg (N := 5) ?hd (cs := #[.int .i64 a1_0, .int .u8 a1_1, .int .u8 a1_2, .int .u8 a1_3, .int .u8 a1_4, .int .u8 a1_5, .int .u8 a1_6, .int .u8 a1_7, .int .u8 a1_8, .int .u8 a1_9, .int .u8 a1_10, .int .u8 a1_11, .int .u8 a1_12, .int .u8 a1_13, .int .u8 a1_14, .int .u8 a1_15, .int .u8 a1_16, .int .u8 a1_17, .int .u8 a1_18, .int .u8 a1_19, .int .u8 a1_20]) (t := 26) ?hr ?_; (case hd => rfl); (case hg => rfl); (case hr => first | (go_simp; done) | (go_simp; rfl)); intro g581 hg w14 hbox hb; have n0_ := Aside0.mk (below_step (by repeat (first | (with_reducible first | exact HB.out | apply below_alloc | apply pw_below_drewN | apply below_drew1) | exact HB.out)) hb); have n1_ := Aside0.mk (hbox); have n2_ := Aside0.mk ((by rw [hg]; exact (below_size (by repeat (first | (with_reducible first | exact HB.out | apply below_alloc | apply pw_below_drewN | apply below_drew1) | exact HB.out))) : w.heap.size ≤ g581)); have n3_ := Aside0.mk ((by rw [hg]; exact (below_size (by repeat (first | (with_reducible first | exact HB.out | apply below_alloc | apply pw_below_drewN | apply below_drew1) | exact HB.out))) : w.heap.size ≤ g581)); clear HB; have HB := n0_; have B581 := n1_; have GW581 := n2_; have GE581 := n3_; clear n0_ n1_ n2_ n3_; clear hb hbox hg) | ((with_reducible refine gate_callee (f := 9) rfl ?_); refine goesL_ (some 22) rfl rfl Tryd.func9 (by kernel_rfl) rfl #[.slice A0 l0.length c0] rfl (by (try simp only [List.map_toArray, List.map_cons, List.map_nil]); first | done | rfl | (go_simp; done)) ?_; (with_reducible refine (attestorlaw28_cut.calls _ _ l0 t582 _ ?side1 ?side2 A5.out).mono ?_); (case side1 => repeat (first | exact (Kd.C_below HR0.out HB.out) | (with_reducible refine Kd.C_alloc ?_ _) | (with_reducible refine Kd.C_drewN ?_ _) | (with_reducible refine Kd.C_drew ?_))); (case side2 => exact HC0.out); rintro e w15 ⟨v583, rfl, ho0, hb⟩; refine ⟨_, rfl, ?_⟩; have n0_ := Aside0.mk (Kd.R_lower ho0 (below_size (by repeat (first | (with_reducible first | exact HB.out | apply below_alloc | apply pw_below_drewN | apply below_drew1 | refine below_set ?_ GE581.out) | exact HB.out)))); have n1_ := Aside0.mk (blk_below (g := g581) (o := .cells #[.int .i64 a1_0, .int .u8 a1_1, .int .u8 a1_2, .int .u8 a1_3, .int .u8 a1_4, .int .u8 a1_5, .int .u8 a1_6, .int .u8 a1_7, .int .u8 a1_8, .int .u8 a1_9, .int .u8 a1_10, .int .u8 a1_11, .int .u8 a1_12, .int .u8 a1_13, .int .u8 a1_14, .int .u8 a1_15, .int .u8 a1_16, .int .u8 a1_17, .int .u8 a1_18, .int .u8 a1_19, .int .u8 a1_20] 26 (0, 0)) (by exact B581.out) hb); have n2_ := Aside0.mk (below_step (by repeat (first | (with_reducible first | exact HB.out | apply below_alloc | apply pw_below_drewN | apply below_drew1 | refine below_set ?_ GE581.out) | exact HB.out)) hb); clear B581; clear HB; have HO584 := n0_; have B581 := n1_; have HB := n2_; clear n0_ n1_ n2_; (try clear hb); (try clear hb2); (try clear hk); (try clear hi); (try clear ho0)) | ((with_reducible refine gate_dst (N := 24) rfl ?_); (try (refine gate_guard (by rfl) ?_; dsimp only)); refine wpList_load_row rfl 26 (.tmp 5) rfl g581 rfl 26 #[.int .i64 a1_0, .int .u8 a1_1, .int .u8 a1_2, .int .u8 a1_3, .int .u8 a1_4, .int .u8 a1_5, .int .u8 a1_6, .int .u8 a1_7, .int .u8 a1_8, .int .u8 a1_9, .int .u8 a1_10, .int .u8 a1_11, .int .u8 a1_12, .int .u8 a1_13, .int .u8 a1_14, .int .u8 a1_15, .int .u8 a1_16, .int .u8 a1_17, .int .u8 a1_18, .int .u8 a1_19, .int .u8 a1_20] (0, 0) _ (by exact B581.out) Tryd.underlying26 rfl (by kernel_rfl) ?_; obtain ⟨Ao16, co16, eo16⟩ := Kd.R_slice HO584.out; subst eo16) | ((with_reducible refine gate_callee (f := 24) rfl ?_); refine goesL_ (some 25) rfl rfl Tryd.func24 (by kernel_rfl) rfl #[.slice Ao16 t582.length co16, .agg #[.int .i64 a1_0, .int .u8 a1_1, .int .u8 a1_2, .int .u8 a1_3, .int .u8 a1_4, .int .u8 a1_5, .int .u8 a1_6, .int .u8 a1_7, .int .u8 a1_8, .int .u8 a1_9, .int .u8 a1_10, .int .u8 a1_11, .int .u8 a1_12, .int .u8 a1_13, .int .u8 a1_14, .int .u8 a1_15, .int .u8 a1_16, .int .u8 a1_17, .int .u8 a1_18, .int .u8 a1_19, .int .u8 a1_20]] rfl (by (try simp only [List.map_toArray, List.map_cons, List.map_nil]); first | done | rfl | (go_simp; done)) ?_; (with_reducible refine (attestorlaw28_valid.calls _ _ t582 a1_0 a1_1 a1_2 a1_3 a1_4 a1_5 a1_6 a1_7 a1_8 a1_9 a1_10 a1_11 a1_12 a1_13 a1_14 a1_15 a1_16 a1_17 a1_18 a1_19 a1_20 t585 t586 t587 t588 t589 t590 t591 t592 t593 t594 t595 t596 t597 t598 t599 t600 t601 t602 t603 t604 t605 _ ?side1 ?side2 A6.out).mono ?_); (case side1 => repeat (first | exact (Kd.R_reads' HO584.out).2.2 | (with_reducible refine Kd.C_alloc ?_ _) | (with_reducible refine Kd.C_drewN ?_ _) | (with_reducible refine Kd.C_drew ?_))); (case side2 => exact (Kd.R_reads' HO584.out).2.1); rintro e w17 ⟨rfl, hb⟩; refine ⟨_, rfl, ?_⟩; have n0_ := Aside0.mk (Kd.R_below (by (with_reducible repeat (first | apply Kd.R_alloc | apply Kd.R_drewN | apply Kd.R_drew)); exact HO584.out) hb); have n1_ := Aside0.mk (blk_below (g := g581) (o := .cells #[.int .i64 a1_0, .int .u8 a1_1, .int .u8 a1_2, .int .u8 a1_3, .int .u8 a1_4, .int .u8 a1_5, .int .u8 a1_6, .int .u8 a1_7, .int .u8 a1_8, .int .u8 a1_9, .int .u8 a1_10, .int .u8 a1_11, .int .u8 a1_12, .int .u8 a1_13, .int .u8 a1_14, .int .u8 a1_15, .int .u8 a1_16, .int .u8 a1_17, .int .u8 a1_18, .int .u8 a1_19, .int .u8 a1_20] 26 (0, 0)) (by exact B581.out) hb); have n2_ := Aside0.mk (below_step (by repeat (first | (with_reducible first | exact HB.out | apply below_alloc | apply pw_below_drewN | apply below_drew1 | refine below_set ?_ GE581.out) | exact HB.out)) hb); clear HO584; clear B581; clear HB; have HO584 := n0_; have B581 := n1_; have HB := n2_; clear n0_ n1_ n2_; (try clear hb); (try clear hb2); (try clear hk); (try clear hi)) | ((with_reducible refine gate_store (t := 26) (p := 5) rfl ?_); refine store_wide rfl 26 5 _ rfl rfl g581 #[.int .i64 t585, .int .u8 t586, .int .u8 t587, .int .u8 t588, .int .u8 t589, .int .u8 t590, .int .u8 t591, .int .u8 t592, .int .u8 t593, .int .u8 t594, .int .u8 t595, .int .u8 t596, .int .u8 t597, .int .u8 t598, .int .u8 t599, .int .u8 t600, .int .u8 t601, .int .u8 t602, .int .u8 t603, .int .u8 t604, .int .u8 t605] rfl rfl 26 #[.int .i64 a1_0, .int .u8 a1_1, .int .u8 a1_2, .int .u8 a1_3, .int .u8 a1_4, .int .u8 a1_5, .int .u8 a1_6, .int .u8 a1_7, .int .u8 a1_8, .int .u8 a1_9, .int .u8 a1_10, .int .u8 a1_11, .int .u8 a1_12, .int .u8 a1_13, .int .u8 a1_14, .int .u8 a1_15, .int .u8 a1_16, .int .u8 a1_17, .int .u8 a1_18, .int .u8 a1_19, .int .u8 a1_20] B581.out (by kernel_rfl) rfl (by simp [Value.oneCell']) ?_; intro w18 hnew hoth hbel; have n0_ := Aside0.mk (Kd.R_mono (Kd.R_step (Kd.R_types HO584.out B581.out (by decide)) (fun k_ hk _ => hoth k_ hk.2)) (fun _ hk => hk.1)); have n1_ := Aside0.mk (hnew); have n2_ := Aside0.mk (Below.trans (by repeat (first | (with_reducible first | exact HB.out | apply below_alloc | apply pw_below_drewN | apply below_drew1 | refine below_set ?_ GE581.out) | exact HB.out)) (hbel.mono GE581.out)); clear HO584; clear B581; clear HB; have HO584 := n0_; have B581 := n1_; have HB := n2_; clear n0_ n1_ n2_; clear hnew hoth hbel) | ((with_reducible refine gate_dst (N := 28) rfl ?_); (try (refine gate_guard (by rfl) ?_; dsimp only)); refine wpList_load_row rfl 26 (.tmp 5) rfl g581 rfl 26 #[.int .i64 t585, .int .u8 t586, .int .u8 t587, .int .u8 t588, .int .u8 t589, .int .u8 t590, .int .u8 t591, .int .u8 t592, .int .u8 t593, .int .u8 t594, .int .u8 t595, .int .u8 t596, .int .u8 t597, .int .u8 t598, .int .u8 t599, .int .u8 t600, .int .u8 t601, .int .u8 t602, .int .u8 t603, .int .u8 t604, .int .u8 t605] (0, 0) _ (by exact B581.out) Tryd.underlying26 rfl (by kernel_rfl) ?_) | ((with_reducible refine gate_callee (f := 19) rfl ?_); refine goesL_ (some 31) rfl rfl Tryd.func19 (by kernel_rfl) rfl #[.slice Ao16 t582.length co16, .agg #[.int .i64 t585, .int .u8 t586, .int .u8 t587, .int .u8 t588, .int .u8 t589, .int .u8 t590, .int .u8 t591, .int .u8 t592, .int .u8 t593, .int .u8 t594, .int .u8 t595, .int .u8 t596, .int .u8 t597, .int .u8 t598, .int .u8 t599, .int .u8 t600, .int .u8 t601, .int .u8 t602, .int .u8 t603, .int .u8 t604, .int .u8 t605], .int .i64 (wrap64 (a2))] rfl (by (try simp only [List.map_toArray, List.map_cons, List.map_nil]); first | done | rfl | (go_simp; done)) ?_; (with_reducible refine (machine_Run.calls k _ _ t582 t585 t586 t587 t588 t589 t590 t591 t592 t593 t594 t595 t596 t597 t598 t599 t600 t601 t602 t603 t604 t605 (wrap64 (a2)) t606 t607 t608 t609 t610 t611 t612 t613 t614 t615 t616 t617 t618 t619 t620 t621 t622 t623 t624 t625 t626 t627 t628 _ ?side1 ?side2 ?side3 A7.out).mono ?_); (case side1 => repeat (first | exact (Kd.R_reads' HO584.out).2.2 | (with_reducible refine Kd.C_alloc ?_ _) | (with_reducible refine Kd.C_drewN ?_ _) | (with_reducible refine Kd.C_drew ?_))); (case side2 => exact (Kd.R_reads' HO584.out).2.1); (case side3 => repeat (first | exact (GL.below HRG.out HB.out) | (with_reducible refine GL.alloc ?_ _) | (with_reducible refine GL.drewN ?_ _) | (with_reducible refine GL.drew ?_))); rintro e w19 ⟨rfl, hb⟩; refine ⟨_, rfl, ?_⟩; have n0_ := Aside0.mk (Kd.R_below (by (with_reducible repeat (first | apply Kd.R_alloc | apply Kd.R_drewN | apply Kd.R_drew)); exact HO584.out) hb); have n1_ := Aside0.mk (blk_below (g := g581) (o := .cells #[.int .i64 t585, .int .u8 t586, .int .u8 t587, .int .u8 t588, .int .u8 t589, .int .u8 t590, .int .u8 t591, .int .u8 t592, .int .u8 t593, .int .u8 t594, .int .u8 t595, .int .u8 t596, .int .u8 t597, .int .u8 t598, .int .u8 t599, .int .u8 t600, .int .u8 t601, .int .u8 t602, .int .u8 t603, .int .u8 t604, .int .u8 t605] 26 (0, 0)) (by exact B581.out) hb); have n2_ := Aside0.mk (below_step (by repeat (first | (with_reducible first | exact HB.out | apply below_alloc | apply pw_below_drewN | apply below_drew1 | refine below_set ?_ GE581.out) | exact HB.out)) hb); clear HO584; clear B581; clear HB; have HO584 := n0_; have B581 := n1_; have HB := n2_; clear n0_ n1_ n2_; (try clear hb); (try clear hb2); (try clear hk); (try clear hi)) | ((with_reducible refine gate_dst (N := 9) rfl ?_); (try (refine gate_guard (by rfl) ?_; dsimp only)); refine box_event ?hg (N := 9) ?hd (cs := #[.int .i64 0, .int .u8 0, .int .u8 0, .int .u8 0, .int .u8 0, .int .u8 0, .int .u8 0, .int .u8 0, .int .u8 0, .int .u8 0, .int .u8 0, .int .u8 0, .int .u8 0, .int .u8 0, .int .u8 0, .int .u8 0, .int .u8 0, .int .u8 0, .int .u8 0, .int .u8 0, .int .u8 0]) (t := 26) ?hr ?_; (case hd => rfl); (case hg => rfl); (case hr => first | (go_simp; done) | (go_simp; rfl)); intro g629 hg w20 hbox hb; have n0_ := Aside0.mk (Kd.R_below (by (with_reducible repeat (first | apply Kd.R_alloc | apply Kd.R_drewN | apply Kd.R_drew)); exact HO584.out) hb); have n1_ := Aside0.mk (blk_below (g := g581) (o := .cells #[.int .i64 t585, .int .u8 t586, .int .u8 t587, .int .u8 t588, .int .u8 t589, .int .u8 t590, .int .u8 t591, .int .u8 t592, .int .u8 t593, .int .u8 t594, .int .u8 t595, .int .u8 t596, .int .u8 t597, .int .u8 t598, .int .u8 t599, .int .u8 t600, .int .u8 t601, .int .u8 t602, .int .u8 t603, .int .u8 t604, .int .u8 t605] 26 (0, 0)) (by exact B581.out) hb); have n2_ := Aside0.mk (below_step (by repeat (first | (with_reducible first | exact HB.out | apply below_alloc | apply pw_below_drewN | apply below_drew1 | refine below_set ?_ GE581.out) | exact HB.out)) hb); have n3_ := Aside0.mk (hbox); have n4_ := Aside0.mk ((by rw [hg]; exact (below_size (by repeat (first | (with_reducible first | exact HB.out | apply below_alloc | apply pw_below_drewN | apply below_drew1 | refine below_set ?_ GE581.out) | exact HB.out))) : w.heap.size ≤ g629)); have n5_ := Aside0.mk ((by rw [hg]; exact (below_size (by repeat (first | (with_reducible first | exact HB.out | apply below_alloc | apply pw_below_drewN | apply below_drew1 | refine below_set ?_ GE581.out) | exact HB.out))) : w.heap.size ≤ g629)); have n6_ := Aside0.mk ((by rw [hg]; exact Nat.ne_of_lt (blk_lt (g := g581) (o := .cells #[.int .i64 t585, .int .u8 t586, .int .u8 t587, .int .u8 t588, .int .u8 t589, .int .u8 t590, .int .u8 t591, .int .u8 t592, .int .u8 t593, .int .u8 t594, .int .u8 t595, .int .u8 t596, .int .u8 t597, .int .u8 t598, .int .u8 t599, .int .u8 t600, .int .u8 t601, .int .u8 t602, .int .u8 t603, .int .u8 t604, .int .u8 t605] 26 (0, 0)) (by exact B581.out)) : g581 ≠ g629)); have n7_ := Aside0.mk ((by rw [hg]; exact Nat.ne_of_gt (blk_lt (g := g581) (o := .cells #[.int .i64 t585, .int .u8 t586, .int .u8 t587, .int .u8 t588, .int .u8 t589, .int .u8 t590, .int .u8 t591, .int .u8 t592, .int .u8 t593, .int .u8 t594, .int .u8 t595, .int .u8 t596, .int .u8 t597, .int .u8 t598, .int .u8 t599, .int .u8 t600, .int .u8 t601, .int .u8 t602, .int .u8 t603, .int .u8 t604, .int .u8 t605] 26 (0, 0)) (by exact B581.out)) : g629 ≠ g581)); clear HO584; clear B581; clear HB; have HO584 := n0_; have B581 := n1_; have HB := n2_; have B629 := n3_; have GW629 := n4_; have GE629 := n5_; have NB581_629 := n6_; have NB629_581 := n7_; clear n0_ n1_ n2_ n3_ n4_ n5_ n6_ n7_; clear hb hbox hg) | ((with_reducible refine gate_store (t := 26) (p := 9) rfl ?_); refine store_wide rfl 26 9 _ rfl rfl g629 #[.int .i64 t606, .int .u8 t607, .int .u8 t608, .int .u8 t609, .int .u8 t610, .int .u8 t611, .int .u8 t612, .int .u8 t613, .int .u8 t614, .int .u8 t615, .int .u8 t616, .int .u8 t617, .int .u8 t618, .int .u8 t619, .int .u8 t620, .int .u8 t621, .int .u8 t622, .int .u8 t623, .int .u8 t624, .int .u8 t625, .int .u8 t626] rfl rfl 26 #[.int .i64 0, .int .u8 0, .int .u8 0, .int .u8 0, .int .u8 0, .int .u8 0, .int .u8 0, .int .u8 0, .int .u8 0, .int .u8 0, .int .u8 0, .int .u8 0, .int .u8 0, .int .u8 0, .int .u8 0, .int .u8 0, .int .u8 0, .int .u8 0, .int .u8 0, .int .u8 0, .int .u8 0] B629.out (by kernel_rfl) rfl (by simp [Value.oneCell']) ?_; intro w21 hnew hoth hbel; have n0_ := Aside0.mk (Kd.R_mono (Kd.R_step (Kd.R_types HO584.out B629.out (by decide)) (fun k_ hk _ => hoth k_ hk.2)) (fun _ hk => hk.1)); have n1_ := Aside0.mk ((hoth _ NB581_629.out).trans B581.out); have n2_ := Aside0.mk (hnew); have n3_ := Aside0.mk (Below.trans (by repeat (first | (with_reducible first | exact HB.out | apply below_alloc | apply pw_below_drewN | apply below_drew1 | refine below_set ?_ GE581.out | refine below_set ?_ GE629.out) | exact HB.out)) (hbel.mono GE629.out)); clear HO584; clear B581; clear B629; clear HB; have HO584 := n0_; have B581 := n1_; have B629 := n2_; have HB := n3_; clear n0_ n1_ n2_ n3_; clear hnew hoth hbel) | ((with_reducible refine gate_callee (f := 25) rfl ?_); refine goesL_ (some 36) rfl rfl Tryd.func25 (by kernel_rfl) rfl #[.slice Ao16 t582.length co16] rfl (by (try simp only [List.map_toArray, List.map_cons, List.map_nil]); first | done | rfl | (go_simp; done)) ?_; (with_reducible refine (isa_Valid.calls k _ _ t582 t630 _ ?side1 ?side2 ?side3 A8.out).mono ?_); (case side1 => repeat (first | exact (Kd.R_reads' HO584.out).2.2 | (with_reducible refine Kd.C_alloc ?_ _) | (with_reducible refine Kd.C_drewN ?_ _) | (with_reducible refine Kd.C_drew ?_))); (case side2 => exact (Kd.R_reads' HO584.out).2.1); (case side3 => repeat (first | exact (GL.below HRG.out HB.out) | (with_reducible refine GL.alloc ?_ _) | (with_reducible refine GL.drewN ?_ _) | (with_reducible refine GL.drew ?_))); rintro e w22 ⟨rfl, hb⟩; refine ⟨_, rfl, ?_⟩; have n0_ := Aside0.mk (Kd.R_below (by (with_reducible repeat (first | apply Kd.R_alloc | apply Kd.R_drewN | apply Kd.R_drew)); exact HO584.out) hb); have n1_ := Aside0.mk (blk_below (g := g581) (o := .cells #[.int .i64 t585, .int .u8 t586, .int .u8 t587, .int .u8 t588, .int .u8 t589, .int .u8 t590, .int .u8 t591, .int .u8 t592, .int .u8 t593, .int .u8 t594, .int .u8 t595, .int .u8 t596, .int .u8 t597, .int .u8 t598, .int .u8 t599, .int .u8 t600, .int .u8 t601, .int .u8 t602, .int .u8 t603, .int .u8 t604, .int .u8 t605] 26 (0, 0)) (by exact B581.out) hb); have n2_ := Aside0.mk (blk_below (g := g629) (o := .cells #[.int .i64 t606, .int .u8 t607, .int .u8 t608, .int .u8 t609, .int .u8 t610, .int .u8 t611, .int .u8 t612, .int .u8 t613, .int .u8 t614, .int .u8 t615, .int .u8 t616, .int .u8 t617, .int .u8 t618, .int .u8 t619, .int .u8 t620, .int .u8 t621, .int .u8 t622, .int .u8 t623, .int .u8 t624, .int .u8 t625, .int .u8 t626] 26 (0, 0)) (by exact B629.out) hb); have n3_ := Aside0.mk (below_step (by repeat (first | (with_reducible first | exact HB.out | apply below_alloc | apply pw_below_drewN | apply below_drew1 | refine below_set ?_ GE581.out | refine below_set ?_ GE629.out) | exact HB.out)) hb); clear HO584; clear B581; clear B629; clear HB; have HO584 := n0_; have B581 := n1_; have B629 := n2_; have HB := n3_; clear n0_ n1_ n2_ n3_; (try clear hb); (try clear hb2); (try clear hk); (try clear hi)) | ((with_reducible refine gate_dst (N := 54) rfl ?_); (try (refine gate_guard (by rfl) ?_; dsimp only)); refine wpList_load_row rfl 26 (.tmp 9) rfl g629 rfl 26 #[.int .i64 t606, .int .u8 t607, .int .u8 t608, .int .u8 t609, .int .u8 t610, .int .u8 t611, .int .u8 t612, .int .u8 t613, .int .u8 t614, .int .u8 t615, .int .u8 t616, .int .u8 t617, .int .u8 t618, .int .u8 t619, .int .u8 t620, .int .u8 t621, .int .u8 t622, .int .u8 t623, .int .u8 t624, .int .u8 t625, .int .u8 t626] (0, 0) _ (by exact B629.out) Tryd.underlying26 rfl (by kernel_rfl) ?_) | ((with_reducible refine gate_callee (f := 19) rfl ?_); refine goesL_ (some 57) rfl rfl Tryd.func19 (by kernel_rfl) rfl #[.slice Ao16 t582.length co16, .agg #[.int .i64 t606, .int .u8 t607, .int .u8 t608, .int .u8 t609, .int .u8 t610, .int .u8 t611, .int .u8 t612, .int .u8 t613, .int .u8 t614, .int .u8 t615, .int .u8 t616, .int .u8 t617, .int .u8 t618, .int .u8 t619, .int .u8 t620, .int .u8 t621, .int .u8 t622, .int .u8 t623, .int .u8 t624, .int .u8 t625, .int .u8 t626], .int .i64 (wrap64 (a3))] rfl (by (try simp only [List.map_toArray, List.map_cons, List.map_nil]); first | done | rfl | (go_simp; done)) ?_; (with_reducible refine (machine_Run.calls k _ _ t582 t606 t607 t608 t609 t610 t611 t612 t613 t614 t615 t616 t617 t618 t619 t620 t621 t622 t623 t624 t625 t626 (wrap64 (a3)) t632 t633 t634 t635 t636 t637 t638 t639 t640 t641 t642 t643 t644 t645 t646 t647 t648 t649 t650 t651 t652 t653 t654 _ ?side1 ?side2 ?side3 A10.out).mono ?_); (case side1 => repeat (first | exact (Kd.R_reads' HO584.out).2.2 | (with_reducible refine Kd.C_alloc ?_ _) | (with_reducible refine Kd.C_drewN ?_ _) | (with_reducible refine Kd.C_drew ?_))); (case side2 => exact (Kd.R_reads' HO584.out).2.1); (case side3 => repeat (first | exact (GL.below HRG.out HB.out) | (with_reducible refine GL.alloc ?_ _) | (with_reducible refine GL.drewN ?_ _) | (with_reducible refine GL.drew ?_))); rintro e w23 ⟨rfl, hb⟩; refine ⟨_, rfl, ?_⟩; have n0_ := Aside0.mk (Kd.R_below (by (with_reducible repeat (first | apply Kd.R_alloc | apply Kd.R_drewN | apply Kd.R_drew)); exact HO584.out) hb); have n1_ := Aside0.mk (blk_below (g := g581) (o := .cells #[.int .i64 t585, .int .u8 t586, .int .u8 t587, .int .u8 t588, .int .u8 t589, .int .u8 t590, .int .u8 t591, .int .u8 t592, .int .u8 t593, .int .u8 t594, .int .u8 t595, .int .u8 t596, .int .u8 t597, .int .u8 t598, .int .u8 t599, .int .u8 t600, .int .u8 t601, .int .u8 t602, .int .u8 t603, .int .u8 t604, .int .u8 t605] 26 (0, 0)) (by exact B581.out) hb); have n2_ := Aside0.mk (blk_below (g := g629) (o := .cells #[.int .i64 t606, .int .u8 t607, .int .u8 t608, .int .u8 t609, .int .u8 t610, .int .u8 t611, .int .u8 t612, .int .u8 t613, .int .u8 t614, .int .u8 t615, .int .u8 t616, .int .u8 t617, .int .u8 t618, .int .u8 t619, .int .u8 t620, .int .u8 t621, .int .u8 t622, .int .u8 t623, .int .u8 t624, .int .u8 t625, .int .u8 t626] 26 (0, 0)) (by exact B629.out) hb); have n3_ := Aside0.mk (below_step (by repeat (first | (with_reducible first | exact HB.out | apply below_alloc | apply pw_below_drewN | apply below_drew1 | refine below_set ?_ GE581.out | refine below_set ?_ GE629.out) | exact HB.out)) hb); clear HO584; clear B581; clear B629; clear HB; have HO584 := n0_; have B581 := n1_; have B629 := n2_; have HB := n3_; clear n0_ n1_ n2_ n3_; (try clear hb); (try clear hb2); (try clear hk); (try clear hi)) | ((with_reducible refine gate_dst (N := 12) rfl ?_); (try (refine gate_guard (by rfl) ?_; dsimp only)); refine box_event ?hg (N := 12) ?hd (cs := #[.int .i64 0, .int .u8 0, .int .u8 0, .int .u8 0, .int .u8 0, .int .u8 0, .int .u8 0, .int .u8 0, .int .u8 0, .int .u8 0, .int .u8 0, .int .u8 0, .int .u8 0, .int .u8 0, .int .u8 0, .int .u8 0, .int .u8 0, .int .u8 0, .int .u8 0, .int .u8 0, .int .u8 0]) (t := 26) ?hr ?_; (case hd => rfl); (case hg => rfl); (case hr => first | (go_simp; done) | (go_simp; rfl)); intro g655 hg w24 hbox hb; have n0_ := Aside0.mk (Kd.R_below (by (with_reducible repeat (first | apply Kd.R_alloc | apply Kd.R_drewN | apply Kd.R_drew)); exact HO584.out) hb); have n1_ := Aside0.mk (blk_below (g := g581) (o := .cells #[.int .i64 t585, .int .u8 t586, .int .u8 t587, .int .u8 t588, .int .u8 t589, .int .u8 t590, .int .u8 t591, .int .u8 t592, .int .u8 t593, .int .u8 t594, .int .u8 t595, .int .u8 t596, .int .u8 t597, .int .u8 t598, .int .u8 t599, .int .u8 t600, .int .u8 t601, .int .u8 t602, .int .u8 t603, .int .u8 t604, .int .u8 t605] 26 (0, 0)) (by exact B581.out) hb); have n2_ := Aside0.mk (blk_below (g := g629) (o := .cells #[.int .i64 t606, .int .u8 t607, .int .u8 t608, .int .u8 t609, .int .u8 t610, .int .u8 t611, .int .u8 t612, .int .u8 t613, .int .u8 t614, .int .u8 t615, .int .u8 t616, .int .u8 t617, .int .u8 t618, .int .u8 t619, .int .u8 t620, .int .u8 t621, .int .u8 t622, .int .u8 t623, .int .u8 t624, .int .u8 t625, .int .u8 t626] 26 (0, 0)) (by exact B629.out) hb); have n3_ := Aside0.mk (below_step (by repeat (first | (with_reducible first | exact HB.out | apply below_alloc | apply pw_below_drewN | apply below_drew1 | refine below_set ?_ GE581.out | refine below_set ?_ GE629.out) | exact HB.out)) hb); have n4_ := Aside0.mk (hbox); have n5_ := Aside0.mk ((by rw [hg]; exact (below_size (by repeat (first | (with_reducible first | exact HB.out | apply below_alloc | apply pw_below_drewN | apply below_drew1 | refine below_set ?_ GE581.out | refine below_set ?_ GE629.out) | exact HB.out))) : w.heap.size ≤ g655)); have n6_ := Aside0.mk ((by rw [hg]; exact (below_size (by repeat (first | (with_reducible first | exact HB.out | apply below_alloc | apply pw_below_drewN | apply below_drew1 | refine below_set ?_ GE581.out | refine below_set ?_ GE629.out) | exact HB.out))) : w.heap.size ≤ g655)); have n7_ := Aside0.mk ((by rw [hg]; exact Nat.ne_of_lt (blk_lt (g := g581) (o := .cells #[.int .i64 t585, .int .u8 t586, .int .u8 t587, .int .u8 t588, .int .u8 t589, .int .u8 t590, .int .u8 t591, .int .u8 t592, .int .u8 t593, .int .u8 t594, .int .u8 t595, .int .u8 t596, .int .u8 t597, .int .u8 t598, .int .u8 t599, .int .u8 t600, .int .u8 t601, .int .u8 t602, .int .u8 t603, .int .u8 t604, .int .u8 t605] 26 (0, 0)) (by exact B581.out)) : g581 ≠ g655)); have n8_ := Aside0.mk ((by rw [hg]; exact Nat.ne_of_gt (blk_lt (g := g581) (o := .cells #[.int .i64 t585, .int .u8 t586, .int .u8 t587, .int .u8 t588, .int .u8 t589, .int .u8 t590, .int .u8 t591, .int .u8 t592, .int .u8 t593, .int .u8 t594, .int .u8 t595, .int .u8 t596, .int .u8 t597, .int .u8 t598, .int .u8 t599, .int .u8 t600, .int .u8 t601, .int .u8 t602, .int .u8 t603, .int .u8 t604, .int .u8 t605] 26 (0, 0)) (by exact B581.out)) : g655 ≠ g581)); have n9_ := Aside0.mk ((by rw [hg]; exact Nat.ne_of_lt (blk_lt (g := g629) (o := .cells #[.int .i64 t606, .int .u8 t607, .int .u8 t608, .int .u8 t609, .int .u8 t610, .int .u8 t611, .int .u8 t612, .int .u8 t613, .int .u8 t614, .int .u8 t615, .int .u8 t616, .int .u8 t617, .int .u8 t618, .int .u8 t619, .int .u8 t620, .int .u8 t621, .int .u8 t622, .int .u8 t623, .int .u8 t624, .int .u8 t625, .int .u8 t626] 26 (0, 0)) (by exact B629.out)) : g629 ≠ g655)); have n10_ := Aside0.mk ((by rw [hg]; exact Nat.ne_of_gt (blk_lt (g := g629) (o := .cells #[.int .i64 t606, .int .u8 t607, .int .u8 t608, .int .u8 t609, .int .u8 t610, .int .u8 t611, .int .u8 t612, .int .u8 t613, .int .u8 t614, .int .u8 t615, .int .u8 t616, .int .u8 t617, .int .u8 t618, .int .u8 t619, .int .u8 t620, .int .u8 t621, .int .u8 t622, .int .u8 t623, .int .u8 t624, .int .u8 t625, .int .u8 t626] 26 (0, 0)) (by exact B629.out)) : g655 ≠ g629)); clear HO584; clear B581; clear B629; clear HB; have HO584 := n0_; have B581 := n1_; have B629 := n2_; have HB := n3_; have B655 := n4_; have GW655 := n5_; have GE655 := n6_; have NB581_655 := n7_; have NB655_581 := n8_; have NB629_655 := n9_; have NB655_629 := n10_; clear n0_ n1_ n2_ n3_ n4_ n5_ n6_ n7_ n8_ n9_ n10_; clear hb hbox hg) | ((with_reducible refine gate_store (t := 26) (p := 12) rfl ?_); refine store_wide rfl 26 12 _ rfl rfl g655 #[.int .i64 t632, .int .u8 t633, .int .u8 t634, .int .u8 t635, .int .u8 t636, .int .u8 t637, .int .u8 t638, .int .u8 t639, .int .u8 t640, .int .u8 t641, .int .u8 t642, .int .u8 t643, .int .u8 t644, .int .u8 t645, .int .u8 t646, .int .u8 t647, .int .u8 t648, .int .u8 t649, .int .u8 t650, .int .u8 t651, .int .u8 t652] rfl rfl 26 #[.int .i64 0, .int .u8 0, .int .u8 0, .int .u8 0, .int .u8 0, .int .u8 0, .int .u8 0, .int .u8 0, .int .u8 0, .int .u8 0, .int .u8 0, .int .u8 0, .int .u8 0, .int .u8 0, .int .u8 0, .int .u8 0, .int .u8 0, .int .u8 0, .int .u8 0, .int .u8 0, .int .u8 0] B655.out (by kernel_rfl) rfl (by simp [Value.oneCell']) ?_; intro w25 hnew hoth hbel; have n0_ := Aside0.mk (Kd.R_mono (Kd.R_step (Kd.R_types HO584.out B655.out (by decide)) (fun k_ hk _ => hoth k_ hk.2)) (fun _ hk => hk.1)); have n1_ := Aside0.mk ((hoth _ NB581_655.out).trans B581.out); have n2_ := Aside0.mk ((hoth _ NB629_655.out).trans B629.out); have n3_ := Aside0.mk (hnew); have n4_ := Aside0.mk (Below.trans (by repeat (first | (with_reducible first | exact HB.out | apply below_alloc | apply pw_below_drewN | apply below_drew1 | refine below_set ?_ GE581.out | refine below_set ?_ GE629.out | refine below_set ?_ GE655.out) | exact HB.out)) (hbel.mono GE655.out)); clear HO584; clear B581; clear B629; clear B655; clear HB; have HO584 := n0_; have B581 := n1_; have B629 := n2_; have B655 := n3_; have HB := n4_; clear n0_ n1_ n2_ n3_ n4_; clear hnew hoth hbel) | ((with_reducible refine gate_dst (N := 63) rfl ?_); (try (refine gate_guard (by rfl) ?_; dsimp only)); refine wpList_load_row rfl 26 (.tmp 5) rfl g581 rfl 26 #[.int .i64 t585, .int .u8 t586, .int .u8 t587, .int .u8 t588, .int .u8 t589, .int .u8 t590, .int .u8 t591, .int .u8 t592, .int .u8 t593, .int .u8 t594, .int .u8 t595, .int .u8 t596, .int .u8 t597, .int .u8 t598, .int .u8 t599, .int .u8 t600, .int .u8 t601, .int .u8 t602, .int .u8 t603, .int .u8 t604, .int .u8 t605] (0, 0) _ (by exact B581.out) Tryd.underlying26 rfl (by kernel_rfl) ?_) | ((with_reducible refine gate_callee (f := 19) rfl ?_); refine goesL_ (some 69) rfl rfl Tryd.func19 (by kernel_rfl) rfl #[.slice Ao16 t582.length co16, .agg #[.int .i64 t585, .int .u8 t586, .int .u8 t587, .int .u8 t588, .int .u8 t589, .int .u8 t590, .int .u8 t591, .int .u8 t592, .int .u8 t593, .int .u8 t594, .int .u8 t595, .int .u8 t596, .int .u8 t597, .int .u8 t598, .int .u8 t599, .int .u8 t600, .int .u8 t601, .int .u8 t602, .int .u8 t603, .int .u8 t604, .int .u8 t605], .int .i64 (wrap64 ((wrap64 (a2)) + (wrap64 (a3))))] rfl (by (try simp only [List.map_toArray, List.map_cons, List.map_nil]); first | done | rfl | (go_simp; done)) ?_; (with_reducible refine (machine_Run.calls k _ _ t582 t585 t586 t587 t588 t589 t590 t591 t592 t593 t594 t595 t596 t597 t598 t599 t600 t601 t602 t603 t604 t605 (wrap64 ((wrap64 (a2)) + (wrap64 (a3)))) t656 t657 t658 t659 t660 t661 t662 t663 t664 t665 t666 t667 t668 t669 t670 t671 t672 t673 t674 t675 t676 t677 t678 _ ?side1 ?side2 ?side3 A11.out).mono ?_); (case side1 => repeat (first | exact (Kd.R_reads' HO584.out).2.2 | (with_reducible refine Kd.C_alloc ?_ _) | (with_reducible refine Kd.C_drewN ?_ _) | (with_reducible refine Kd.C_drew ?_))); (case side2 => exact (Kd.R_reads' HO584.out).2.1); (case side3 => repeat (first | exact (GL.below HRG.out HB.out) | (with_reducible refine GL.alloc ?_ _) | (with_reducible refine GL.drewN ?_ _) | (with_reducible refine GL.drew ?_))); rintro e w26 ⟨rfl, hb⟩; refine ⟨_, rfl, ?_⟩; have n0_ := Aside0.mk (Kd.R_below (by (with_reducible repeat (first | apply Kd.R_alloc | apply Kd.R_drewN | apply Kd.R_drew)); exact HO584.out) hb); have n1_ := Aside0.mk (blk_below (g := g581) (o := .cells #[.int .i64 t585, .int .u8 t586, .int .u8 t587, .int .u8 t588, .int .u8 t589, .int .u8 t590, .int .u8 t591, .int .u8 t592, .int .u8 t593, .int .u8 t594, .int .u8 t595, .int .u8 t596, .int .u8 t597, .int .u8 t598, .int .u8 t599, .int .u8 t600, .int .u8 t601, .int .u8 t602, .int .u8 t603, .int .u8 t604, .int .u8 t605] 26 (0, 0)) (by exact B581.out) hb); have n2_ := Aside0.mk (blk_below (g := g629) (o := .cells #[.int .i64 t606, .int .u8 t607, .int .u8 t608, .int .u8 t609, .int .u8 t610, .int .u8 t611, .int .u8 t612, .int .u8 t613, .int .u8 t614, .int .u8 t615, .int .u8 t616, .int .u8 t617, .int .u8 t618, .int .u8 t619, .int .u8 t620, .int .u8 t621, .int .u8 t622, .int .u8 t623, .int .u8 t624, .int .u8 t625, .int .u8 t626] 26 (0, 0)) (by exact B629.out) hb); have n3_ := Aside0.mk (blk_below (g := g655) (o := .cells #[.int .i64 t632, .int .u8 t633, .int .u8 t634, .int .u8 t635, .int .u8 t636, .int .u8 t637, .int .u8 t638, .int .u8 t639, .int .u8 t640, .int .u8 t641, .int .u8 t642, .int .u8 t643, .int .u8 t644, .int .u8 t645, .int .u8 t646, .int .u8 t647, .int .u8 t648, .int .u8 t649, .int .u8 t650, .int .u8 t651, .int .u8 t652] 26 (0, 0)) (by exact B655.out) hb); have n4_ := Aside0.mk (below_step (by repeat (first | (with_reducible first | exact HB.out | apply below_alloc | apply pw_below_drewN | apply below_drew1 | refine below_set ?_ GE581.out | refine below_set ?_ GE629.out | refine below_set ?_ GE655.out) | exact HB.out)) hb); clear HO584; clear B581; clear B629; clear B655; clear HB; have HO584 := n0_; have B581 := n1_; have B629 := n2_; have B655 := n3_; have HB := n4_; clear n0_ n1_ n2_ n3_ n4_; (try clear hb); (try clear hb2); (try clear hk); (try clear hi)) | ((with_reducible refine gate_dst (N := 15) rfl ?_); (try (refine gate_guard (by rfl) ?_; dsimp only)); refine box_event ?hg (N := 15) ?hd (cs := #[.int .i64 0, .int .u8 0, .int .u8 0, .int .u8 0, .int .u8 0, .int .u8 0, .int .u8 0, .int .u8 0, .int .u8 0, .int .u8 0, .int .u8 0, .int .u8 0, .int .u8 0, .int .u8 0, .int .u8 0, .int .u8 0, .int .u8 0, .int .u8 0, .int .u8 0, .int .u8 0, .int .u8 0]) (t := 26) ?hr ?_; (case hd => rfl); (case hg => rfl); (case hr => first | (go_simp; done) | (go_simp; rfl)); intro g679 hg w27 hbox hb; have n0_ := Aside0.mk (Kd.R_below (by (with_reducible repeat (first | apply Kd.R_alloc | apply Kd.R_drewN | apply Kd.R_drew)); exact HO584.out) hb); have n1_ := Aside0.mk (blk_below (g := g581) (o := .cells #[.int .i64 t585, .int .u8 t586, .int .u8 t587, .int .u8 t588, .int .u8 t589, .int .u8 t590, .int .u8 t591, .int .u8 t592, .int .u8 t593, .int .u8 t594, .int .u8 t595, .int .u8 t596, .int .u8 t597, .int .u8 t598, .int .u8 t599, .int .u8 t600, .int .u8 t601, .int .u8 t602, .int .u8 t603, .int .u8 t604, .int .u8 t605] 26 (0, 0)) (by exact B581.out) hb); have n2_ := Aside0.mk (blk_below (g := g629) (o := .cells #[.int .i64 t606, .int .u8 t607, .int .u8 t608, .int .u8 t609, .int .u8 t610, .int .u8 t611, .int .u8 t612, .int .u8 t613, .int .u8 t614, .int .u8 t615, .int .u8 t616, .int .u8 t617, .int .u8 t618, .int .u8 t619, .int .u8 t620, .int .u8 t621, .int .u8 t622, .int .u8 t623, .int .u8 t624, .int .u8 t625, .int .u8 t626] 26 (0, 0)) (by exact B629.out) hb); have n3_ := Aside0.mk (blk_below (g := g655) (o := .cells #[.int .i64 t632, .int .u8 t633, .int .u8 t634, .int .u8 t635, .int .u8 t636, .int .u8 t637, .int .u8 t638, .int .u8 t639, .int .u8 t640, .int .u8 t641, .int .u8 t642, .int .u8 t643, .int .u8 t644, .int .u8 t645, .int .u8 t646, .int .u8 t647, .int .u8 t648, .int .u8 t649, .int .u8 t650, .int .u8 t651, .int .u8 t652] 26 (0, 0)) (by exact B655.out) hb); have n4_ := Aside0.mk (below_step (by repeat (first | (with_reducible first | exact HB.out | apply below_alloc | apply pw_below_drewN | apply below_drew1 | refine below_set ?_ GE581.out | refine below_set ?_ GE629.out | refine below_set ?_ GE655.out) | exact HB.out)) hb); have n5_ := Aside0.mk (hbox); have n6_ := Aside0.mk ((by rw [hg]; exact (below_size (by repeat (first | (with_reducible first | exact HB.out | apply below_alloc | apply pw_below_drewN | apply below_drew1 | refine below_set ?_ GE581.out | refine below_set ?_ GE629.out | refine below_set ?_ GE655.out) | exact HB.out))) : w.heap.size ≤ g679)); have n7_ := Aside0.mk ((by rw [hg]; exact (below_size (by repeat (first | (with_reducible first | exact HB.out | apply below_alloc | apply pw_below_drewN | apply below_drew1 | refine below_set ?_ GE581.out | refine below_set ?_ GE629.out | refine below_set ?_ GE655.out) | exact HB.out))) : w.heap.size ≤ g679)); have n8_ := Aside0.mk ((by rw [hg]; exact Nat.ne_of_lt (blk_lt (g := g581) (o := .cells #[.int .i64 t585, .int .u8 t586, .int .u8 t587, .int .u8 t588, .int .u8 t589, .int .u8 t590, .int .u8 t591, .int .u8 t592, .int .u8 t593, .int .u8 t594, .int .u8 t595, .int .u8 t596, .int .u8 t597, .int .u8 t598, .int .u8 t599, .int .u8 t600, .int .u8 t601, .int .u8 t602, .int .u8 t603, .int .u8 t604, .int .u8 t605] 26 (0, 0)) (by exact B581.out)) : g581 ≠ g679)); have n9_ := Aside0.mk ((by rw [hg]; exact Nat.ne_of_gt (blk_lt (g := g581) (o := .cells #[.int .i64 t585, .int .u8 t586, .int .u8 t587, .int .u8 t588, .int .u8 t589, .int .u8 t590, .int .u8 t591, .int .u8 t592, .int .u8 t593, .int .u8 t594, .int .u8 t595, .int .u8 t596, .int .u8 t597, .int .u8 t598, .int .u8 t599, .int .u8 t600, .int .u8 t601, .int .u8 t602, .int .u8 t603, .int .u8 t604, .int .u8 t605] 26 (0, 0)) (by exact B581.out)) : g679 ≠ g581)); have n10_ := Aside0.mk ((by rw [hg]; exact Nat.ne_of_lt (blk_lt (g := g629) (o := .cells #[.int .i64 t606, .int .u8 t607, .int .u8 t608, .int .u8 t609, .int .u8 t610, .int .u8 t611, .int .u8 t612, .int .u8 t613, .int .u8 t614, .int .u8 t615, .int .u8 t616, .int .u8 t617, .int .u8 t618, .int .u8 t619, .int .u8 t620, .int .u8 t621, .int .u8 t622, .int .u8 t623, .int .u8 t624, .int .u8 t625, .int .u8 t626] 26 (0, 0)) (by exact B629.out)) : g629 ≠ g679)); have n11_ := Aside0.mk ((by rw [hg]; exact Nat.ne_of_gt (blk_lt (g := g629) (o := .cells #[.int .i64 t606, .int .u8 t607, .int .u8 t608, .int .u8 t609, .int .u8 t610, .int .u8 t611, .int .u8 t612, .int .u8 t613, .int .u8 t614, .int .u8 t615, .int .u8 t616, .int .u8 t617, .int .u8 t618, .int .u8 t619, .int .u8 t620, .int .u8 t621, .int .u8 t622, .int .u8 t623, .int .u8 t624, .int .u8 t625, .int .u8 t626] 26 (0, 0)) (by exact B629.out)) : g679 ≠ g629)); have n12_ := Aside0.mk ((by rw [hg]; exact Nat.ne_of_lt (blk_lt (g := g655) (o := .cells #[.int .i64 t632, .int .u8 t633, .int .u8 t634, .int .u8 t635, .int .u8 t636, .int .u8 t637, .int .u8 t638, .int .u8 t639, .int .u8 t640, .int .u8 t641, .int .u8 t642, .int .u8 t643, .int .u8 t644, .int .u8 t645, .int .u8 t646, .int .u8 t647, .int .u8 t648, .int .u8 t649, .int .u8 t650, .int .u8 t651, .int .u8 t652] 26 (0, 0)) (by exact B655.out)) : g655 ≠ g679)); have n13_ := Aside0.mk ((by rw [hg]; exact Nat.ne_of_gt (blk_lt (g := g655) (o := .cells #[.int .i64 t632, .int .u8 t633, .int .u8 t634, .int .u8 t635, .int .u8 t636, .int .u8 t637, .int .u8 t638, .int .u8 t639, .int .u8 t640, .int .u8 t641, .int .u8 t642, .int .u8 t643, .int .u8 t644, .int .u8 t645, .int .u8 t646, .int .u8 t647, .int .u8 t648, .int .u8 t649, .int .u8 t650, .int .u8 t651, .int .u8 t652] 26 (0, 0)) (by exact B655.out)) : g679 ≠ g655)); clear HO584; clear B581; clear B629; clear B655; clear HB; have HO584 := n0_; have B581 := n1_; have B629 := n2_; have B655 := n3_; have HB := n4_; have B679 := n5_; have GW679 := n6_; have GE679 := n7_; have NB581_679 := n8_; have NB679_581 := n9_; have NB629_679 := n10_; have NB679_629 := n11_; have NB655_679 := n12_; have NB679_655 := n13_; clear n0_ n1_ n2_ n3_ n4_ n5_ n6_ n7_ n8_ n9_ n10_ n11_ n12_ n13_; clear hb hbox hg) | ((with_reducible refine gate_store (t := 26) (p := 15) rfl ?_); refine store_wide rfl 26 15 _ rfl rfl g679 #[.int .i64 t656, .int .u8 t657, .int .u8 t658, .int .u8 t659, .int .u8 t660, .int .u8 t661, .int .u8 t662, .int .u8 t663, .int .u8 t664, .int .u8 t665, .int .u8 t666, .int .u8 t667, .int .u8 t668, .int .u8 t669, .int .u8 t670, .int .u8 t671, .int .u8 t672, .int .u8 t673, .int .u8 t674, .int .u8 t675, .int .u8 t676] rfl rfl 26 #[.int .i64 0, .int .u8 0, .int .u8 0, .int .u8 0, .int .u8 0, .int .u8 0, .int .u8 0, .int .u8 0, .int .u8 0, .int .u8 0, .int .u8 0, .int .u8 0, .int .u8 0, .int .u8 0, .int .u8 0, .int .u8 0, .int .u8 0, .int .u8 0, .int .u8 0, .int .u8 0, .int .u8 0] B679.out (by kernel_rfl) rfl (by simp [Value.oneCell']) ?_; intro w28 hnew hoth hbel; have n0_ := Aside0.mk (Kd.R_mono (Kd.R_step (Kd.R_types HO584.out B679.out (by decide)) (fun k_ hk _ => hoth k_ hk.2)) (fun _ hk => hk.1)); have n1_ := Aside0.mk ((hoth _ NB581_679.out).trans B581.out); have n2_ := Aside0.mk ((hoth _ NB629_679.out).trans B629.out); have n3_ := Aside0.mk ((hoth _ NB655_679.out).trans B655.out); have n4_ := Aside0.mk (hnew); have n5_ := Aside0.mk (Below.trans (by repeat (first | (with_reducible first | exact HB.out | apply below_alloc | apply pw_below_drewN | apply below_drew1 | refine below_set ?_ GE581.out | refine below_set ?_ GE629.out | refine below_set ?_ GE655.out | refine below_set ?_ GE679.out) | exact HB.out)) (hbel.mono GE679.out)); clear HO584; clear B581; clear B629; clear B655; clear B679; clear HB; have HO584 := n0_; have B581 := n1_; have B629 := n2_; have B655 := n3_; have B679 := n4_; have HB := n5_; clear n0_ n1_ n2_ n3_ n4_ n5_; clear hnew hoth hbel) | ((with_reducible refine gate_dst (N := 75) rfl ?_); (try (refine gate_guard (by rfl) ?_; dsimp only)); refine wpList_load_row rfl 26 (.tmp 5) rfl g581 rfl 26 #[.int .i64 t585, .int .u8 t586, .int .u8 t587, .int .u8 t588, .int .u8 t589, .int .u8 t590, .int .u8 t591, .int .u8 t592, .int .u8 t593, .int .u8 t594, .int .u8 t595, .int .u8 t596, .int .u8 t597, .int .u8 t598, .int .u8 t599, .int .u8 t600, .int .u8 t601, .int .u8 t602, .int .u8 t603, .int .u8 t604, .int .u8 t605] (0, 0) _ (by exact B581.out) Tryd.underlying26 rfl (by kernel_rfl) ?_) | ((with_reducible refine gate_callee (f := 21) rfl ?_); refine goesL_ (some 82) rfl rfl Tryd.func21 (by kernel_rfl) rfl #[.slice Ao16 t582.length co16, .agg #[.int .i64 t585, .int .u8 t586, .int .u8 t587, .int .u8 t588, .int .u8 t589, .int .u8 t590, .int .u8 t591, .int .u8 t592, .int .u8 t593, .int .u8 t594, .int .u8 t595, .int .u8 t596, .int .u8 t597, .int .u8 t598, .int .u8 t599, .int .u8 t600, .int .u8 t601, .int .u8 t602, .int .u8 t603, .int .u8 t604, .int .u8 t605], .int .i64 (wrap64 ((wrap64 ((wrap64 (a2)) + (wrap64 (a3)))) + 1))] rfl (by (try simp only [List.map_toArray, List.map_cons, List.map_nil]); first | done | rfl | (go_simp; done)) ?_; (with_reducible refine (machine_States.calls k _ _ t582 t585 t586 t587 t588 t589 t590 t591 t592 t593 t594 t595 t596 t597 t598 t599 t600 t601 t602 t603 t604 t605 (wrap64 ((wrap64 ((wrap64 (a2)) + (wrap64 (a3)))) + 1)) t680 t683 _ ?side1 ?side2 ?side3 A12.out).mono ?_); (case side1 => repeat (first | exact (Kd.R_reads' HO584.out).2.2 | (with_reducible refine Kd.C_alloc ?_ _) | (with_reducible refine Kd.C_drewN ?_ _) | (with_reducible refine Kd.C_drew ?_))); (case side2 => exact (Kd.R_reads' HO584.out).2.1); (case side3 => repeat (first | exact (GL.below HRG.out HB.out) | (with_reducible refine GL.alloc ?_ _) | (with_reducible refine GL.drewN ?_ _) | (with_reducible refine GL.drew ?_))); rintro e w29 ⟨v681, rfl, ho0, hb⟩; refine ⟨_, rfl, ?_⟩; have n0_ := Aside0.mk (Kd.R_below (by (with_reducible repeat (first | apply Kd.R_alloc | apply Kd.R_drewN | apply Kd.R_drew)); exact HO584.out) hb); have n1_ := Aside0.mk (Kd.R_lower (Kd.R_newB (Kd.R_newB (Kd.R_newB (Kd.R_newB ho0 (g := g581) (o := .cells #[.int .i64 t585, .int .u8 t586, .int .u8 t587, .int .u8 t588, .int .u8 t589, .int .u8 t590, .int .u8 t591, .int .u8 t592, .int .u8 t593, .int .u8 t594, .int .u8 t595, .int .u8 t596, .int .u8 t597, .int .u8 t598, .int .u8 t599, .int .u8 t600, .int .u8 t601, .int .u8 t602, .int .u8 t603, .int .u8 t604, .int .u8 t605] 26 (0, 0)) (by exact B581.out)) (g := g629) (o := .cells #[.int .i64 t606, .int .u8 t607, .int .u8 t608, .int .u8 t609, .int .u8 t610, .int .u8 t611, .int .u8 t612, .int .u8 t613, .int .u8 t614, .int .u8 t615, .int .u8 t616, .int .u8 t617, .int .u8 t618, .int .u8 t619, .int .u8 t620, .int .u8 t621, .int .u8 t622, .int .u8 t623, .int .u8 t624, .int .u8 t625, .int .u8 t626] 26 (0, 0)) (by exact B629.out)) (g := g655) (o := .cells #[.int .i64 t632, .int .u8 t633, .int .u8 t634, .int .u8 t635, .int .u8 t636, .int .u8 t637, .int .u8 t638, .int .u8 t639, .int .u8 t640, .int .u8 t641, .int .u8 t642, .int .u8 t643, .int .u8 t644, .int .u8 t645, .int .u8 t646, .int .u8 t647, .int .u8 t648, .int .u8 t649, .int .u8 t650, .int .u8 t651, .int .u8 t652] 26 (0, 0)) (by exact B655.out)) (g := g679) (o := .cells #[.int .i64 t656, .int .u8 t657, .int .u8 t658, .int .u8 t659, .int .u8 t660, .int .u8 t661, .int .u8 t662, .int .u8 t663, .int .u8 t664, .int .u8 t665, .int .u8 t666, .int .u8 t667, .int .u8 t668, .int .u8 t669, .int .u8 t670, .int .u8 t671, .int .u8 t672, .int .u8 t673, .int .u8 t674, .int .u8 t675, .int .u8 t676] 26 (0, 0)) (by exact B679.out)) (below_size (by repeat (first | (with_reducible first | exact HB.out | apply below_alloc | apply pw_below_drewN | apply below_drew1 | refine below_set ?_ GE581.out | refine below_set ?_ GE629.out | refine below_set ?_ GE655.out | refine below_set ?_ GE679.out) | exact HB.out)))); have n2_ := Aside0.mk (blk_below (g := g581) (o := .cells #[.int .i64 t585, .int .u8 t586, .int .u8 t587, .int .u8 t588, .int .u8 t589, .int .u8 t590, .int .u8 t591, .int .u8 t592, .int .u8 t593, .int .u8 t594, .int .u8 t595, .int .u8 t596, .int .u8 t597, .int .u8 t598, .int .u8 t599, .int .u8 t600, .int .u8 t601, .int .u8 t602, .int .u8 t603, .int .u8 t604, .int .u8 t605] 26 (0, 0)) (by exact B581.out) hb); have n3_ := Aside0.mk (blk_below (g := g629) (o := .cells #[.int .i64 t606, .int .u8 t607, .int .u8 t608, .int .u8 t609, .int .u8 t610, .int .u8 t611, .int .u8 t612, .int .u8 t613, .int .u8 t614, .int .u8 t615, .int .u8 t616, .int .u8 t617, .int .u8 t618, .int .u8 t619, .int .u8 t620, .int .u8 t621, .int .u8 t622, .int .u8 t623, .int .u8 t624, .int .u8 t625, .int .u8 t626] 26 (0, 0)) (by exact B629.out) hb); have n4_ := Aside0.mk (blk_below (g := g655) (o := .cells #[.int .i64 t632, .int .u8 t633, .int .u8 t634, .int .u8 t635, .int .u8 t636, .int .u8 t637, .int .u8 t638, .int .u8 t639, .int .u8 t640, .int .u8 t641, .int .u8 t642, .int .u8 t643, .int .u8 t644, .int .u8 t645, .int .u8 t646, .int .u8 t647, .int .u8 t648, .int .u8 t649, .int .u8 t650, .int .u8 t651, .int .u8 t652] 26 (0, 0)) (by exact B655.out) hb); have n5_ := Aside0.mk (blk_below (g := g679) (o := .cells #[.int .i64 t656, .int .u8 t657, .int .u8 t658, .int .u8 t659, .int .u8 t660, .int .u8 t661, .int .u8 t662, .int .u8 t663, .int .u8 t664, .int .u8 t665, .int .u8 t666, .int .u8 t667, .int .u8 t668, .int .u8 t669, .int .u8 t670, .int .u8 t671, .int .u8 t672, .int .u8 t673, .int .u8 t674, .int .u8 t675, .int .u8 t676] 26 (0, 0)) (by exact B679.out) hb); have n6_ := Aside0.mk (below_step (by repeat (first | (with_reducible first | exact HB.out | apply below_alloc | apply pw_below_drewN | apply below_drew1 | refine below_set ?_ GE581.out | refine below_set ?_ GE629.out | refine below_set ?_ GE655.out | refine below_set ?_ GE679.out) | exact HB.out)) hb); clear HO584; clear B581; clear B629; clear B655; clear B679; clear HB; have HO584 := n0_; have HO682 := n1_; have B581 := n2_; have B629 := n3_; have B655 := n4_; have B679 := n5_; have HB := n6_; clear n0_ n1_ n2_ n3_ n4_ n5_ n6_; (try clear hb); (try clear hb2); (try clear hk); (try clear hi); (try clear ho0)))
  (try simp only [Act.put, sa_, sb_, sc_])
  go_cut [139] (fun v139 wc => ∃ (kq : Nat) (x139_12 : Bool), v139 = .bool x139_12 ∧ Aside0 (attestorlaw28_MachineParts.j0 kq t582 t627 t677 t680 x139_12 t606 t607 t608 t609 t610 t611 t612 t613 t614 t615 t616 t617 t618 t619 t620 t621 t622 t623 t624 t625 t626 t656 t657 t658 t659 t660 t661 t662 t663 t664 t665 t666 t667 t668 t669 t670 t671 t672 t673 t674 t675 t676 = some r) ∧ Aside0 (kq ≤ k) ∧ Aside0 (Kd.R k47 47 wc w.heap.size (fun _ => True) (.slice Ao16 t582.length co16) t582) ∧ Aside0 (Kd.R k26 26 wc w.heap.size (fun k_ => k_ ≠ g581 ∧ k_ ≠ g629 ∧ k_ ≠ g655 ∧ k_ ≠ g679) v681 t680) ∧ Aside0 (wc.heap[g581]? = some (.cells #[.int .i64 t585, .int .u8 t586, .int .u8 t587, .int .u8 t588, .int .u8 t589, .int .u8 t590, .int .u8 t591, .int .u8 t592, .int .u8 t593, .int .u8 t594, .int .u8 t595, .int .u8 t596, .int .u8 t597, .int .u8 t598, .int .u8 t599, .int .u8 t600, .int .u8 t601, .int .u8 t602, .int .u8 t603, .int .u8 t604, .int .u8 t605] 26 (0, 0))) ∧ Aside0 (wc.heap[g629]? = some (.cells #[.int .i64 t606, .int .u8 t607, .int .u8 t608, .int .u8 t609, .int .u8 t610, .int .u8 t611, .int .u8 t612, .int .u8 t613, .int .u8 t614, .int .u8 t615, .int .u8 t616, .int .u8 t617, .int .u8 t618, .int .u8 t619, .int .u8 t620, .int .u8 t621, .int .u8 t622, .int .u8 t623, .int .u8 t624, .int .u8 t625, .int .u8 t626] 26 (0, 0))) ∧ Aside0 (wc.heap[g655]? = some (.cells #[.int .i64 t632, .int .u8 t633, .int .u8 t634, .int .u8 t635, .int .u8 t636, .int .u8 t637, .int .u8 t638, .int .u8 t639, .int .u8 t640, .int .u8 t641, .int .u8 t642, .int .u8 t643, .int .u8 t644, .int .u8 t645, .int .u8 t646, .int .u8 t647, .int .u8 t648, .int .u8 t649, .int .u8 t650, .int .u8 t651, .int .u8 t652] 26 (0, 0))) ∧ Aside0 (wc.heap[g679]? = some (.cells #[.int .i64 t656, .int .u8 t657, .int .u8 t658, .int .u8 t659, .int .u8 t660, .int .u8 t661, .int .u8 t662, .int .u8 t663, .int .u8 t664, .int .u8 t665, .int .u8 t666, .int .u8 t667, .int .u8 t668, .int .u8 t669, .int .u8 t670, .int .u8 t671, .int .u8 t672, .int .u8 t673, .int .u8 t674, .int .u8 t675, .int .u8 t676] 26 (0, 0))) ∧ Aside0 (Below w.heap.size w wc))
  case first =>
   have H := HC13.out
   clear HC13
   by_cases c30 : t628 = 0
   ·rw [if_pos c30] at H
    have c30b0 : (t628 == 0) = true := beq_iff_eq.mpr c30
    have c30b1 : (t628 != 0) = false := bne_eq_false_iff_eq.mpr c30
    clear c30
    (first | rw [c30b0] | (simp only [i64_w, i32_w]; rw [c30b0]) | skip)
    by_cases c31 : t654 = 0
    ·rw [if_pos c31] at H
     have c31b0 : (t654 == 0) = true := beq_iff_eq.mpr c31
     have c31b1 : (t654 != 0) = false := bne_eq_false_iff_eq.mpr c31
     clear c31
     by_cases c32 : t678 = 0
     ·rw [if_pos c32] at H
      have c32b0 : (t678 == 0) = true := beq_iff_eq.mpr c32
      have c32b1 : (t678 != 0) = false := bne_eq_false_iff_eq.mpr c32
      clear c32
      by_cases c33 : t683 = 0
      ·rw [if_pos c33] at H
       have c33b0 : (t683 == 0) = true := beq_iff_eq.mpr c33
       have c33b1 : (t683 != 0) = false := bne_eq_false_iff_eq.mpr c33
       clear c33
       by_cases c34 : (!(t632 == t656) || ((!(t633 == t657) || (!(t634 == t658) || (!(t635 == t659) || (!(t636 == t660))))) || ((!(t637 == t661) || (!(t638 == t662) || (!(t639 == t663) || (!(t640 == t664) || (!(t641 == t665) || (!(t642 == t666) || (!(t643 == t667) || (!(t644 == t668) || (!(t645 == t669) || (!(t646 == t670) || (!(t647 == t671) || (!(t648 == t672) || (!(t649 == t673) || (!(t650 == t674) || (!(t651 == t675) || (!(t652 == t676)))))))))))))))))))) = true
       ·rw [if_pos c34] at H
        exact absurd H (by simp)
       ·rw [if_neg c34] at H
        have c34b0 : (!(t632 == t656) || ((!(t633 == t657) || (!(t634 == t658) || (!(t635 == t659) || (!(t636 == t660))))) || ((!(t637 == t661) || (!(t638 == t662) || (!(t639 == t663) || (!(t640 == t664) || (!(t641 == t665) || (!(t642 == t666) || (!(t643 == t667) || (!(t644 == t668) || (!(t645 == t669) || (!(t646 == t670) || (!(t647 == t671) || (!(t648 == t672) || (!(t649 == t673) || (!(t650 == t674) || (!(t651 == t675) || (!(t652 == t676)))))))))))))))))))) = false := by simpa using c34
        clear c34
        by_cases c35 : (wrap64 (t627 + t653)) = t677
        ·rw [if_pos c35] at H
         have c35b0 : ((wrap64 (t627 + t653)) == t677) = true := beq_iff_eq.mpr c35
         have c35b1 : ((wrap64 (t627 + t653)) != t677) = false := bne_eq_false_iff_eq.mpr c35
         clear c35
         by_cases c36 : (t680.length : Int) = (wrap64 ((wrap64 ((wrap64 (a2)) + (wrap64 (a3)))) + 1))
         ·rw [if_pos c36] at H
          have c36b0 : ((t680.length : Int) == (wrap64 ((wrap64 ((wrap64 (a2)) + (wrap64 (a3)))) + 1))) = true := beq_iff_eq.mpr c36
          have c36b1 : ((t680.length : Int) != (wrap64 ((wrap64 ((wrap64 (a2)) + (wrap64 (a3)))) + 1))) = false := bne_eq_false_iff_eq.mpr c36
          clear c36
          by_cases c37 : t627 > (wrap64 (a2))
          ·rw [if_pos c37] at H
           exact absurd H (by simp)
          ·rw [if_neg c37] at H
           have c37b0 : decide ((wrap64 (a2)) < t627) = false := decide_eq_false c37
           clear c37
           by_cases c38 : t627 < (wrap64 (a2))
           ·rw [if_pos c38] at H
            have c38b0 : decide (t627 < (wrap64 (a2))) = true := decide_eq_true c38
            clear c38
            replace H := Option.bind_eq_some_iff.mp H
            obtain ⟨t684, A390, H⟩ := H
            have A39 := Aside0.mk A390
            clear A390
            have H' := Aside0.mk H
            clear H
            go_wp2_with (first | ((with_reducible refine gate_dst (N := 100) rfl ?_); (try (refine gate_guard (by rfl) ?_; dsimp only)); refine wpList_load_row rfl 26 (.tmp 12) rfl g655 rfl 26 #[.int .i64 t632, .int .u8 t633, .int .u8 t634, .int .u8 t635, .int .u8 t636, .int .u8 t637, .int .u8 t638, .int .u8 t639, .int .u8 t640, .int .u8 t641, .int .u8 t642, .int .u8 t643, .int .u8 t644, .int .u8 t645, .int .u8 t646, .int .u8 t647, .int .u8 t648, .int .u8 t649, .int .u8 t650, .int .u8 t651, .int .u8 t652] (0, 0) _ (by exact B655.out) Tryd.underlying26 rfl (by kernel_rfl) ?_) | ((with_reducible refine gate_dst (N := 101) rfl ?_); (try (refine gate_guard (by rfl) ?_; dsimp only)); refine wpList_load_row rfl 26 (.tmp 15) rfl g679 rfl 26 #[.int .i64 t656, .int .u8 t657, .int .u8 t658, .int .u8 t659, .int .u8 t660, .int .u8 t661, .int .u8 t662, .int .u8 t663, .int .u8 t664, .int .u8 t665, .int .u8 t666, .int .u8 t667, .int .u8 t668, .int .u8 t669, .int .u8 t670, .int .u8 t671, .int .u8 t672, .int .u8 t673, .int .u8 t674, .int .u8 t675, .int .u8 t676] (0, 0) _ (by exact B679.out) Tryd.underlying26 rfl (by kernel_rfl) ?_; obtain ⟨Ao40, co40, eo40⟩ := Kd.R_slice HO682.out; subst eo40) | ((with_reducible refine gate_dst (N := 135) rfl ?_); (try (refine gate_guard (by rfl) ?_; dsimp only)); refine wpList_load_row rfl 26 (.tmp 9) rfl g629 rfl 26 #[.int .i64 t606, .int .u8 t607, .int .u8 t608, .int .u8 t609, .int .u8 t610, .int .u8 t611, .int .u8 t612, .int .u8 t613, .int .u8 t614, .int .u8 t615, .int .u8 t616, .int .u8 t617, .int .u8 t618, .int .u8 t619, .int .u8 t620, .int .u8 t621, .int .u8 t622, .int .u8 t623, .int .u8 t624, .int .u8 t625, .int .u8 t626] (0, 0) _ (by exact B629.out) Tryd.underlying26 rfl (by kernel_rfl) ?_) | (go_at_call 16; (with_reducible refine (machine_Halted.calls k _ _ t582 t606 t607 t608 t609 t610 t611 t612 t613 t614 t615 t616 t617 t618 t619 t620 t621 t622 t623 t624 t625 t626 t684 _ ?side1 ?side2 ?side3 A39.out).mono ?_); (case side1 => repeat (first | exact (Kd.R_reads' HO584.out).2.2 | (with_reducible refine Kd.C_alloc ?_ _) | (with_reducible refine Kd.C_drewN ?_ _) | (with_reducible refine Kd.C_drew ?_))); (case side2 => exact (Kd.R_reads' HO584.out).2.1); (case side3 => repeat (first | exact (GL.below HRG.out HB.out) | (with_reducible refine GL.alloc ?_ _) | (with_reducible refine GL.drewN ?_ _) | (with_reducible refine GL.drew ?_))); rintro e w41 ⟨rfl, hb⟩; have n0_ := Aside0.mk (Kd.R_below (by (with_reducible repeat (first | apply Kd.R_alloc | apply Kd.R_drewN | apply Kd.R_drew)); exact HO584.out) hb); have n1_ := Aside0.mk (Kd.R_below (by (with_reducible repeat (first | apply Kd.R_alloc | apply Kd.R_drewN | apply Kd.R_drew)); exact HO682.out) hb); have n2_ := Aside0.mk (blk_below (g := g581) (o := .cells #[.int .i64 t585, .int .u8 t586, .int .u8 t587, .int .u8 t588, .int .u8 t589, .int .u8 t590, .int .u8 t591, .int .u8 t592, .int .u8 t593, .int .u8 t594, .int .u8 t595, .int .u8 t596, .int .u8 t597, .int .u8 t598, .int .u8 t599, .int .u8 t600, .int .u8 t601, .int .u8 t602, .int .u8 t603, .int .u8 t604, .int .u8 t605] 26 (0, 0)) (by exact B581.out) hb); have n3_ := Aside0.mk (blk_below (g := g629) (o := .cells #[.int .i64 t606, .int .u8 t607, .int .u8 t608, .int .u8 t609, .int .u8 t610, .int .u8 t611, .int .u8 t612, .int .u8 t613, .int .u8 t614, .int .u8 t615, .int .u8 t616, .int .u8 t617, .int .u8 t618, .int .u8 t619, .int .u8 t620, .int .u8 t621, .int .u8 t622, .int .u8 t623, .int .u8 t624, .int .u8 t625, .int .u8 t626] 26 (0, 0)) (by exact B629.out) hb); have n4_ := Aside0.mk (blk_below (g := g655) (o := .cells #[.int .i64 t632, .int .u8 t633, .int .u8 t634, .int .u8 t635, .int .u8 t636, .int .u8 t637, .int .u8 t638, .int .u8 t639, .int .u8 t640, .int .u8 t641, .int .u8 t642, .int .u8 t643, .int .u8 t644, .int .u8 t645, .int .u8 t646, .int .u8 t647, .int .u8 t648, .int .u8 t649, .int .u8 t650, .int .u8 t651, .int .u8 t652] 26 (0, 0)) (by exact B655.out) hb); have n5_ := Aside0.mk (blk_below (g := g679) (o := .cells #[.int .i64 t656, .int .u8 t657, .int .u8 t658, .int .u8 t659, .int .u8 t660, .int .u8 t661, .int .u8 t662, .int .u8 t663, .int .u8 t664, .int .u8 t665, .int .u8 t666, .int .u8 t667, .int .u8 t668, .int .u8 t669, .int .u8 t670, .int .u8 t671, .int .u8 t672, .int .u8 t673, .int .u8 t674, .int .u8 t675, .int .u8 t676] 26 (0, 0)) (by exact B679.out) hb); have n6_ := Aside0.mk (below_step (by repeat (first | (with_reducible first | exact HB.out | apply below_alloc | apply pw_below_drewN | apply below_drew1 | refine below_set ?_ GE581.out | refine below_set ?_ GE629.out | refine below_set ?_ GE655.out | refine below_set ?_ GE679.out) | exact HB.out)) hb); clear HO584; clear HO682; clear B581; clear B629; clear B655; clear B679; clear HB; have HO584 := n0_; have HO682 := n1_; have B581 := n2_; have B629 := n3_; have B655 := n4_; have B679 := n5_; have HB := n6_; clear n0_ n1_ n2_ n3_ n4_ n5_ n6_; (try clear hb); (try clear hb2); (try clear hk); (try clear hi)))
            go_meet
            case rel => exact ⟨_, (!t684), (by first | rfl | (simp; done) | (simp [*]; done) | (simp; rfl) | (simp; decide +kernel)), H', ⟨by first | omega | exact Nat.le_refl _⟩, ⟨by (with_reducible repeat (first | apply Kd.R_alloc | apply Kd.R_drewN | apply Kd.R_drew)); exact HO584.out⟩, ⟨by (with_reducible repeat (first | apply Kd.R_alloc | apply Kd.R_drewN | apply Kd.R_drew)); exact Kd.R_mono HO682.out (fun _ hk => ⟨hk.1.1.1.2, ⟨hk.1.1.2, ⟨hk.1.2, hk.2⟩⟩⟩)⟩, ⟨by exact B581.out⟩, ⟨by exact B629.out⟩, ⟨by exact B655.out⟩, ⟨by exact B679.out⟩, ⟨by repeat (first | (with_reducible first | exact HB.out | apply below_alloc | apply pw_below_drewN | apply below_drew1 | refine below_set ?_ GE581.out | refine below_set ?_ GE629.out | refine below_set ?_ GE655.out | refine below_set ?_ GE679.out) | exact HB.out)⟩⟩
           ·rw [if_neg c38] at H
            have c38b0 : decide (t627 < (wrap64 (a2))) = false := decide_eq_false c38
            clear c38
            have H' := Aside0.mk H
            clear H
            go_wp2_with (first | ((with_reducible refine gate_dst (N := 100) rfl ?_); (try (refine gate_guard (by rfl) ?_; dsimp only)); refine wpList_load_row rfl 26 (.tmp 12) rfl g655 rfl 26 #[.int .i64 t632, .int .u8 t633, .int .u8 t634, .int .u8 t635, .int .u8 t636, .int .u8 t637, .int .u8 t638, .int .u8 t639, .int .u8 t640, .int .u8 t641, .int .u8 t642, .int .u8 t643, .int .u8 t644, .int .u8 t645, .int .u8 t646, .int .u8 t647, .int .u8 t648, .int .u8 t649, .int .u8 t650, .int .u8 t651, .int .u8 t652] (0, 0) _ (by exact B655.out) Tryd.underlying26 rfl (by kernel_rfl) ?_) | ((with_reducible refine gate_dst (N := 101) rfl ?_); (try (refine gate_guard (by rfl) ?_; dsimp only)); refine wpList_load_row rfl 26 (.tmp 15) rfl g679 rfl 26 #[.int .i64 t656, .int .u8 t657, .int .u8 t658, .int .u8 t659, .int .u8 t660, .int .u8 t661, .int .u8 t662, .int .u8 t663, .int .u8 t664, .int .u8 t665, .int .u8 t666, .int .u8 t667, .int .u8 t668, .int .u8 t669, .int .u8 t670, .int .u8 t671, .int .u8 t672, .int .u8 t673, .int .u8 t674, .int .u8 t675, .int .u8 t676] (0, 0) _ (by exact B679.out) Tryd.underlying26 rfl (by kernel_rfl) ?_; obtain ⟨Ao42, co42, eo42⟩ := Kd.R_slice HO682.out; subst eo42))
            go_meet
            case rel => exact ⟨_, (false), (by first | rfl | (simp; done) | (simp [*]; done) | (simp; rfl) | (simp; decide +kernel)), H', ⟨by first | omega | exact Nat.le_refl _⟩, ⟨by (with_reducible repeat (first | apply Kd.R_alloc | apply Kd.R_drewN | apply Kd.R_drew)); exact HO584.out⟩, ⟨by (with_reducible repeat (first | apply Kd.R_alloc | apply Kd.R_drewN | apply Kd.R_drew)); exact Kd.R_mono HO682.out (fun _ hk => ⟨hk.1.1.1.2, ⟨hk.1.1.2, ⟨hk.1.2, hk.2⟩⟩⟩)⟩, ⟨by exact B581.out⟩, ⟨by exact B629.out⟩, ⟨by exact B655.out⟩, ⟨by exact B679.out⟩, ⟨by repeat (first | (with_reducible first | exact HB.out | apply below_alloc | apply pw_below_drewN | apply below_drew1 | refine below_set ?_ GE581.out | refine below_set ?_ GE629.out | refine below_set ?_ GE655.out | refine below_set ?_ GE679.out) | exact HB.out)⟩⟩
         ·rw [if_neg c36] at H
          exact absurd H (by simp)
        ·rw [if_neg c35] at H
         exact absurd H (by simp)
      ·rw [if_neg c33] at H
       exact absurd H (by simp)
     ·rw [if_neg c32] at H
      exact absurd H (by simp)
    ·rw [if_neg c31] at H
     exact absurd H (by simp)
   ·rw [if_neg c30] at H
    exact absurd H (by simp)
  case rest =>
   clear HC13
   try clear c1
   try clear c2
   try clear p2
   try clear c3
   try clear c5
   try clear p6
   try clear c9
   try clear c9b0
   try clear c9b1
   try clear c19
   try clear c21
   try clear c24
   try clear c25
   try clear c30
   try clear c30b0
   try clear c30b1
   try clear c31
   try clear c31b0
   try clear c31b1
   try clear c32
   try clear c32b0
   try clear c32b1
   try clear c33
   try clear c33b0
   try clear c33b1
   try clear c34
   try clear c34b0
   try clear c35
   try clear c35b0
   try clear c35b1
   try clear c36
   try clear c36b0
   try clear c36b1
   try clear c37
   try clear c37b0
   try clear c38
   try clear c38b0
   obtain ⟨kq, x139_12, rfl, HA, HJ12, HO_0, HO_18, B581, B629, B655, B679, HB⟩ := hcut
   cases kq with
   | zero => exact absurd HA.out (by simp [attestorlaw28_MachineParts.j0])
   | succ kj12 =>
    have H := HA.out
    clear HA
    simp only [attestorlaw28_MachineParts.j0] at H
    by_cases c43 : x139_12 = true
    ·subst c43
     have H1 : (none) = some r := by rw [if_pos rfl] at H; exact H
     clear H
     have H := H1
     clear H1
     exact absurd H (by simp)
    ·replace c43 := Bool.eq_false_iff.mpr c43
     subst c43
     have H1 : (attestorlaw28_MachineParts.l0 kj12 t582 t627 t677 t680 0 t606 t607 t608 t609 t610 t611 t612 t613 t614 t615 t616 t617 t618 t619 t620 t621 t622 t623 t624 t625 t626 t656 t657 t658 t659 t660 t661 t662 t663 t664 t665 t666 t667 t668 t669 t670 t671 t672 t673 t674 t675 t676) = some r := by rw [if_neg (show ¬ (false = true) by decide)] at H; exact H
     clear H
     have H := H1
     clear H1
     have H' := Aside0.mk H
     clear H
     go_wp2
     go_loopg [20] kj12 (fun kq v20 w' => ∃ (x20_2 : Int), v20 = .int .i64 x20_2 ∧ Aside0 (attestorlaw28_MachineParts.l0 kq t582 t627 t677 t680 x20_2 t606 t607 t608 t609 t610 t611 t612 t613 t614 t615 t616 t617 t618 t619 t620 t621 t622 t623 t624 t625 t626 t656 t657 t658 t659 t660 t661 t662 t663 t664 t665 t666 t667 t668 t669 t670 t671 t672 t673 t674 t675 t676 = some r) ∧ Aside0 (kq ≤ kj12) ∧ Aside0 (Kd.R k47 47 w' w.heap.size (fun _ => True) (.slice Ao16 t582.length co16) t582) ∧ Aside0 (Kd.R k26 26 w' w.heap.size (fun k_ => k_ ≠ g581 ∧ k_ ≠ g629 ∧ k_ ≠ g655 ∧ k_ ≠ g679) v681 t680) ∧ Aside0 (w'.heap[g581]? = some (.cells #[.int .i64 t585, .int .u8 t586, .int .u8 t587, .int .u8 t588, .int .u8 t589, .int .u8 t590, .int .u8 t591, .int .u8 t592, .int .u8 t593, .int .u8 t594, .int .u8 t595, .int .u8 t596, .int .u8 t597, .int .u8 t598, .int .u8 t599, .int .u8 t600, .int .u8 t601, .int .u8 t602, .int .u8 t603, .int .u8 t604, .int .u8 t605] 26 (0, 0))) ∧ Aside0 (w'.heap[g629]? = some (.cells #[.int .i64 t606, .int .u8 t607, .int .u8 t608, .int .u8 t609, .int .u8 t610, .int .u8 t611, .int .u8 t612, .int .u8 t613, .int .u8 t614, .int .u8 t615, .int .u8 t616, .int .u8 t617, .int .u8 t618, .int .u8 t619, .int .u8 t620, .int .u8 t621, .int .u8 t622, .int .u8 t623, .int .u8 t624, .int .u8 t625, .int .u8 t626] 26 (0, 0))) ∧ Aside0 (w'.heap[g655]? = some (.cells #[.int .i64 t632, .int .u8 t633, .int .u8 t634, .int .u8 t635, .int .u8 t636, .int .u8 t637, .int .u8 t638, .int .u8 t639, .int .u8 t640, .int .u8 t641, .int .u8 t642, .int .u8 t643, .int .u8 t644, .int .u8 t645, .int .u8 t646, .int .u8 t647, .int .u8 t648, .int .u8 t649, .int .u8 t650, .int .u8 t651, .int .u8 t652] 26 (0, 0))) ∧ Aside0 (w'.heap[g679]? = some (.cells #[.int .i64 t656, .int .u8 t657, .int .u8 t658, .int .u8 t659, .int .u8 t660, .int .u8 t661, .int .u8 t662, .int .u8 t663, .int .u8 t664, .int .u8 t665, .int .u8 t666, .int .u8 t667, .int .u8 t668, .int .u8 t669, .int .u8 t670, .int .u8 t671, .int .u8 t672, .int .u8 t673, .int .u8 t674, .int .u8 t675, .int .u8 t676] 26 (0, 0))) ∧ Aside0 (Below w.heap.size w w'))
     case atStart => exact ⟨(0), (by first | rfl | (simp; done) | (simp [*]; done) | (simp; rfl) | (simp; decide +kernel)), H', ⟨Nat.le_refl _⟩, ⟨by (with_reducible repeat (first | apply Kd.R_alloc | apply Kd.R_drewN | apply Kd.R_drew)); exact HO_0.out⟩, ⟨by (with_reducible repeat (first | apply Kd.R_alloc | apply Kd.R_drewN | apply Kd.R_drew)); exact HO_18.out⟩, ⟨by exact B581.out⟩, ⟨by exact B629.out⟩, ⟨by exact B655.out⟩, ⟨by exact B679.out⟩, ⟨by repeat (first | (with_reducible first | exact HB.out | apply below_alloc | apply pw_below_drewN | apply below_drew1 | refine below_set ?_ GE581.out | refine below_set ?_ GE629.out | refine below_set ?_ GE655.out | refine below_set ?_ GE679.out) | exact HB.out)⟩⟩
     case round =>
      clear H'
      try clear c1
      try clear c2
      try clear p2
      try clear c3
      try clear c4
      try clear c5
      try clear p6
      try clear c9
      try clear c9b0
      try clear c9b1
      try clear c19
      try clear c21
      try clear c24
      try clear c25
      try clear c30
      try clear c30b0
      try clear c30b1
      try clear c31
      try clear c31b0
      try clear c31b1
      try clear c32
      try clear c32b0
      try clear c32b1
      try clear c33
      try clear c33b0
      try clear c33b1
      try clear c34
      try clear c34b0
      try clear c35
      try clear c35b0
      try clear c35b1
      try clear c36
      try clear c36b0
      try clear c36b1
      try clear c37
      try clear c37b0
      try clear c38
      try clear c38b0
      try clear c43
      try clear p2
      try clear p6
      obtain ⟨x20_2, rfl, HA, HK2, HO_0, HO_18, B581, B629, B655, B679, HB⟩ := hrel
      cases gk with
      | zero => exact absurd HA.out (by simp [attestorlaw28_MachineParts.l0])
      | succ k2 =>
       have H := HA.out
       clear HA
       simp only [attestorlaw28_MachineParts.l0] at H
       by_cases c44 : x20_2 < (t680.length : Int)
       ·rw [if_pos c44] at H
        have c44b0 : decide (x20_2 < (t680.length : Int)) = true := decide_eq_true c44
        clear c44
        by_cases c45 : x20_2 ≥ t677
        ·rw [if_pos c45] at H
         have c45b0 : decide (t677 ≤ x20_2) = true := decide_eq_true c45
         clear c45
         by_cases c46 : 0 ≤ x20_2
         ·rw [if_pos c46] at H
          have c46b0 : decide (0 ≤ x20_2) = true := decide_eq_true c46
          clear c46
          by_cases c47 : (!(((rd_T26 t680 x20_2).f0) == t656) || ((!(((rd_T26 t680 x20_2).f1.f0) == t657) || (!(((rd_T26 t680 x20_2).f1.f1) == t658) || (!(((rd_T26 t680 x20_2).f1.f2) == t659) || (!(((rd_T26 t680 x20_2).f1.f3) == t660))))) || ((!(((rd_T26 t680 x20_2).f2.f0) == t661) || (!(((rd_T26 t680 x20_2).f2.f1) == t662) || (!(((rd_T26 t680 x20_2).f2.f2) == t663) || (!(((rd_T26 t680 x20_2).f2.f3) == t664) || (!(((rd_T26 t680 x20_2).f2.f4) == t665) || (!(((rd_T26 t680 x20_2).f2.f5) == t666) || (!(((rd_T26 t680 x20_2).f2.f6) == t667) || (!(((rd_T26 t680 x20_2).f2.f7) == t668) || (!(((rd_T26 t680 x20_2).f2.f8) == t669) || (!(((rd_T26 t680 x20_2).f2.f9) == t670) || (!(((rd_T26 t680 x20_2).f2.f10) == t671) || (!(((rd_T26 t680 x20_2).f2.f11) == t672) || (!(((rd_T26 t680 x20_2).f2.f12) == t673) || (!(((rd_T26 t680 x20_2).f2.f13) == t674) || (!(((rd_T26 t680 x20_2).f2.f14) == t675) || (!(((rd_T26 t680 x20_2).f2.f15) == t676)))))))))))))))))))) = true
          ·rw [if_pos c47] at H
           exact absurd H (by simp)
          ·rw [if_neg c47] at H
           have c47b0 : (!(((rd_T26 t680 x20_2).f0) == t656) || ((!(((rd_T26 t680 x20_2).f1.f0) == t657) || (!(((rd_T26 t680 x20_2).f1.f1) == t658) || (!(((rd_T26 t680 x20_2).f1.f2) == t659) || (!(((rd_T26 t680 x20_2).f1.f3) == t660))))) || ((!(((rd_T26 t680 x20_2).f2.f0) == t661) || (!(((rd_T26 t680 x20_2).f2.f1) == t662) || (!(((rd_T26 t680 x20_2).f2.f2) == t663) || (!(((rd_T26 t680 x20_2).f2.f3) == t664) || (!(((rd_T26 t680 x20_2).f2.f4) == t665) || (!(((rd_T26 t680 x20_2).f2.f5) == t666) || (!(((rd_T26 t680 x20_2).f2.f6) == t667) || (!(((rd_T26 t680 x20_2).f2.f7) == t668) || (!(((rd_T26 t680 x20_2).f2.f8) == t669) || (!(((rd_T26 t680 x20_2).f2.f9) == t670) || (!(((rd_T26 t680 x20_2).f2.f10) == t671) || (!(((rd_T26 t680 x20_2).f2.f11) == t672) || (!(((rd_T26 t680 x20_2).f2.f12) == t673) || (!(((rd_T26 t680 x20_2).f2.f13) == t674) || (!(((rd_T26 t680 x20_2).f2.f14) == t675) || (!(((rd_T26 t680 x20_2).f2.f15) == t676)))))))))))))))))))) = false := by simpa using c47
           clear c47
           by_cases c48 : x20_2 < t677
           ·rw [if_pos c48] at H
            have c48b0 : decide (x20_2 < t677) = true := decide_eq_true c48
            clear c48
            replace H := Option.bind_eq_some_iff.mp H
            obtain ⟨t687, A490, H⟩ := H
            have A49 := Aside0.mk A490
            clear A490
            by_cases c50 : t687 = true
            ·subst c50
             have H1 : (none) = some r := by rw [if_pos rfl] at H; exact H
             clear H
             have H := H1
             clear H1
             exact absurd H (by simp)
            ·replace c50 := Bool.eq_false_iff.mpr c50
             subst c50
             have H1 : (attestorlaw28_MachineParts.l0 k2 t582 t627 t677 t680 (wrap64 (x20_2 + 1)) t606 t607 t608 t609 t610 t611 t612 t613 t614 t615 t616 t617 t618 t619 t620 t621 t622 t623 t624 t625 t626 t656 t657 t658 t659 t660 t661 t662 t663 t664 t665 t666 t667 t668 t669 t670 t671 t672 t673 t674 t675 t676) = some r := by rw [if_neg (show ¬ (false = true) by decide)] at H; exact H
             clear H
             have H := H1
             clear H1
             have H' := Aside0.mk H
             clear H
             obtain ⟨Ao51, co51, eo51⟩ := Kd.R_slice HO_18.out
             subst eo51
             try go_wp2
             have n0_ := Aside0.mk (Kd.R_drew HO_0.out)
             have n1_ := Aside0.mk (Kd.R_drew HO_18.out)
             have n2_ := Aside0.mk (blk_drew B581.out)
             have n3_ := Aside0.mk (blk_drew B629.out)
             have n4_ := Aside0.mk (blk_drew B655.out)
             have n5_ := Aside0.mk (blk_drew B679.out)
             have n6_ := Aside0.mk (below_drew1 HB.out)
             clear HO_0
             clear HO_18
             clear B581
             clear B629
             clear B655
             clear B679
             clear HB
             have HO_0 := n0_
             have HO_18 := n1_
             have B581 := n2_
             have B629 := n3_
             have B655 := n4_
             have B679 := n5_
             have HB := n6_
             clear n0_ n1_ n2_ n3_ n4_ n5_ n6_
             have p685 : 0 ≤ (x20_2 : Int) := of_decide_eq_true (by first | (with_reducible assumption) | assumption)
             have q685 : x20_2 < (t680.length : Int) := of_decide_eq_true (by first | (with_reducible assumption) | assumption)
             obtain ⟨ad685, e685, hx685_0, hx685_1, hx685_2, hx685_3, hx685_4, hx685_5, hx685_6, hx685_7, hx685_8, hx685_9, hx685_10, hx685_11, hx685_12, hx685_13, hx685_14, hx685_15, hx685_16, hx685_17, hx685_18, hx685_19, hx685_20⟩ := at_T26 (Kd.R_reads' HO_18.out).2.2 x20_2 p685 q685
             cases e685
             replace p685 := eq_true p685
             replace q685 := eq_true q685
             have p686 : 0 ≤ (x20_2 : Int) := of_decide_eq_true (by first | (with_reducible assumption) | assumption)
             have q686 : x20_2 < (t680.length : Int) := of_decide_eq_true (by first | (with_reducible assumption) | assumption)
             obtain ⟨ad686, e686, hx686_0, hx686_1, hx686_2, hx686_3, hx686_4, hx686_5, hx686_6, hx686_7, hx686_8, hx686_9, hx686_10, hx686_11, hx686_12, hx686_13, hx686_14, hx686_15, hx686_16, hx686_17, hx686_18, hx686_19, hx686_20⟩ := at_T26 (Kd.R_reads' HO_18.out).2.2 x20_2 p686 q686
             obtain rfl : ad685 = ad686 := (by injection e686)
             replace p686 := eq_true p686
             replace q686 := eq_true q686
             refine start_ (n := 24) (S := fun w' => w'.cell? ⟨g679, 0, none⟩ = some (.int .i64 t656) ∧ w'.cell? ⟨g679, 1, none⟩ = some (.int .u8 t657) ∧ w'.cell? ⟨g679, 2, none⟩ = some (.int .u8 t658) ∧ w'.cell? ⟨g679, 3, none⟩ = some (.int .u8 t659) ∧ w'.cell? ⟨g679, 4, none⟩ = some (.int .u8 t660) ∧ w'.cell? ⟨g679, 5, none⟩ = some (.int .u8 t661) ∧ w'.cell? ⟨g679, 6, none⟩ = some (.int .u8 t662) ∧ w'.cell? ⟨g679, 7, none⟩ = some (.int .u8 t663) ∧ w'.cell? ⟨g679, 8, none⟩ = some (.int .u8 t664) ∧ w'.cell? ⟨g679, 9, none⟩ = some (.int .u8 t665) ∧ w'.cell? ⟨g679, 10, none⟩ = some (.int .u8 t666) ∧ w'.cell? ⟨g679, 11, none⟩ = some (.int .u8 t667) ∧ w'.cell? ⟨g679, 12, none⟩ = some (.int .u8 t668) ∧ w'.cell? ⟨g679, 13, none⟩ = some (.int .u8 t669) ∧ w'.cell? ⟨g679, 14, none⟩ = some (.int .u8 t670) ∧ w'.cell? ⟨g679, 15, none⟩ = some (.int .u8 t671) ∧ w'.cell? ⟨g679, 16, none⟩ = some (.int .u8 t672) ∧ w'.cell? ⟨g679, 17, none⟩ = some (.int .u8 t673) ∧ w'.cell? ⟨g679, 18, none⟩ = some (.int .u8 t674) ∧ w'.cell? ⟨g679, 19, none⟩ = some (.int .u8 t675) ∧ w'.cell? ⟨g679, 20, none⟩ = some (.int .u8 t676) ∧ w'.cell? (ad685.add ((x20_2).toNat * 21)) = some (.int .i64 ((rd_T26 t680 x20_2).f0)) ∧ w'.cell? ⟨(ad685.add ((x20_2).toNat * 21)).block, (ad685.add ((x20_2).toNat * 21)).off + 1, none⟩ = some (.int .u8 ((rd_T26 t680 x20_2).f1.f0)) ∧ w'.cell? ⟨(ad685.add ((x20_2).toNat * 21)).block, (ad685.add ((x20_2).toNat * 21)).off + 2, none⟩ = some (.int .u8 ((rd_T26 t680 x20_2).f1.f1)) ∧ w'.cell? ⟨(ad685.add ((x20_2).toNat * 21)).block, (ad685.add ((x20_2).toNat * 21)).off + 3, none⟩ = some (.int .u8 ((rd_T26 t680 x20_2).f1.f2)) ∧ w'.cell? ⟨(ad685.add ((x20_2).toNat * 21)).block, (ad685.add ((x20_2).toNat * 21)).off + 4, none⟩ = some (.int .u8 ((rd_T26 t680 x20_2).f1.f3)) ∧ w'.cell? ⟨(ad685.add ((x20_2).toNat * 21)).block, (ad685.add ((x20_2).toNat * 21)).off + 5, none⟩ = some (.int .u8 ((rd_T26 t680 x20_2).f2.f0)) ∧ w'.cell? ⟨(ad685.add ((x20_2).toNat * 21)).block, (ad685.add ((x20_2).toNat * 21)).off + 6, none⟩ = some (.int .u8 ((rd_T26 t680 x20_2).f2.f1)) ∧ w'.cell? ⟨(ad685.add ((x20_2).toNat * 21)).block, (ad685.add ((x20_2).toNat * 21)).off + 7, none⟩ = some (.int .u8 ((rd_T26 t680 x20_2).f2.f2)) ∧ w'.cell? ⟨(ad685.add ((x20_2).toNat * 21)).block, (ad685.add ((x20_2).toNat * 21)).off + 8, none⟩ = some (.int .u8 ((rd_T26 t680 x20_2).f2.f3)) ∧ w'.cell? ⟨(ad685.add ((x20_2).toNat * 21)).block, (ad685.add ((x20_2).toNat * 21)).off + 9, none⟩ = some (.int .u8 ((rd_T26 t680 x20_2).f2.f4)) ∧ w'.cell? ⟨(ad685.add ((x20_2).toNat * 21)).block, (ad685.add ((x20_2).toNat * 21)).off + 10, none⟩ = some (.int .u8 ((rd_T26 t680 x20_2).f2.f5)) ∧ w'.cell? ⟨(ad685.add ((x20_2).toNat * 21)).block, (ad685.add ((x20_2).toNat * 21)).off + 11, none⟩ = some (.int .u8 ((rd_T26 t680 x20_2).f2.f6)) ∧ w'.cell? ⟨(ad685.add ((x20_2).toNat * 21)).block, (ad685.add ((x20_2).toNat * 21)).off + 12, none⟩ = some (.int .u8 ((rd_T26 t680 x20_2).f2.f7)) ∧ w'.cell? ⟨(ad685.add ((x20_2).toNat * 21)).block, (ad685.add ((x20_2).toNat * 21)).off + 13, none⟩ = some (.int .u8 ((rd_T26 t680 x20_2).f2.f8)) ∧ w'.cell? ⟨(ad685.add ((x20_2).toNat * 21)).block, (ad685.add ((x20_2).toNat * 21)).off + 14, none⟩ = some (.int .u8 ((rd_T26 t680 x20_2).f2.f9)) ∧ w'.cell? ⟨(ad685.add ((x20_2).toNat * 21)).block, (ad685.add ((x20_2).toNat * 21)).off + 15, none⟩ = some (.int .u8 ((rd_T26 t680 x20_2).f2.f10)) ∧ w'.cell? ⟨(ad685.add ((x20_2).toNat * 21)).block, (ad685.add ((x20_2).toNat * 21)).off + 16, none⟩ = some (.int .u8 ((rd_T26 t680 x20_2).f2.f11)) ∧ w'.cell? ⟨(ad685.add ((x20_2).toNat * 21)).block, (ad685.add ((x20_2).toNat * 21)).off + 17, none⟩ = some (.int .u8 ((rd_T26 t680 x20_2).f2.f12)) ∧ w'.cell? ⟨(ad685.add ((x20_2).toNat * 21)).block, (ad685.add ((x20_2).toNat * 21)).off + 18, none⟩ = some (.int .u8 ((rd_T26 t680 x20_2).f2.f13)) ∧ w'.cell? ⟨(ad685.add ((x20_2).toNat * 21)).block, (ad685.add ((x20_2).toNat * 21)).off + 19, none⟩ = some (.int .u8 ((rd_T26 t680 x20_2).f2.f14)) ∧ w'.cell? ⟨(ad685.add ((x20_2).toNat * 21)).block, (ad685.add ((x20_2).toNat * 21)).off + 20, none⟩ = some (.int .u8 ((rd_T26 t680 x20_2).f2.f15)) ∧ w'.cell? (ad685.add ((x20_2).toNat * 21)) = some (.int .i64 ((rd_T26 t680 x20_2).f0)) ∧ w'.cell? ⟨(ad685.add ((x20_2).toNat * 21)).block, (ad685.add ((x20_2).toNat * 21)).off + 1, none⟩ = some (.int .u8 ((rd_T26 t680 x20_2).f1.f0)) ∧ w'.cell? ⟨(ad685.add ((x20_2).toNat * 21)).block, (ad685.add ((x20_2).toNat * 21)).off + 2, none⟩ = some (.int .u8 ((rd_T26 t680 x20_2).f1.f1)) ∧ w'.cell? ⟨(ad685.add ((x20_2).toNat * 21)).block, (ad685.add ((x20_2).toNat * 21)).off + 3, none⟩ = some (.int .u8 ((rd_T26 t680 x20_2).f1.f2)) ∧ w'.cell? ⟨(ad685.add ((x20_2).toNat * 21)).block, (ad685.add ((x20_2).toNat * 21)).off + 4, none⟩ = some (.int .u8 ((rd_T26 t680 x20_2).f1.f3)) ∧ w'.cell? ⟨(ad685.add ((x20_2).toNat * 21)).block, (ad685.add ((x20_2).toNat * 21)).off + 5, none⟩ = some (.int .u8 ((rd_T26 t680 x20_2).f2.f0)) ∧ w'.cell? ⟨(ad685.add ((x20_2).toNat * 21)).block, (ad685.add ((x20_2).toNat * 21)).off + 6, none⟩ = some (.int .u8 ((rd_T26 t680 x20_2).f2.f1)) ∧ w'.cell? ⟨(ad685.add ((x20_2).toNat * 21)).block, (ad685.add ((x20_2).toNat * 21)).off + 7, none⟩ = some (.int .u8 ((rd_T26 t680 x20_2).f2.f2)) ∧ w'.cell? ⟨(ad685.add ((x20_2).toNat * 21)).block, (ad685.add ((x20_2).toNat * 21)).off + 8, none⟩ = some (.int .u8 ((rd_T26 t680 x20_2).f2.f3)) ∧ w'.cell? ⟨(ad685.add ((x20_2).toNat * 21)).block, (ad685.add ((x20_2).toNat * 21)).off + 9, none⟩ = some (.int .u8 ((rd_T26 t680 x20_2).f2.f4)) ∧ w'.cell? ⟨(ad685.add ((x20_2).toNat * 21)).block, (ad685.add ((x20_2).toNat * 21)).off + 10, none⟩ = some (.int .u8 ((rd_T26 t680 x20_2).f2.f5)) ∧ w'.cell? ⟨(ad685.add ((x20_2).toNat * 21)).block, (ad685.add ((x20_2).toNat * 21)).off + 11, none⟩ = some (.int .u8 ((rd_T26 t680 x20_2).f2.f6)) ∧ w'.cell? ⟨(ad685.add ((x20_2).toNat * 21)).block, (ad685.add ((x20_2).toNat * 21)).off + 12, none⟩ = some (.int .u8 ((rd_T26 t680 x20_2).f2.f7)) ∧ w'.cell? ⟨(ad685.add ((x20_2).toNat * 21)).block, (ad685.add ((x20_2).toNat * 21)).off + 13, none⟩ = some (.int .u8 ((rd_T26 t680 x20_2).f2.f8)) ∧ w'.cell? ⟨(ad685.add ((x20_2).toNat * 21)).block, (ad685.add ((x20_2).toNat * 21)).off + 14, none⟩ = some (.int .u8 ((rd_T26 t680 x20_2).f2.f9)) ∧ w'.cell? ⟨(ad685.add ((x20_2).toNat * 21)).block, (ad685.add ((x20_2).toNat * 21)).off + 15, none⟩ = some (.int .u8 ((rd_T26 t680 x20_2).f2.f10)) ∧ w'.cell? ⟨(ad685.add ((x20_2).toNat * 21)).block, (ad685.add ((x20_2).toNat * 21)).off + 16, none⟩ = some (.int .u8 ((rd_T26 t680 x20_2).f2.f11)) ∧ w'.cell? ⟨(ad685.add ((x20_2).toNat * 21)).block, (ad685.add ((x20_2).toNat * 21)).off + 17, none⟩ = some (.int .u8 ((rd_T26 t680 x20_2).f2.f12)) ∧ w'.cell? ⟨(ad685.add ((x20_2).toNat * 21)).block, (ad685.add ((x20_2).toNat * 21)).off + 18, none⟩ = some (.int .u8 ((rd_T26 t680 x20_2).f2.f13)) ∧ w'.cell? ⟨(ad685.add ((x20_2).toNat * 21)).block, (ad685.add ((x20_2).toNat * 21)).off + 19, none⟩ = some (.int .u8 ((rd_T26 t680 x20_2).f2.f14)) ∧ w'.cell? ⟨(ad685.add ((x20_2).toNat * 21)).block, (ad685.add ((x20_2).toNat * 21)).off + 20, none⟩ = some (.int .u8 ((rd_T26 t680 x20_2).f2.f15))) (ds := []) z5_0_ (by kernel_rfl) rfl rfl ⟨bq_ B679 0, bq_ B679 1, bq_ B679 2, bq_ B679 3, bq_ B679 4, bq_ B679 5, bq_ B679 6, bq_ B679 7, bq_ B679 8, bq_ B679 9, bq_ B679 10, bq_ B679 11, bq_ B679 12, bq_ B679 13, bq_ B679 14, bq_ B679 15, bq_ B679 16, bq_ B679 17, bq_ B679 18, bq_ B679 19, bq_ B679 20, hx685_0, hx685_1, hx685_2, hx685_3, hx685_4, hx685_5, hx685_6, hx685_7, hx685_8, hx685_9, hx685_10, hx685_11, hx685_12, hx685_13, hx685_14, hx685_15, hx685_16, hx685_17, hx685_18, hx685_19, hx685_20, hx686_0, hx686_1, hx686_2, hx686_3, hx686_4, hx686_5, hx686_6, hx686_7, hx686_8, hx686_9, hx686_10, hx686_11, hx686_12, hx686_13, hx686_14, hx686_15, hx686_16, hx686_17, hx686_18, hx686_19, hx686_20⟩ (fun hL => ?_); refine with_tabW attestorlaw28_MachineParts.tab14 attestorlaw28_MachineParts.bits14 (fun T_ W_ => ?_)
             generalize wr.drew = w52 at HO_0 HO_18 B581 B629 B655 B679 HB hx685_0 hx685_1 hx685_10 hx685_11 hx685_12 hx685_13 hx685_14 hx685_15 hx685_16 hx685_17 hx685_18 hx685_19 hx685_2 hx685_20 hx685_3 hx685_4 hx685_5 hx685_6 hx685_7 hx685_8 hx685_9 hx686_0 hx686_1 hx686_10 hx686_11 hx686_12 hx686_13 hx686_14 hx686_15 hx686_16 hx686_17 hx686_18 hx686_19 hx686_2 hx686_20 hx686_3 hx686_4 hx686_5 hx686_6 hx686_7 hx686_8 hx686_9 hL ⊢
             refine pure_ (i := 0) (N := some 146) (v := ?_) (a' := ?_) z5_1_ rfl rfl (an_ T_) (fun _ _ _ h => h) (Or.inl ⟨by rfl, ?_⟩) ?_ ?_
             rotate_left; · intro w'; go_simp; with_reducible rfl
             rotate_left; · simp only [Act.put, sa_, sb_, sc_, i64_w, i32_w]; rfl
             refine pure_ (i := 1) (N := some 147) (v := ?_) (a' := ?_) z5_2_ rfl rfl (an_ T_) (fun _ _ _ h => h) (Or.inl ⟨by rfl, ?_⟩) ?_ ?_
             rotate_left; · intro w'; go_simp; with_reducible rfl
             rotate_left; · simp only [Act.put, sa_, sb_, sc_, i64_w, i32_w]; rfl
             refine pure_ (i := 2) (N := some 148) (v := ?_) (a' := ?_) z5_3_ rfl rfl (an_ T_) (fun _ _ _ h => h) (Or.inl ⟨by rfl, ?_⟩) ?_ ?_
             rotate_left; · intro w'; go_simp; with_reducible rfl
             rotate_left; · simp only [Act.put, sa_, sb_, sc_, i64_w, i32_w]; rfl
             refine pure_ (i := 3) (N := some 149) (v := ?_) (a' := ?_) z5_4_ rfl rfl (an_ T_) (fun _ _ _ h => h) (Or.inl ⟨by rfl, ?_⟩) ?_ ?_
             rotate_left; · intro w'; go_simp; with_reducible rfl
             rotate_left; · simp only [Act.put, sa_, sb_, sc_, i64_w, i32_w]; rfl
             refine pure_ (i := 4) (N := some 150) (v := ?_) (a' := ?_) z5_5_ rfl rfl (an_ T_) (fun _ _ _ h => h) (Or.inl ⟨by rfl, ?_⟩) ?_ ?_
             rotate_left; · intro w'; go_simp; with_reducible rfl
             rotate_left; · simp only [Act.put, sa_, sb_, sc_, i64_w, i32_w]; rfl
             refine pure_ (i := 5) (N := some 151) (v := ?_) (a' := ?_) z5_6_ rfl rfl (an_ T_) (fun _ _ _ h => h) (Or.inl ⟨by rfl, ?_⟩) ?_ ?_
             rotate_left; · intro w'; go_simp; with_reducible rfl
             rotate_left; · simp only [Act.put, sa_, sb_, sc_, i64_w, i32_w]; rfl
             refine pure_ (i := 6) (N := some 152) (v := ?_) (a' := ?_) z5_7_ rfl rfl (an_ T_) (fun _ _ _ h => h) (Or.inl ⟨by rfl, ?_⟩) ?_ ?_
             rotate_left; · intro w'; go_simp; with_reducible rfl
             rotate_left; · simp only [Act.put, sa_, sb_, sc_, i64_w, i32_w]; rfl
             refine take_ (i := 7) (N := some 153) (v := ?_) (a' := ?_) z5_8_ rfl rfl (tk_ T_ W_) (fun _ _ _ h => h) (Or.inl ⟨by rfl, ?_⟩) hL ?_ ?_
             rotate_left
             ·rintro w' ⟨s0, s1, s2, s3, s4, s5, s6, s7, s8, s9, s10, s11, s12, s13, s14, s15, s16, s17, s18, s19, s20, s21, s22, s23, s24, s25, s26, s27, s28, s29, s30, s31, s32, s33, s34, s35, s36, s37, s38, s39, s40, s41, s42, s43, s44, s45, s46, s47, s48, s49, s50, s51, s52, s53, s54, s55, s56, s57, s58, s59, s60, s61, s62⟩
              refine Eq.trans (run_load_at (ty := 26) (p := .tmp 152) (ad := (ad685.add ((x20_2).toNat * 21))) (cs := [.int .i64 ((rd_T26 t680 x20_2).f0), .int .u8 ((rd_T26 t680 x20_2).f1.f0), .int .u8 ((rd_T26 t680 x20_2).f1.f1), .int .u8 ((rd_T26 t680 x20_2).f1.f2), .int .u8 ((rd_T26 t680 x20_2).f1.f3), .int .u8 ((rd_T26 t680 x20_2).f2.f0), .int .u8 ((rd_T26 t680 x20_2).f2.f1), .int .u8 ((rd_T26 t680 x20_2).f2.f2), .int .u8 ((rd_T26 t680 x20_2).f2.f3), .int .u8 ((rd_T26 t680 x20_2).f2.f4), .int .u8 ((rd_T26 t680 x20_2).f2.f5), .int .u8 ((rd_T26 t680 x20_2).f2.f6), .int .u8 ((rd_T26 t680 x20_2).f2.f7), .int .u8 ((rd_T26 t680 x20_2).f2.f8), .int .u8 ((rd_T26 t680 x20_2).f2.f9), .int .u8 ((rd_T26 t680 x20_2).f2.f10), .int .u8 ((rd_T26 t680 x20_2).f2.f11), .int .u8 ((rd_T26 t680 x20_2).f2.f12), .int .u8 ((rd_T26 t680 x20_2).f2.f13), .int .u8 ((rd_T26 t680 x20_2).f2.f14), .int .u8 ((rd_T26 t680 x20_2).f2.f15)]) (by rfl) (by rfl) Tryd.underlying26 rfl (by kernel_rfl) (ca_cons (show _ from s21) (ca_cons (ca_off s22 (by decide)) (ca_cons (ca_off s23 (by decide)) (ca_cons (ca_off s24 (by decide)) (ca_cons (ca_off s25 (by decide)) (ca_cons (ca_off s26 (by decide)) (ca_cons (ca_off s27 (by decide)) (ca_cons (ca_off s28 (by decide)) (ca_cons (ca_off s29 (by decide)) (ca_cons (ca_off s30 (by decide)) (ca_cons (ca_off s31 (by decide)) (ca_cons (ca_off s32 (by decide)) (ca_cons (ca_off s33 (by decide)) (ca_cons (ca_off s34 (by decide)) (ca_cons (ca_off s35 (by decide)) (ca_cons (ca_off s36 (by decide)) (ca_cons (ca_off s37 (by decide)) (ca_cons (ca_off s38 (by decide)) (ca_cons (ca_off s39 (by decide)) (ca_cons (ca_off s40 (by decide)) (ca_cons (ca_off s41 (by decide)) (ca_nil _ _ _))))))))))))))))))))))) ?_
              with_reducible rfl
             rotate_left
             ·simp only [Act.put, sa_, sb_, sc_, i64_w, i32_w]
              rfl
             refine take_ (i := 8) (N := some 154) (v := ?_) (a' := ?_) z5_9_ rfl rfl (tk_ T_ W_) (fun _ _ _ h => h) (Or.inl ⟨by rfl, ?_⟩) hL ?_ ?_
             rotate_left
             ·rintro w' ⟨s0, s1, s2, s3, s4, s5, s6, s7, s8, s9, s10, s11, s12, s13, s14, s15, s16, s17, s18, s19, s20, s21, s22, s23, s24, s25, s26, s27, s28, s29, s30, s31, s32, s33, s34, s35, s36, s37, s38, s39, s40, s41, s42, s43, s44, s45, s46, s47, s48, s49, s50, s51, s52, s53, s54, s55, s56, s57, s58, s59, s60, s61, s62⟩
              refine Eq.trans (load_cells_run (ty := 26) (p := .tmp 15) (g := g679) (cs := #[.int .i64 t656, .int .u8 t657, .int .u8 t658, .int .u8 t659, .int .u8 t660, .int .u8 t661, .int .u8 t662, .int .u8 t663, .int .u8 t664, .int .u8 t665, .int .u8 t666, .int .u8 t667, .int .u8 t668, .int .u8 t669, .int .u8 t670, .int .u8 t671, .int .u8 t672, .int .u8 t673, .int .u8 t674, .int .u8 t675, .int .u8 t676]) (by rfl) (by rfl) Tryd.underlying26 rfl (by kernel_rfl) (cl_cons s0 (cl_cons s1 (cl_cons s2 (cl_cons s3 (cl_cons s4 (cl_cons s5 (cl_cons s6 (cl_cons s7 (cl_cons s8 (cl_cons s9 (cl_cons s10 (cl_cons s11 (cl_cons s12 (cl_cons s13 (cl_cons s14 (cl_cons s15 (cl_cons s16 (cl_cons s17 (cl_cons s18 (cl_cons s19 (cl_cons s20 (cl_nil _ _ _))))))))))))))))))))))) ?_
              with_reducible rfl
             rotate_left
             ·simp only [Act.put, sa_, sb_, sc_, i64_w, i32_w]
              rfl
             refine pure_ (i := 9) (N := some 155) (v := ?_) (a' := ?_) z5_10_ rfl rfl (an_ T_) (fun _ _ _ h => h) (Or.inl ⟨by rfl, ?_⟩) ?_ ?_
             rotate_left; · intro w'; go_simp; with_reducible rfl
             rotate_left; · simp only [Act.put, sa_, sb_, sc_, i64_w, i32_w]; rfl
             refine pure_ (i := 10) (N := some 156) (v := ?_) (a' := ?_) z5_11_ rfl rfl (an_ T_) (fun _ _ _ h => h) (Or.inl ⟨by rfl, ?_⟩) ?_ ?_
             rotate_left; · intro w'; go_simp; with_reducible rfl
             rotate_left; · simp only [Act.put, sa_, sb_, sc_, i64_w, i32_w]; rfl
             refine pure_ (i := 11) (N := some 157) (v := ?_) (a' := ?_) z5_12_ rfl rfl (an_ T_) (fun _ _ _ h => h) (Or.inl ⟨by rfl, ?_⟩) ?_ ?_
             rotate_left; · intro w'; go_simp; with_reducible rfl
             rotate_left; · simp only [Act.put, sa_, sb_, sc_, i64_w, i32_w]; rfl
             refine pure_ (i := 12) (N := some 158) (v := ?_) (a' := ?_) z5_13_ rfl rfl (an_ T_) (fun _ _ _ h => h) (Or.inl ⟨by rfl, ?_⟩) ?_ ?_
             rotate_left; · intro w'; go_simp; with_reducible rfl
             rotate_left; · simp only [Act.put, sa_, sb_, sc_, i64_w, i32_w]; rfl
             refine pure_ (i := 13) (N := some 159) (v := ?_) (a' := ?_) z5_14_ rfl rfl (an_ T_) (fun _ _ _ h => h) (Or.inl ⟨by rfl, ?_⟩) ?_ ?_
             rotate_left; · intro w'; go_simp; with_reducible rfl
             rotate_left; · simp only [Act.put, sa_, sb_, sc_, i64_w, i32_w]; rfl
             refine pure_ (i := 14) (N := some 160) (v := ?_) (a' := ?_) z5_15_ rfl rfl (an_ T_) (fun _ _ _ h => h) (Or.inl ⟨by rfl, ?_⟩) ?_ ?_
             rotate_left; · intro w'; go_simp; with_reducible rfl
             rotate_left; · simp only [Act.put, sa_, sb_, sc_, i64_w, i32_w]; rfl
             refine pure_ (i := 15) (N := some 161) (v := ?_) (a' := ?_) z5_16_ rfl rfl (an_ T_) (fun _ _ _ h => h) (Or.inl ⟨by rfl, ?_⟩) ?_ ?_
             rotate_left; · intro w'; go_simp; with_reducible rfl
             rotate_left; · simp only [Act.put, sa_, sb_, sc_, i64_w, i32_w]; rfl
             refine pure_ (i := 16) (N := some 162) (v := ?_) (a' := ?_) z5_17_ rfl rfl (an_ T_) (fun _ _ _ h => h) (Or.inl ⟨by rfl, ?_⟩) ?_ ?_
             rotate_left; · intro w'; go_simp; with_reducible rfl
             rotate_left; · simp only [Act.put, sa_, sb_, sc_, i64_w, i32_w]; rfl
             refine pure_ (i := 17) (N := some 163) (v := ?_) (a' := ?_) z5_18_ rfl rfl (an_ T_) (fun _ _ _ h => h) (Or.inl ⟨by rfl, ?_⟩) ?_ ?_
             rotate_left; · intro w'; go_simp; with_reducible rfl
             rotate_left; · simp only [Act.put, sa_, sb_, sc_, i64_w, i32_w]; rfl
             refine pure_ (i := 18) (N := some 164) (v := ?_) (a' := ?_) z5_19_ rfl rfl (an_ T_) (fun _ _ _ h => h) (Or.inl ⟨by rfl, ?_⟩) ?_ ?_
             rotate_left; · intro w'; go_simp; with_reducible rfl
             rotate_left; · simp only [Act.put, sa_, sb_, sc_, i64_w, i32_w]; rfl
             refine pure_ (i := 19) (N := some 165) (v := ?_) (a' := ?_) z5_20_ rfl rfl (an_ T_) (fun _ _ _ h => h) (Or.inl ⟨by rfl, ?_⟩) ?_ ?_
             rotate_left; · intro w'; go_simp; with_reducible rfl
             rotate_left; · simp only [Act.put, sa_, sb_, sc_, i64_w, i32_w]; rfl
             refine take_ (i := 20) (N := some 166) (v := ?_) (a' := ?_) z5_21_ rfl rfl (tk_ T_ W_) (fun _ _ _ h => h) (Or.inl ⟨by rfl, ?_⟩) hL ?_ ?_
             rotate_left
             ·rintro w' ⟨s0, s1, s2, s3, s4, s5, s6, s7, s8, s9, s10, s11, s12, s13, s14, s15, s16, s17, s18, s19, s20, s21, s22, s23, s24, s25, s26, s27, s28, s29, s30, s31, s32, s33, s34, s35, s36, s37, s38, s39, s40, s41, s42, s43, s44, s45, s46, s47, s48, s49, s50, s51, s52, s53, s54, s55, s56, s57, s58, s59, s60, s61, s62⟩
              refine Eq.trans (run_load_at (ty := 26) (p := .tmp 165) (ad := (ad685.add ((x20_2).toNat * 21))) (cs := [.int .i64 ((rd_T26 t680 x20_2).f0), .int .u8 ((rd_T26 t680 x20_2).f1.f0), .int .u8 ((rd_T26 t680 x20_2).f1.f1), .int .u8 ((rd_T26 t680 x20_2).f1.f2), .int .u8 ((rd_T26 t680 x20_2).f1.f3), .int .u8 ((rd_T26 t680 x20_2).f2.f0), .int .u8 ((rd_T26 t680 x20_2).f2.f1), .int .u8 ((rd_T26 t680 x20_2).f2.f2), .int .u8 ((rd_T26 t680 x20_2).f2.f3), .int .u8 ((rd_T26 t680 x20_2).f2.f4), .int .u8 ((rd_T26 t680 x20_2).f2.f5), .int .u8 ((rd_T26 t680 x20_2).f2.f6), .int .u8 ((rd_T26 t680 x20_2).f2.f7), .int .u8 ((rd_T26 t680 x20_2).f2.f8), .int .u8 ((rd_T26 t680 x20_2).f2.f9), .int .u8 ((rd_T26 t680 x20_2).f2.f10), .int .u8 ((rd_T26 t680 x20_2).f2.f11), .int .u8 ((rd_T26 t680 x20_2).f2.f12), .int .u8 ((rd_T26 t680 x20_2).f2.f13), .int .u8 ((rd_T26 t680 x20_2).f2.f14), .int .u8 ((rd_T26 t680 x20_2).f2.f15)]) (by rfl) (by rfl) Tryd.underlying26 rfl (by kernel_rfl) (ca_cons (show _ from s21) (ca_cons (ca_off s22 (by decide)) (ca_cons (ca_off s23 (by decide)) (ca_cons (ca_off s24 (by decide)) (ca_cons (ca_off s25 (by decide)) (ca_cons (ca_off s26 (by decide)) (ca_cons (ca_off s27 (by decide)) (ca_cons (ca_off s28 (by decide)) (ca_cons (ca_off s29 (by decide)) (ca_cons (ca_off s30 (by decide)) (ca_cons (ca_off s31 (by decide)) (ca_cons (ca_off s32 (by decide)) (ca_cons (ca_off s33 (by decide)) (ca_cons (ca_off s34 (by decide)) (ca_cons (ca_off s35 (by decide)) (ca_cons (ca_off s36 (by decide)) (ca_cons (ca_off s37 (by decide)) (ca_cons (ca_off s38 (by decide)) (ca_cons (ca_off s39 (by decide)) (ca_cons (ca_off s40 (by decide)) (ca_cons (ca_off s41 (by decide)) (ca_nil _ _ _))))))))))))))))))))))) ?_
              with_reducible rfl
             rotate_left
             ·simp only [Act.put, sa_, sb_, sc_, i64_w, i32_w]
              rfl
             refine one_ (i := 21) (N := some 167) z5_22_ rfl rfl (on_ T_) (by decide) (fun K hK => ?_)
             refine goes_ Tryd.func16 (by kernel_rfl) rfl #[.slice Ao16 t582.length co16, .agg #[.int .i64 ((rd_T26 t680 x20_2).f0), .int .u8 ((rd_T26 t680 x20_2).f1.f0), .int .u8 ((rd_T26 t680 x20_2).f1.f1), .int .u8 ((rd_T26 t680 x20_2).f1.f2), .int .u8 ((rd_T26 t680 x20_2).f1.f3), .int .u8 ((rd_T26 t680 x20_2).f2.f0), .int .u8 ((rd_T26 t680 x20_2).f2.f1), .int .u8 ((rd_T26 t680 x20_2).f2.f2), .int .u8 ((rd_T26 t680 x20_2).f2.f3), .int .u8 ((rd_T26 t680 x20_2).f2.f4), .int .u8 ((rd_T26 t680 x20_2).f2.f5), .int .u8 ((rd_T26 t680 x20_2).f2.f6), .int .u8 ((rd_T26 t680 x20_2).f2.f7), .int .u8 ((rd_T26 t680 x20_2).f2.f8), .int .u8 ((rd_T26 t680 x20_2).f2.f9), .int .u8 ((rd_T26 t680 x20_2).f2.f10), .int .u8 ((rd_T26 t680 x20_2).f2.f11), .int .u8 ((rd_T26 t680 x20_2).f2.f12), .int .u8 ((rd_T26 t680 x20_2).f2.f13), .int .u8 ((rd_T26 t680 x20_2).f2.f14), .int .u8 ((rd_T26 t680 x20_2).f2.f15)]] (by rfl) rfl rfl (by (try simp only [List.map_toArray, List.map_cons, List.map_nil]); first | done | rfl | (go_simp; done)) ?_
             with_reducible refine (machine_Halted.calls k2 _ _ t582 ((rd_T26 t680 x20_2).f0) ((rd_T26 t680 x20_2).f1.f0) ((rd_T26 t680 x20_2).f1.f1) ((rd_T26 t680 x20_2).f1.f2) ((rd_T26 t680 x20_2).f1.f3) ((rd_T26 t680 x20_2).f2.f0) ((rd_T26 t680 x20_2).f2.f1) ((rd_T26 t680 x20_2).f2.f2) ((rd_T26 t680 x20_2).f2.f3) ((rd_T26 t680 x20_2).f2.f4) ((rd_T26 t680 x20_2).f2.f5) ((rd_T26 t680 x20_2).f2.f6) ((rd_T26 t680 x20_2).f2.f7) ((rd_T26 t680 x20_2).f2.f8) ((rd_T26 t680 x20_2).f2.f9) ((rd_T26 t680 x20_2).f2.f10) ((rd_T26 t680 x20_2).f2.f11) ((rd_T26 t680 x20_2).f2.f12) ((rd_T26 t680 x20_2).f2.f13) ((rd_T26 t680 x20_2).f2.f14) ((rd_T26 t680 x20_2).f2.f15) false _ ?side1 ?side2 ?side3 A49.out).mono ?_
             (case side1 => repeat (first | exact (Kd.R_reads' HO_0.out).2.2 | (with_reducible refine Kd.C_alloc ?_ _) | (with_reducible refine Kd.C_drewN ?_ _) | (with_reducible refine Kd.C_drew ?_)))
             (case side2 => exact (Kd.R_reads' HO_0.out).2.1)
             (case side3 => repeat (first | exact (GL.below HRG.out HB.out) | (with_reducible refine GL.alloc ?_ _) | (with_reducible refine GL.drewN ?_ _) | (with_reducible refine GL.drew ?_)))
             rintro e w53 ⟨rfl, hb⟩
             have HS21_ := (hb.cell (World.block_lt_of_cell? _ _ (hL.2.2.2.2.2.2.2.2.2.2.2.2.2.2.2.2.2.2.2.2.2.1))).trans (hL.2.2.2.2.2.2.2.2.2.2.2.2.2.2.2.2.2.2.2.2.2.1)
             have HS22_ := (hb.cell (World.block_lt_of_cell? _ _ (hL.2.2.2.2.2.2.2.2.2.2.2.2.2.2.2.2.2.2.2.2.2.2.1))).trans (hL.2.2.2.2.2.2.2.2.2.2.2.2.2.2.2.2.2.2.2.2.2.2.1)
             have HS23_ := (hb.cell (World.block_lt_of_cell? _ _ (hL.2.2.2.2.2.2.2.2.2.2.2.2.2.2.2.2.2.2.2.2.2.2.2.1))).trans (hL.2.2.2.2.2.2.2.2.2.2.2.2.2.2.2.2.2.2.2.2.2.2.2.1)
             have HS24_ := (hb.cell (World.block_lt_of_cell? _ _ (hL.2.2.2.2.2.2.2.2.2.2.2.2.2.2.2.2.2.2.2.2.2.2.2.2.1))).trans (hL.2.2.2.2.2.2.2.2.2.2.2.2.2.2.2.2.2.2.2.2.2.2.2.2.1)
             have HS25_ := (hb.cell (World.block_lt_of_cell? _ _ (hL.2.2.2.2.2.2.2.2.2.2.2.2.2.2.2.2.2.2.2.2.2.2.2.2.2.1))).trans (hL.2.2.2.2.2.2.2.2.2.2.2.2.2.2.2.2.2.2.2.2.2.2.2.2.2.1)
             have HS26_ := (hb.cell (World.block_lt_of_cell? _ _ (hL.2.2.2.2.2.2.2.2.2.2.2.2.2.2.2.2.2.2.2.2.2.2.2.2.2.2.1))).trans (hL.2.2.2.2.2.2.2.2.2.2.2.2.2.2.2.2.2.2.2.2.2.2.2.2.2.2.1)
             have HS27_ := (hb.cell (World.block_lt_of_cell? _ _ (hL.2.2.2.2.2.2.2.2.2.2.2.2.2.2.2.2.2.2.2.2.2.2.2.2.2.2.2.1))).trans (hL.2.2.2.2.2.2.2.2.2.2.2.2.2.2.2.2.2.2.2.2.2.2.2.2.2.2.2.1)
             have HS28_ := (hb.cell (World.block_lt_of_cell? _ _ (hL.2.2.2.2.2.2.2.2.2.2.2.2.2.2.2.2.2.2.2.2.2.2.2.2.2.2.2.2.1))).trans (hL.2.2.2.2.2.2.2.2.2.2.2.2.2.2.2.2.2.2.2.2.2.2.2.2.2.2.2.2.1)
             have HS29_ := (hb.cell (World.block_lt_of_cell? _ _ (hL.2.2.2.2.2.2.2.2.2.2.2.2.2.2.2.2.2.2.2.2.2.2.2.2.2.2.2.2.2.1))).trans (hL.2.2.2.2.2.2.2.2.2.2.2.2.2.2.2.2.2.2.2.2.2.2.2.2.2.2.2.2.2.1)
             have HS30_ := (hb.cell (World.block_lt_of_cell? _ _ (hL.2.2.2.2.2.2.2.2.2.2.2.2.2.2.2.2.2.2.2.2.2.2.2.2.2.2.2.2.2.2.1))).trans (hL.2.2.2.2.2.2.2.2.2.2.2.2.2.2.2.2.2.2.2.2.2.2.2.2.2.2.2.2.2.2.1)
             have HS31_ := (hb.cell (World.block_lt_of_cell? _ _ (hL.2.2.2.2.2.2.2.2.2.2.2.2.2.2.2.2.2.2.2.2.2.2.2.2.2.2.2.2.2.2.2.1))).trans (hL.2.2.2.2.2.2.2.2.2.2.2.2.2.2.2.2.2.2.2.2.2.2.2.2.2.2.2.2.2.2.2.1)
             have HS32_ := (hb.cell (World.block_lt_of_cell? _ _ (hL.2.2.2.2.2.2.2.2.2.2.2.2.2.2.2.2.2.2.2.2.2.2.2.2.2.2.2.2.2.2.2.2.1))).trans (hL.2.2.2.2.2.2.2.2.2.2.2.2.2.2.2.2.2.2.2.2.2.2.2.2.2.2.2.2.2.2.2.2.1)
             have HS33_ := (hb.cell (World.block_lt_of_cell? _ _ (hL.2.2.2.2.2.2.2.2.2.2.2.2.2.2.2.2.2.2.2.2.2.2.2.2.2.2.2.2.2.2.2.2.2.1))).trans (hL.2.2.2.2.2.2.2.2.2.2.2.2.2.2.2.2.2.2.2.2.2.2.2.2.2.2.2.2.2.2.2.2.2.1)
             have HS34_ := (hb.cell (World.block_lt_of_cell? _ _ (hL.2.2.2.2.2.2.2.2.2.2.2.2.2.2.2.2.2.2.2.2.2.2.2.2.2.2.2.2.2.2.2.2.2.2.1))).trans (hL.2.2.2.2.2.2.2.2.2.2.2.2.2.2.2.2.2.2.2.2.2.2.2.2.2.2.2.2.2.2.2.2.2.2.1)
             have HS35_ := (hb.cell (World.block_lt_of_cell? _ _ (hL.2.2.2.2.2.2.2.2.2.2.2.2.2.2.2.2.2.2.2.2.2.2.2.2.2.2.2.2.2.2.2.2.2.2.2.1))).trans (hL.2.2.2.2.2.2.2.2.2.2.2.2.2.2.2.2.2.2.2.2.2.2.2.2.2.2.2.2.2.2.2.2.2.2.2.1)
             have HS36_ := (hb.cell (World.block_lt_of_cell? _ _ (hL.2.2.2.2.2.2.2.2.2.2.2.2.2.2.2.2.2.2.2.2.2.2.2.2.2.2.2.2.2.2.2.2.2.2.2.2.1))).trans (hL.2.2.2.2.2.2.2.2.2.2.2.2.2.2.2.2.2.2.2.2.2.2.2.2.2.2.2.2.2.2.2.2.2.2.2.2.1)
             have HS37_ := (hb.cell (World.block_lt_of_cell? _ _ (hL.2.2.2.2.2.2.2.2.2.2.2.2.2.2.2.2.2.2.2.2.2.2.2.2.2.2.2.2.2.2.2.2.2.2.2.2.2.1))).trans (hL.2.2.2.2.2.2.2.2.2.2.2.2.2.2.2.2.2.2.2.2.2.2.2.2.2.2.2.2.2.2.2.2.2.2.2.2.2.1)
             have HS38_ := (hb.cell (World.block_lt_of_cell? _ _ (hL.2.2.2.2.2.2.2.2.2.2.2.2.2.2.2.2.2.2.2.2.2.2.2.2.2.2.2.2.2.2.2.2.2.2.2.2.2.2.1))).trans (hL.2.2.2.2.2.2.2.2.2.2.2.2.2.2.2.2.2.2.2.2.2.2.2.2.2.2.2.2.2.2.2.2.2.2.2.2.2.2.1)
             have HS39_ := (hb.cell (World.block_lt_of_cell? _ _ (hL.2.2.2.2.2.2.2.2.2.2.2.2.2.2.2.2.2.2.2.2.2.2.2.2.2.2.2.2.2.2.2.2.2.2.2.2.2.2.2.1))).trans (hL.2.2.2.2.2.2.2.2.2.2.2.2.2.2.2.2.2.2.2.2.2.2.2.2.2.2.2.2.2.2.2.2.2.2.2.2.2.2.2.1)
             have HS40_ := (hb.cell (World.block_lt_of_cell? _ _ (hL.2.2.2.2.2.2.2.2.2.2.2.2.2.2.2.2.2.2.2.2.2.2.2.2.2.2.2.2.2.2.2.2.2.2.2.2.2.2.2.2.1))).trans (hL.2.2.2.2.2.2.2.2.2.2.2.2.2.2.2.2.2.2.2.2.2.2.2.2.2.2.2.2.2.2.2.2.2.2.2.2.2.2.2.2.1)
             have HS41_ := (hb.cell (World.block_lt_of_cell? _ _ (hL.2.2.2.2.2.2.2.2.2.2.2.2.2.2.2.2.2.2.2.2.2.2.2.2.2.2.2.2.2.2.2.2.2.2.2.2.2.2.2.2.2.1))).trans (hL.2.2.2.2.2.2.2.2.2.2.2.2.2.2.2.2.2.2.2.2.2.2.2.2.2.2.2.2.2.2.2.2.2.2.2.2.2.2.2.2.2.1)
             have HS42_ := (hb.cell (World.block_lt_of_cell? _ _ (hL.2.2.2.2.2.2.2.2.2.2.2.2.2.2.2.2.2.2.2.2.2.2.2.2.2.2.2.2.2.2.2.2.2.2.2.2.2.2.2.2.2.2.1))).trans (hL.2.2.2.2.2.2.2.2.2.2.2.2.2.2.2.2.2.2.2.2.2.2.2.2.2.2.2.2.2.2.2.2.2.2.2.2.2.2.2.2.2.2.1)
             have HS43_ := (hb.cell (World.block_lt_of_cell? _ _ (hL.2.2.2.2.2.2.2.2.2.2.2.2.2.2.2.2.2.2.2.2.2.2.2.2.2.2.2.2.2.2.2.2.2.2.2.2.2.2.2.2.2.2.2.1))).trans (hL.2.2.2.2.2.2.2.2.2.2.2.2.2.2.2.2.2.2.2.2.2.2.2.2.2.2.2.2.2.2.2.2.2.2.2.2.2.2.2.2.2.2.2.1)
             have HS44_ := (hb.cell (World.block_lt_of_cell? _ _ (hL.2.2.2.2.2.2.2.2.2.2.2.2.2.2.2.2.2.2.2.2.2.2.2.2.2.2.2.2.2.2.2.2.2.2.2.2.2.2.2.2.2.2.2.2.1))).trans (hL.2.2.2.2.2.2.2.2.2.2.2.2.2.2.2.2.2.2.2.2.2.2.2.2.2.2.2.2.2.2.2.2.2.2.2.2.2.2.2.2.2.2.2.2.1)
             have HS45_ := (hb.cell (World.block_lt_of_cell? _ _ (hL.2.2.2.2.2.2.2.2.2.2.2.2.2.2.2.2.2.2.2.2.2.2.2.2.2.2.2.2.2.2.2.2.2.2.2.2.2.2.2.2.2.2.2.2.2.1))).trans (hL.2.2.2.2.2.2.2.2.2.2.2.2.2.2.2.2.2.2.2.2.2.2.2.2.2.2.2.2.2.2.2.2.2.2.2.2.2.2.2.2.2.2.2.2.2.1)
             have HS46_ := (hb.cell (World.block_lt_of_cell? _ _ (hL.2.2.2.2.2.2.2.2.2.2.2.2.2.2.2.2.2.2.2.2.2.2.2.2.2.2.2.2.2.2.2.2.2.2.2.2.2.2.2.2.2.2.2.2.2.2.1))).trans (hL.2.2.2.2.2.2.2.2.2.2.2.2.2.2.2.2.2.2.2.2.2.2.2.2.2.2.2.2.2.2.2.2.2.2.2.2.2.2.2.2.2.2.2.2.2.2.1)
             have HS47_ := (hb.cell (World.block_lt_of_cell? _ _ (hL.2.2.2.2.2.2.2.2.2.2.2.2.2.2.2.2.2.2.2.2.2.2.2.2.2.2.2.2.2.2.2.2.2.2.2.2.2.2.2.2.2.2.2.2.2.2.2.1))).trans (hL.2.2.2.2.2.2.2.2.2.2.2.2.2.2.2.2.2.2.2.2.2.2.2.2.2.2.2.2.2.2.2.2.2.2.2.2.2.2.2.2.2.2.2.2.2.2.2.1)
             have HS48_ := (hb.cell (World.block_lt_of_cell? _ _ (hL.2.2.2.2.2.2.2.2.2.2.2.2.2.2.2.2.2.2.2.2.2.2.2.2.2.2.2.2.2.2.2.2.2.2.2.2.2.2.2.2.2.2.2.2.2.2.2.2.1))).trans (hL.2.2.2.2.2.2.2.2.2.2.2.2.2.2.2.2.2.2.2.2.2.2.2.2.2.2.2.2.2.2.2.2.2.2.2.2.2.2.2.2.2.2.2.2.2.2.2.2.1)
             have HS49_ := (hb.cell (World.block_lt_of_cell? _ _ (hL.2.2.2.2.2.2.2.2.2.2.2.2.2.2.2.2.2.2.2.2.2.2.2.2.2.2.2.2.2.2.2.2.2.2.2.2.2.2.2.2.2.2.2.2.2.2.2.2.2.1))).trans (hL.2.2.2.2.2.2.2.2.2.2.2.2.2.2.2.2.2.2.2.2.2.2.2.2.2.2.2.2.2.2.2.2.2.2.2.2.2.2.2.2.2.2.2.2.2.2.2.2.2.1)
             have HS50_ := (hb.cell (World.block_lt_of_cell? _ _ (hL.2.2.2.2.2.2.2.2.2.2.2.2.2.2.2.2.2.2.2.2.2.2.2.2.2.2.2.2.2.2.2.2.2.2.2.2.2.2.2.2.2.2.2.2.2.2.2.2.2.2.1))).trans (hL.2.2.2.2.2.2.2.2.2.2.2.2.2.2.2.2.2.2.2.2.2.2.2.2.2.2.2.2.2.2.2.2.2.2.2.2.2.2.2.2.2.2.2.2.2.2.2.2.2.2.1)
             have HS51_ := (hb.cell (World.block_lt_of_cell? _ _ (hL.2.2.2.2.2.2.2.2.2.2.2.2.2.2.2.2.2.2.2.2.2.2.2.2.2.2.2.2.2.2.2.2.2.2.2.2.2.2.2.2.2.2.2.2.2.2.2.2.2.2.2.1))).trans (hL.2.2.2.2.2.2.2.2.2.2.2.2.2.2.2.2.2.2.2.2.2.2.2.2.2.2.2.2.2.2.2.2.2.2.2.2.2.2.2.2.2.2.2.2.2.2.2.2.2.2.2.1)
             have HS52_ := (hb.cell (World.block_lt_of_cell? _ _ (hL.2.2.2.2.2.2.2.2.2.2.2.2.2.2.2.2.2.2.2.2.2.2.2.2.2.2.2.2.2.2.2.2.2.2.2.2.2.2.2.2.2.2.2.2.2.2.2.2.2.2.2.2.1))).trans (hL.2.2.2.2.2.2.2.2.2.2.2.2.2.2.2.2.2.2.2.2.2.2.2.2.2.2.2.2.2.2.2.2.2.2.2.2.2.2.2.2.2.2.2.2.2.2.2.2.2.2.2.2.1)
             have HS53_ := (hb.cell (World.block_lt_of_cell? _ _ (hL.2.2.2.2.2.2.2.2.2.2.2.2.2.2.2.2.2.2.2.2.2.2.2.2.2.2.2.2.2.2.2.2.2.2.2.2.2.2.2.2.2.2.2.2.2.2.2.2.2.2.2.2.2.1))).trans (hL.2.2.2.2.2.2.2.2.2.2.2.2.2.2.2.2.2.2.2.2.2.2.2.2.2.2.2.2.2.2.2.2.2.2.2.2.2.2.2.2.2.2.2.2.2.2.2.2.2.2.2.2.2.1)
             have HS54_ := (hb.cell (World.block_lt_of_cell? _ _ (hL.2.2.2.2.2.2.2.2.2.2.2.2.2.2.2.2.2.2.2.2.2.2.2.2.2.2.2.2.2.2.2.2.2.2.2.2.2.2.2.2.2.2.2.2.2.2.2.2.2.2.2.2.2.2.1))).trans (hL.2.2.2.2.2.2.2.2.2.2.2.2.2.2.2.2.2.2.2.2.2.2.2.2.2.2.2.2.2.2.2.2.2.2.2.2.2.2.2.2.2.2.2.2.2.2.2.2.2.2.2.2.2.2.1)
             have HS55_ := (hb.cell (World.block_lt_of_cell? _ _ (hL.2.2.2.2.2.2.2.2.2.2.2.2.2.2.2.2.2.2.2.2.2.2.2.2.2.2.2.2.2.2.2.2.2.2.2.2.2.2.2.2.2.2.2.2.2.2.2.2.2.2.2.2.2.2.2.1))).trans (hL.2.2.2.2.2.2.2.2.2.2.2.2.2.2.2.2.2.2.2.2.2.2.2.2.2.2.2.2.2.2.2.2.2.2.2.2.2.2.2.2.2.2.2.2.2.2.2.2.2.2.2.2.2.2.2.1)
             have HS56_ := (hb.cell (World.block_lt_of_cell? _ _ (hL.2.2.2.2.2.2.2.2.2.2.2.2.2.2.2.2.2.2.2.2.2.2.2.2.2.2.2.2.2.2.2.2.2.2.2.2.2.2.2.2.2.2.2.2.2.2.2.2.2.2.2.2.2.2.2.2.1))).trans (hL.2.2.2.2.2.2.2.2.2.2.2.2.2.2.2.2.2.2.2.2.2.2.2.2.2.2.2.2.2.2.2.2.2.2.2.2.2.2.2.2.2.2.2.2.2.2.2.2.2.2.2.2.2.2.2.2.1)
             have HS57_ := (hb.cell (World.block_lt_of_cell? _ _ (hL.2.2.2.2.2.2.2.2.2.2.2.2.2.2.2.2.2.2.2.2.2.2.2.2.2.2.2.2.2.2.2.2.2.2.2.2.2.2.2.2.2.2.2.2.2.2.2.2.2.2.2.2.2.2.2.2.2.1))).trans (hL.2.2.2.2.2.2.2.2.2.2.2.2.2.2.2.2.2.2.2.2.2.2.2.2.2.2.2.2.2.2.2.2.2.2.2.2.2.2.2.2.2.2.2.2.2.2.2.2.2.2.2.2.2.2.2.2.2.1)
             have HS58_ := (hb.cell (World.block_lt_of_cell? _ _ (hL.2.2.2.2.2.2.2.2.2.2.2.2.2.2.2.2.2.2.2.2.2.2.2.2.2.2.2.2.2.2.2.2.2.2.2.2.2.2.2.2.2.2.2.2.2.2.2.2.2.2.2.2.2.2.2.2.2.2.1))).trans (hL.2.2.2.2.2.2.2.2.2.2.2.2.2.2.2.2.2.2.2.2.2.2.2.2.2.2.2.2.2.2.2.2.2.2.2.2.2.2.2.2.2.2.2.2.2.2.2.2.2.2.2.2.2.2.2.2.2.2.1)
             have HS59_ := (hb.cell (World.block_lt_of_cell? _ _ (hL.2.2.2.2.2.2.2.2.2.2.2.2.2.2.2.2.2.2.2.2.2.2.2.2.2.2.2.2.2.2.2.2.2.2.2.2.2.2.2.2.2.2.2.2.2.2.2.2.2.2.2.2.2.2.2.2.2.2.2.1))).trans (hL.2.2.2.2.2.2.2.2.2.2.2.2.2.2.2.2.2.2.2.2.2.2.2.2.2.2.2.2.2.2.2.2.2.2.2.2.2.2.2.2.2.2.2.2.2.2.2.2.2.2.2.2.2.2.2.2.2.2.2.1)
             have HS60_ := (hb.cell (World.block_lt_of_cell? _ _ (hL.2.2.2.2.2.2.2.2.2.2.2.2.2.2.2.2.2.2.2.2.2.2.2.2.2.2.2.2.2.2.2.2.2.2.2.2.2.2.2.2.2.2.2.2.2.2.2.2.2.2.2.2.2.2.2.2.2.2.2.2.1))).trans (hL.2.2.2.2.2.2.2.2.2.2.2.2.2.2.2.2.2.2.2.2.2.2.2.2.2.2.2.2.2.2.2.2.2.2.2.2.2.2.2.2.2.2.2.2.2.2.2.2.2.2.2.2.2.2.2.2.2.2.2.2.1)
             have HS61_ := (hb.cell (World.block_lt_of_cell? _ _ (hL.2.2.2.2.2.2.2.2.2.2.2.2.2.2.2.2.2.2.2.2.2.2.2.2.2.2.2.2.2.2.2.2.2.2.2.2.2.2.2.2.2.2.2.2.2.2.2.2.2.2.2.2.2.2.2.2.2.2.2.2.2.1))).trans (hL.2.2.2.2.2.2.2.2.2.2.2.2.2.2.2.2.2.2.2.2.2.2.2.2.2.2.2.2.2.2.2.2.2.2.2.2.2.2.2.2.2.2.2.2.2.2.2.2.2.2.2.2.2.2.2.2.2.2.2.2.2.1)
             have HS62_ := (hb.cell (World.block_lt_of_cell? _ _ (hL.2.2.2.2.2.2.2.2.2.2.2.2.2.2.2.2.2.2.2.2.2.2.2.2.2.2.2.2.2.2.2.2.2.2.2.2.2.2.2.2.2.2.2.2.2.2.2.2.2.2.2.2.2.2.2.2.2.2.2.2.2.2))).trans (hL.2.2.2.2.2.2.2.2.2.2.2.2.2.2.2.2.2.2.2.2.2.2.2.2.2.2.2.2.2.2.2.2.2.2.2.2.2.2.2.2.2.2.2.2.2.2.2.2.2.2.2.2.2.2.2.2.2.2.2.2.2.2)
             refine ⟨_, rfl, ?_⟩
             have n0_ := Aside0.mk (Kd.R_below (by (with_reducible repeat (first | apply Kd.R_alloc | apply Kd.R_drewN | apply Kd.R_drew)); exact HO_0.out) hb)
             have n1_ := Aside0.mk (Kd.R_below (by (with_reducible repeat (first | apply Kd.R_alloc | apply Kd.R_drewN | apply Kd.R_drew)); exact HO_18.out) hb)
             have n2_ := Aside0.mk (blk_below (g := g581) (o := .cells #[.int .i64 t585, .int .u8 t586, .int .u8 t587, .int .u8 t588, .int .u8 t589, .int .u8 t590, .int .u8 t591, .int .u8 t592, .int .u8 t593, .int .u8 t594, .int .u8 t595, .int .u8 t596, .int .u8 t597, .int .u8 t598, .int .u8 t599, .int .u8 t600, .int .u8 t601, .int .u8 t602, .int .u8 t603, .int .u8 t604, .int .u8 t605] 26 (0, 0)) (by exact B581.out) hb)
             have n3_ := Aside0.mk (blk_below (g := g629) (o := .cells #[.int .i64 t606, .int .u8 t607, .int .u8 t608, .int .u8 t609, .int .u8 t610, .int .u8 t611, .int .u8 t612, .int .u8 t613, .int .u8 t614, .int .u8 t615, .int .u8 t616, .int .u8 t617, .int .u8 t618, .int .u8 t619, .int .u8 t620, .int .u8 t621, .int .u8 t622, .int .u8 t623, .int .u8 t624, .int .u8 t625, .int .u8 t626] 26 (0, 0)) (by exact B629.out) hb)
             have n4_ := Aside0.mk (blk_below (g := g655) (o := .cells #[.int .i64 t632, .int .u8 t633, .int .u8 t634, .int .u8 t635, .int .u8 t636, .int .u8 t637, .int .u8 t638, .int .u8 t639, .int .u8 t640, .int .u8 t641, .int .u8 t642, .int .u8 t643, .int .u8 t644, .int .u8 t645, .int .u8 t646, .int .u8 t647, .int .u8 t648, .int .u8 t649, .int .u8 t650, .int .u8 t651, .int .u8 t652] 26 (0, 0)) (by exact B655.out) hb)
             have n5_ := Aside0.mk (blk_below (g := g679) (o := .cells #[.int .i64 t656, .int .u8 t657, .int .u8 t658, .int .u8 t659, .int .u8 t660, .int .u8 t661, .int .u8 t662, .int .u8 t663, .int .u8 t664, .int .u8 t665, .int .u8 t666, .int .u8 t667, .int .u8 t668, .int .u8 t669, .int .u8 t670, .int .u8 t671, .int .u8 t672, .int .u8 t673, .int .u8 t674, .int .u8 t675, .int .u8 t676] 26 (0, 0)) (by exact B679.out) hb)
             have n6_ := Aside0.mk (below_step (by repeat (first | (with_reducible first | exact HB.out | apply below_alloc | apply pw_below_drewN | apply below_drew1 | refine below_set ?_ GE581.out | refine below_set ?_ GE629.out | refine below_set ?_ GE655.out | refine below_set ?_ GE679.out) | exact HB.out)) hb)
             clear HO_0
             clear HO_18
             clear B581
             clear B629
             clear B655
             clear B679
             clear HB
             have HO_0 := n0_
             have HO_18 := n1_
             have B581 := n2_
             have B629 := n3_
             have B655 := n4_
             have B679 := n5_
             have HB := n6_
             clear n0_ n1_ n2_ n3_ n4_ n5_ n6_
             (try clear hb)
             (try clear hb2)
             (try clear hk)
             (try clear hi)
             refine hK.out _ _ ⟨bq_ B679 0, bq_ B679 1, bq_ B679 2, bq_ B679 3, bq_ B679 4, bq_ B679 5, bq_ B679 6, bq_ B679 7, bq_ B679 8, bq_ B679 9, bq_ B679 10, bq_ B679 11, bq_ B679 12, bq_ B679 13, bq_ B679 14, bq_ B679 15, bq_ B679 16, bq_ B679 17, bq_ B679 18, bq_ B679 19, bq_ B679 20, HS21_, HS22_, HS23_, HS24_, HS25_, HS26_, HS27_, HS28_, HS29_, HS30_, HS31_, HS32_, HS33_, HS34_, HS35_, HS36_, HS37_, HS38_, HS39_, HS40_, HS41_, HS42_, HS43_, HS44_, HS45_, HS46_, HS47_, HS48_, HS49_, HS50_, HS51_, HS52_, HS53_, HS54_, HS55_, HS56_, HS57_, HS58_, HS59_, HS60_, HS61_, HS62_⟩ (fun hL => ?_)
             clear hK K
             refine norm_ (a' := ?_) ?_ ?_
             rotate_left
             ·show Act.put _ (some 167) _ = _
              simp only [Act.put, sa_, sb_, sc_, i64_w, i32_w]
              rfl
             refine pure_ (i := 22) (N := some 168) (v := ?_) (a' := ?_) z5_23_ rfl rfl (an_ T_) (fun _ _ _ h => h) (Or.inl ⟨by rfl, ?_⟩) ?_ ?_
             rotate_left; · intro w'; go_simp; with_reducible rfl
             rotate_left; · simp only [Act.put, sa_, sb_, sc_, i64_w, i32_w]; rfl
             refine pure_ (i := 23) (N := some 169) (v := ?_) (a' := ?_) z5_24_ rfl rfl (an_ T_) (fun _ _ _ h => h) (Or.inl ⟨by rfl, ?_⟩) ?_ ?_
             rotate_left; · intro w'; go_simp; with_reducible rfl
             rotate_left; · simp only [Act.put, sa_, sb_, sc_, i64_w, i32_w]; rfl
             refine done_ (done_of T_.out (by kernel_rfl)) ?_
             try go_wp2
             go_roundg k2
             case measure => have := HJ12.out; have := HK2.out; omega
             case rel => exact ⟨(wrap64 (x20_2 + 1)), (by first | rfl | (simp; done) | (simp [*]; done) | (simp; rfl) | (simp; decide +kernel)), H', ⟨by have := HJ12.out; have := HK2.out; omega⟩, ⟨by (with_reducible repeat (first | apply Kd.R_alloc | apply Kd.R_drewN | apply Kd.R_drew)); exact HO_0.out⟩, ⟨by (with_reducible repeat (first | apply Kd.R_alloc | apply Kd.R_drewN | apply Kd.R_drew)); exact HO_18.out⟩, ⟨by exact B581.out⟩, ⟨by exact B629.out⟩, ⟨by exact B655.out⟩, ⟨by exact B679.out⟩, ⟨by repeat (first | (with_reducible first | exact HB.out | apply below_alloc | apply pw_below_drewN | apply below_drew1 | refine below_set ?_ GE581.out | refine below_set ?_ GE629.out | refine below_set ?_ GE655.out | refine below_set ?_ GE679.out) | exact HB.out)⟩⟩
           ·rw [if_neg c48] at H
            have c48b0 : decide (x20_2 < t677) = false := decide_eq_false c48
            clear c48
            have H' := Aside0.mk H
            clear H
            obtain ⟨Ao54, co54, eo54⟩ := Kd.R_slice HO_18.out
            subst eo54
            try go_wp2
            have n0_ := Aside0.mk (Kd.R_drew HO_0.out)
            have n1_ := Aside0.mk (Kd.R_drew HO_18.out)
            have n2_ := Aside0.mk (blk_drew B581.out)
            have n3_ := Aside0.mk (blk_drew B629.out)
            have n4_ := Aside0.mk (blk_drew B655.out)
            have n5_ := Aside0.mk (blk_drew B679.out)
            have n6_ := Aside0.mk (below_drew1 HB.out)
            clear HO_0
            clear HO_18
            clear B581
            clear B629
            clear B655
            clear B679
            clear HB
            have HO_0 := n0_
            have HO_18 := n1_
            have B581 := n2_
            have B629 := n3_
            have B655 := n4_
            have B679 := n5_
            have HB := n6_
            clear n0_ n1_ n2_ n3_ n4_ n5_ n6_
            have p685 : 0 ≤ (x20_2 : Int) := of_decide_eq_true (by first | (with_reducible assumption) | assumption)
            have q685 : x20_2 < (t680.length : Int) := of_decide_eq_true (by first | (with_reducible assumption) | assumption)
            obtain ⟨ad685, e685, hx685_0, hx685_1, hx685_2, hx685_3, hx685_4, hx685_5, hx685_6, hx685_7, hx685_8, hx685_9, hx685_10, hx685_11, hx685_12, hx685_13, hx685_14, hx685_15, hx685_16, hx685_17, hx685_18, hx685_19, hx685_20⟩ := at_T26 (Kd.R_reads' HO_18.out).2.2 x20_2 p685 q685
            cases e685
            replace p685 := eq_true p685
            replace q685 := eq_true q685
            refine start_ (n := 24) (S := fun w' => w'.cell? ⟨g679, 0, none⟩ = some (.int .i64 t656) ∧ w'.cell? ⟨g679, 1, none⟩ = some (.int .u8 t657) ∧ w'.cell? ⟨g679, 2, none⟩ = some (.int .u8 t658) ∧ w'.cell? ⟨g679, 3, none⟩ = some (.int .u8 t659) ∧ w'.cell? ⟨g679, 4, none⟩ = some (.int .u8 t660) ∧ w'.cell? ⟨g679, 5, none⟩ = some (.int .u8 t661) ∧ w'.cell? ⟨g679, 6, none⟩ = some (.int .u8 t662) ∧ w'.cell? ⟨g679, 7, none⟩ = some (.int .u8 t663) ∧ w'.cell? ⟨g679, 8, none⟩ = some (.int .u8 t664) ∧ w'.cell? ⟨g679, 9, none⟩ = some (.int .u8 t665) ∧ w'.cell? ⟨g679, 10, none⟩ = some (.int .u8 t666) ∧ w'.cell? ⟨g679, 11, none⟩ = some (.int .u8 t667) ∧ w'.cell? ⟨g679, 12, none⟩ = some (.int .u8 t668) ∧ w'.cell? ⟨g679, 13, none⟩ = some (.int .u8 t669) ∧ w'.cell? ⟨g679, 14, none⟩ = some (.int .u8 t670) ∧ w'.cell? ⟨g679, 15, none⟩ = some (.int .u8 t671) ∧ w'.cell? ⟨g679, 16, none⟩ = some (.int .u8 t672) ∧ w'.cell? ⟨g679, 17, none⟩ = some (.int .u8 t673) ∧ w'.cell? ⟨g679, 18, none⟩ = some (.int .u8 t674) ∧ w'.cell? ⟨g679, 19, none⟩ = some (.int .u8 t675) ∧ w'.cell? ⟨g679, 20, none⟩ = some (.int .u8 t676) ∧ w'.cell? (ad685.add ((x20_2).toNat * 21)) = some (.int .i64 ((rd_T26 t680 x20_2).f0)) ∧ w'.cell? ⟨(ad685.add ((x20_2).toNat * 21)).block, (ad685.add ((x20_2).toNat * 21)).off + 1, none⟩ = some (.int .u8 ((rd_T26 t680 x20_2).f1.f0)) ∧ w'.cell? ⟨(ad685.add ((x20_2).toNat * 21)).block, (ad685.add ((x20_2).toNat * 21)).off + 2, none⟩ = some (.int .u8 ((rd_T26 t680 x20_2).f1.f1)) ∧ w'.cell? ⟨(ad685.add ((x20_2).toNat * 21)).block, (ad685.add ((x20_2).toNat * 21)).off + 3, none⟩ = some (.int .u8 ((rd_T26 t680 x20_2).f1.f2)) ∧ w'.cell? ⟨(ad685.add ((x20_2).toNat * 21)).block, (ad685.add ((x20_2).toNat * 21)).off + 4, none⟩ = some (.int .u8 ((rd_T26 t680 x20_2).f1.f3)) ∧ w'.cell? ⟨(ad685.add ((x20_2).toNat * 21)).block, (ad685.add ((x20_2).toNat * 21)).off + 5, none⟩ = some (.int .u8 ((rd_T26 t680 x20_2).f2.f0)) ∧ w'.cell? ⟨(ad685.add ((x20_2).toNat * 21)).block, (ad685.add ((x20_2).toNat * 21)).off + 6, none⟩ = some (.int .u8 ((rd_T26 t680 x20_2).f2.f1)) ∧ w'.cell? ⟨(ad685.add ((x20_2).toNat * 21)).block, (ad685.add ((x20_2).toNat * 21)).off + 7, none⟩ = some (.int .u8 ((rd_T26 t680 x20_2).f2.f2)) ∧ w'.cell? ⟨(ad685.add ((x20_2).toNat * 21)).block, (ad685.add ((x20_2).toNat * 21)).off + 8, none⟩ = some (.int .u8 ((rd_T26 t680 x20_2).f2.f3)) ∧ w'.cell? ⟨(ad685.add ((x20_2).toNat * 21)).block, (ad685.add ((x20_2).toNat * 21)).off + 9, none⟩ = some (.int .u8 ((rd_T26 t680 x20_2).f2.f4)) ∧ w'.cell? ⟨(ad685.add ((x20_2).toNat * 21)).block, (ad685.add ((x20_2).toNat * 21)).off + 10, none⟩ = some (.int .u8 ((rd_T26 t680 x20_2).f2.f5)) ∧ w'.cell? ⟨(ad685.add ((x20_2).toNat * 21)).block, (ad685.add ((x20_2).toNat * 21)).off + 11, none⟩ = some (.int .u8 ((rd_T26 t680 x20_2).f2.f6)) ∧ w'.cell? ⟨(ad685.add ((x20_2).toNat * 21)).block, (ad685.add ((x20_2).toNat * 21)).off + 12, none⟩ = some (.int .u8 ((rd_T26 t680 x20_2).f2.f7)) ∧ w'.cell? ⟨(ad685.add ((x20_2).toNat * 21)).block, (ad685.add ((x20_2).toNat * 21)).off + 13, none⟩ = some (.int .u8 ((rd_T26 t680 x20_2).f2.f8)) ∧ w'.cell? ⟨(ad685.add ((x20_2).toNat * 21)).block, (ad685.add ((x20_2).toNat * 21)).off + 14, none⟩ = some (.int .u8 ((rd_T26 t680 x20_2).f2.f9)) ∧ w'.cell? ⟨(ad685.add ((x20_2).toNat * 21)).block, (ad685.add ((x20_2).toNat * 21)).off + 15, none⟩ = some (.int .u8 ((rd_T26 t680 x20_2).f2.f10)) ∧ w'.cell? ⟨(ad685.add ((x20_2).toNat * 21)).block, (ad685.add ((x20_2).toNat * 21)).off + 16, none⟩ = some (.int .u8 ((rd_T26 t680 x20_2).f2.f11)) ∧ w'.cell? ⟨(ad685.add ((x20_2).toNat * 21)).block, (ad685.add ((x20_2).toNat * 21)).off + 17, none⟩ = some (.int .u8 ((rd_T26 t680 x20_2).f2.f12)) ∧ w'.cell? ⟨(ad685.add ((x20_2).toNat * 21)).block, (ad685.add ((x20_2).toNat * 21)).off + 18, none⟩ = some (.int .u8 ((rd_T26 t680 x20_2).f2.f13)) ∧ w'.cell? ⟨(ad685.add ((x20_2).toNat * 21)).block, (ad685.add ((x20_2).toNat * 21)).off + 19, none⟩ = some (.int .u8 ((rd_T26 t680 x20_2).f2.f14)) ∧ w'.cell? ⟨(ad685.add ((x20_2).toNat * 21)).block, (ad685.add ((x20_2).toNat * 21)).off + 20, none⟩ = some (.int .u8 ((rd_T26 t680 x20_2).f2.f15))) (ds := []) z5_0_ (by kernel_rfl) rfl rfl ⟨bq_ B679 0, bq_ B679 1, bq_ B679 2, bq_ B679 3, bq_ B679 4, bq_ B679 5, bq_ B679 6, bq_ B679 7, bq_ B679 8, bq_ B679 9, bq_ B679 10, bq_ B679 11, bq_ B679 12, bq_ B679 13, bq_ B679 14, bq_ B679 15, bq_ B679 16, bq_ B679 17, bq_ B679 18, bq_ B679 19, bq_ B679 20, hx685_0, hx685_1, hx685_2, hx685_3, hx685_4, hx685_5, hx685_6, hx685_7, hx685_8, hx685_9, hx685_10, hx685_11, hx685_12, hx685_13, hx685_14, hx685_15, hx685_16, hx685_17, hx685_18, hx685_19, hx685_20⟩ (fun hL => ?_); refine with_tabW attestorlaw28_MachineParts.tab14 attestorlaw28_MachineParts.bits14 (fun T_ W_ => ?_)
            generalize wr.drew = w55 at HO_0 HO_18 B581 B629 B655 B679 HB hx685_0 hx685_1 hx685_10 hx685_11 hx685_12 hx685_13 hx685_14 hx685_15 hx685_16 hx685_17 hx685_18 hx685_19 hx685_2 hx685_20 hx685_3 hx685_4 hx685_5 hx685_6 hx685_7 hx685_8 hx685_9 hL ⊢
            refine pure_ (i := 0) (N := some 146) (v := ?_) (a' := ?_) z5_1_ rfl rfl (an_ T_) (fun _ _ _ h => h) (Or.inl ⟨by rfl, ?_⟩) ?_ ?_
            rotate_left; · intro w'; go_simp; with_reducible rfl
            rotate_left; · simp only [Act.put, sa_, sb_, sc_, i64_w, i32_w]; rfl
            refine pure_ (i := 1) (N := some 147) (v := ?_) (a' := ?_) z5_2_ rfl rfl (an_ T_) (fun _ _ _ h => h) (Or.inl ⟨by rfl, ?_⟩) ?_ ?_
            rotate_left; · intro w'; go_simp; with_reducible rfl
            rotate_left; · simp only [Act.put, sa_, sb_, sc_, i64_w, i32_w]; rfl
            refine pure_ (i := 2) (N := some 148) (v := ?_) (a' := ?_) z5_3_ rfl rfl (an_ T_) (fun _ _ _ h => h) (Or.inl ⟨by rfl, ?_⟩) ?_ ?_
            rotate_left; · intro w'; go_simp; with_reducible rfl
            rotate_left; · simp only [Act.put, sa_, sb_, sc_, i64_w, i32_w]; rfl
            refine pure_ (i := 3) (N := some 149) (v := ?_) (a' := ?_) z5_4_ rfl rfl (an_ T_) (fun _ _ _ h => h) (Or.inl ⟨by rfl, ?_⟩) ?_ ?_
            rotate_left; · intro w'; go_simp; with_reducible rfl
            rotate_left; · simp only [Act.put, sa_, sb_, sc_, i64_w, i32_w]; rfl
            refine pure_ (i := 4) (N := some 150) (v := ?_) (a' := ?_) z5_5_ rfl rfl (an_ T_) (fun _ _ _ h => h) (Or.inl ⟨by rfl, ?_⟩) ?_ ?_
            rotate_left; · intro w'; go_simp; with_reducible rfl
            rotate_left; · simp only [Act.put, sa_, sb_, sc_, i64_w, i32_w]; rfl
            refine pure_ (i := 5) (N := some 151) (v := ?_) (a' := ?_) z5_6_ rfl rfl (an_ T_) (fun _ _ _ h => h) (Or.inl ⟨by rfl, ?_⟩) ?_ ?_
            rotate_left; · intro w'; go_simp; with_reducible rfl
            rotate_left; · simp only [Act.put, sa_, sb_, sc_, i64_w, i32_w]; rfl
            refine pure_ (i := 6) (N := some 152) (v := ?_) (a' := ?_) z5_7_ rfl rfl (an_ T_) (fun _ _ _ h => h) (Or.inl ⟨by rfl, ?_⟩) ?_ ?_
            rotate_left; · intro w'; go_simp; with_reducible rfl
            rotate_left; · simp only [Act.put, sa_, sb_, sc_, i64_w, i32_w]; rfl
            refine take_ (i := 7) (N := some 153) (v := ?_) (a' := ?_) z5_8_ rfl rfl (tk_ T_ W_) (fun _ _ _ h => h) (Or.inl ⟨by rfl, ?_⟩) hL ?_ ?_
            rotate_left
            ·rintro w' ⟨s0, s1, s2, s3, s4, s5, s6, s7, s8, s9, s10, s11, s12, s13, s14, s15, s16, s17, s18, s19, s20, s21, s22, s23, s24, s25, s26, s27, s28, s29, s30, s31, s32, s33, s34, s35, s36, s37, s38, s39, s40, s41⟩
             refine Eq.trans (run_load_at (ty := 26) (p := .tmp 152) (ad := (ad685.add ((x20_2).toNat * 21))) (cs := [.int .i64 ((rd_T26 t680 x20_2).f0), .int .u8 ((rd_T26 t680 x20_2).f1.f0), .int .u8 ((rd_T26 t680 x20_2).f1.f1), .int .u8 ((rd_T26 t680 x20_2).f1.f2), .int .u8 ((rd_T26 t680 x20_2).f1.f3), .int .u8 ((rd_T26 t680 x20_2).f2.f0), .int .u8 ((rd_T26 t680 x20_2).f2.f1), .int .u8 ((rd_T26 t680 x20_2).f2.f2), .int .u8 ((rd_T26 t680 x20_2).f2.f3), .int .u8 ((rd_T26 t680 x20_2).f2.f4), .int .u8 ((rd_T26 t680 x20_2).f2.f5), .int .u8 ((rd_T26 t680 x20_2).f2.f6), .int .u8 ((rd_T26 t680 x20_2).f2.f7), .int .u8 ((rd_T26 t680 x20_2).f2.f8), .int .u8 ((rd_T26 t680 x20_2).f2.f9), .int .u8 ((rd_T26 t680 x20_2).f2.f10), .int .u8 ((rd_T26 t680 x20_2).f2.f11), .int .u8 ((rd_T26 t680 x20_2).f2.f12), .int .u8 ((rd_T26 t680 x20_2).f2.f13), .int .u8 ((rd_T26 t680 x20_2).f2.f14), .int .u8 ((rd_T26 t680 x20_2).f2.f15)]) (by rfl) (by rfl) Tryd.underlying26 rfl (by kernel_rfl) (ca_cons (show _ from s21) (ca_cons (ca_off s22 (by decide)) (ca_cons (ca_off s23 (by decide)) (ca_cons (ca_off s24 (by decide)) (ca_cons (ca_off s25 (by decide)) (ca_cons (ca_off s26 (by decide)) (ca_cons (ca_off s27 (by decide)) (ca_cons (ca_off s28 (by decide)) (ca_cons (ca_off s29 (by decide)) (ca_cons (ca_off s30 (by decide)) (ca_cons (ca_off s31 (by decide)) (ca_cons (ca_off s32 (by decide)) (ca_cons (ca_off s33 (by decide)) (ca_cons (ca_off s34 (by decide)) (ca_cons (ca_off s35 (by decide)) (ca_cons (ca_off s36 (by decide)) (ca_cons (ca_off s37 (by decide)) (ca_cons (ca_off s38 (by decide)) (ca_cons (ca_off s39 (by decide)) (ca_cons (ca_off s40 (by decide)) (ca_cons (ca_off s41 (by decide)) (ca_nil _ _ _))))))))))))))))))))))) ?_
             with_reducible rfl
            rotate_left
            ·simp only [Act.put, sa_, sb_, sc_, i64_w, i32_w]
             rfl
            refine take_ (i := 8) (N := some 154) (v := ?_) (a' := ?_) z5_9_ rfl rfl (tk_ T_ W_) (fun _ _ _ h => h) (Or.inl ⟨by rfl, ?_⟩) hL ?_ ?_
            rotate_left
            ·rintro w' ⟨s0, s1, s2, s3, s4, s5, s6, s7, s8, s9, s10, s11, s12, s13, s14, s15, s16, s17, s18, s19, s20, s21, s22, s23, s24, s25, s26, s27, s28, s29, s30, s31, s32, s33, s34, s35, s36, s37, s38, s39, s40, s41⟩
             refine Eq.trans (load_cells_run (ty := 26) (p := .tmp 15) (g := g679) (cs := #[.int .i64 t656, .int .u8 t657, .int .u8 t658, .int .u8 t659, .int .u8 t660, .int .u8 t661, .int .u8 t662, .int .u8 t663, .int .u8 t664, .int .u8 t665, .int .u8 t666, .int .u8 t667, .int .u8 t668, .int .u8 t669, .int .u8 t670, .int .u8 t671, .int .u8 t672, .int .u8 t673, .int .u8 t674, .int .u8 t675, .int .u8 t676]) (by rfl) (by rfl) Tryd.underlying26 rfl (by kernel_rfl) (cl_cons s0 (cl_cons s1 (cl_cons s2 (cl_cons s3 (cl_cons s4 (cl_cons s5 (cl_cons s6 (cl_cons s7 (cl_cons s8 (cl_cons s9 (cl_cons s10 (cl_cons s11 (cl_cons s12 (cl_cons s13 (cl_cons s14 (cl_cons s15 (cl_cons s16 (cl_cons s17 (cl_cons s18 (cl_cons s19 (cl_cons s20 (cl_nil _ _ _))))))))))))))))))))))) ?_
             with_reducible rfl
            rotate_left
            ·simp only [Act.put, sa_, sb_, sc_, i64_w, i32_w]
             rfl
            refine pure_ (i := 9) (N := some 155) (v := ?_) (a' := ?_) z5_10_ rfl rfl (an_ T_) (fun _ _ _ h => h) (Or.inl ⟨by rfl, ?_⟩) ?_ ?_
            rotate_left; · intro w'; go_simp; with_reducible rfl
            rotate_left; · simp only [Act.put, sa_, sb_, sc_, i64_w, i32_w]; rfl
            refine pure_ (i := 10) (N := some 156) (v := ?_) (a' := ?_) z5_11_ rfl rfl (an_ T_) (fun _ _ _ h => h) (Or.inl ⟨by rfl, ?_⟩) ?_ ?_
            rotate_left; · intro w'; go_simp; with_reducible rfl
            rotate_left; · simp only [Act.put, sa_, sb_, sc_, i64_w, i32_w]; rfl
            refine pure_ (i := 11) (N := some 157) (v := ?_) (a' := ?_) z5_12_ rfl rfl (an_ T_) (fun _ _ _ h => h) (Or.inl ⟨by rfl, ?_⟩) ?_ ?_
            rotate_left; · intro w'; go_simp; with_reducible rfl
            rotate_left; · simp only [Act.put, sa_, sb_, sc_, i64_w, i32_w]; rfl
            refine pure_ (i := 12) (N := some 158) (v := ?_) (a' := ?_) z5_13_ rfl rfl (an_ T_) (fun _ _ _ h => h) (Or.inl ⟨by rfl, ?_⟩) ?_ ?_
            rotate_left; · intro w'; go_simp; with_reducible rfl
            rotate_left; · simp only [Act.put, sa_, sb_, sc_, i64_w, i32_w]; rfl
            refine pure_ (i := 13) (N := some 159) (v := ?_) (a' := ?_) z5_14_ rfl rfl (an_ T_) (fun _ _ _ h => h) (Or.inl ⟨by rfl, ?_⟩) ?_ ?_
            rotate_left; · intro w'; go_simp; with_reducible rfl
            rotate_left; · simp only [Act.put, sa_, sb_, sc_, i64_w, i32_w]; rfl
            refine pure_ (i := 14) (N := some 160) (v := ?_) (a' := ?_) z5_15_ rfl rfl (an_ T_) (fun _ _ _ h => h) (Or.inl ⟨by rfl, ?_⟩) ?_ ?_
            rotate_left; · intro w'; go_simp; with_reducible rfl
            rotate_left; · simp only [Act.put, sa_, sb_, sc_, i64_w, i32_w]; rfl
            refine pure_ (i := 15) (N := some 161) (v := ?_) (a' := ?_) z5_16_ rfl rfl (an_ T_) (fun _ _ _ h => h) (Or.inl ⟨by rfl, ?_⟩) ?_ ?_
            rotate_left; · intro w'; go_simp; with_reducible rfl
            rotate_left; · simp only [Act.put, sa_, sb_, sc_, i64_w, i32_w]; rfl
            refine pure_ (i := 16) (N := some 162) (v := undef) (a' := ?_) z5_17_ rfl rfl (an_ T_) (fun _ _ _ h => h) (Or.inr ⟨by rfl, rfl⟩) ?_ ?_
            rotate_left
            ·simp only [Act.put, sa_, sb_, sc_, i64_w, i32_w]
             rfl
            refine pure_ (i := 17) (N := some 163) (v := undef) (a' := ?_) z5_18_ rfl rfl (an_ T_) (fun _ _ _ h => h) (Or.inr ⟨by rfl, rfl⟩) ?_ ?_
            rotate_left
            ·simp only [Act.put, sa_, sb_, sc_, i64_w, i32_w]
             rfl
            refine pure_ (i := 18) (N := some 164) (v := undef) (a' := ?_) z5_19_ rfl rfl (an_ T_) (fun _ _ _ h => h) (Or.inr ⟨by rfl, rfl⟩) ?_ ?_
            rotate_left
            ·simp only [Act.put, sa_, sb_, sc_, i64_w, i32_w]
             rfl
            refine pure_ (i := 19) (N := some 165) (v := undef) (a' := ?_) z5_20_ rfl rfl (an_ T_) (fun _ _ _ h => h) (Or.inr ⟨by rfl, rfl⟩) ?_ ?_
            rotate_left
            ·simp only [Act.put, sa_, sb_, sc_, i64_w, i32_w]
             rfl
            refine pure_ (i := 20) (N := some 166) (v := undef) (a' := ?_) z5_21_ rfl rfl (an_ T_) (fun _ _ _ h => h) (Or.inr ⟨by rfl, rfl⟩) ?_ ?_
            rotate_left
            ·simp only [Act.put, sa_, sb_, sc_, i64_w, i32_w]
             rfl
            refine pure_ (i := 21) (N := some 167) (v := undef) (a' := ?_) z5_22_ rfl rfl (an_ T_) (fun _ _ _ h => h) (Or.inr ⟨by rfl, rfl⟩) ?_ ?_
            rotate_left
            ·simp only [Act.put, sa_, sb_, sc_, i64_w, i32_w]
             rfl
            refine pure_ (i := 22) (N := some 168) (v := ?_) (a' := ?_) z5_23_ rfl rfl (an_ T_) (fun _ _ _ h => h) (Or.inl ⟨by rfl, ?_⟩) ?_ ?_
            rotate_left; · intro w'; go_simp; with_reducible rfl
            rotate_left; · simp only [Act.put, sa_, sb_, sc_, i64_w, i32_w]; rfl
            refine pure_ (i := 23) (N := some 169) (v := ?_) (a' := ?_) z5_24_ rfl rfl (an_ T_) (fun _ _ _ h => h) (Or.inl ⟨by rfl, ?_⟩) ?_ ?_
            rotate_left; · intro w'; go_simp; with_reducible rfl
            rotate_left; · simp only [Act.put, sa_, sb_, sc_, i64_w, i32_w]; rfl
            refine done_ (done_of T_.out (by kernel_rfl)) ?_
            try go_wp2
            go_roundg k2
            case measure => have := HJ12.out; have := HK2.out; omega
            case rel => exact ⟨(wrap64 (x20_2 + 1)), (by first | rfl | (simp; done) | (simp [*]; done) | (simp; rfl) | (simp; decide +kernel)), H', ⟨by have := HJ12.out; have := HK2.out; omega⟩, ⟨by (with_reducible repeat (first | apply Kd.R_alloc | apply Kd.R_drewN | apply Kd.R_drew)); exact HO_0.out⟩, ⟨by (with_reducible repeat (first | apply Kd.R_alloc | apply Kd.R_drewN | apply Kd.R_drew)); exact HO_18.out⟩, ⟨by exact B581.out⟩, ⟨by exact B629.out⟩, ⟨by exact B655.out⟩, ⟨by exact B679.out⟩, ⟨by repeat (first | (with_reducible first | exact HB.out | apply below_alloc | apply pw_below_drewN | apply below_drew1 | refine below_set ?_ GE581.out | refine below_set ?_ GE629.out | refine below_set ?_ GE655.out | refine below_set ?_ GE679.out) | exact HB.out)⟩⟩
         ·rw [if_neg c46] at H
          exact absurd H (by simp)
        ·rw [if_neg c45] at H
         have c45b0 : decide (t677 ≤ x20_2) = false := decide_eq_false c45
         clear c45
         by_cases c56 : x20_2 < t677
         ·rw [if_pos c56] at H
          have c56b0 : decide (x20_2 < t677) = true := decide_eq_true c56
          clear c56
          by_cases c57 : 0 ≤ x20_2
          ·rw [if_pos c57] at H
           have c57b0 : decide (0 ≤ x20_2) = true := decide_eq_true c57
           clear c57
           replace H := Option.bind_eq_some_iff.mp H
           obtain ⟨t689, A580, H⟩ := H
           have A58 := Aside0.mk A580
           clear A580
           by_cases c59 : t689 = true
           ·subst c59
            have H1 : (none) = some r := by rw [if_pos rfl] at H; exact H
            clear H
            have H := H1
            clear H1
            exact absurd H (by simp)
           ·replace c59 := Bool.eq_false_iff.mpr c59
            subst c59
            have H1 : (attestorlaw28_MachineParts.l0 k2 t582 t627 t677 t680 (wrap64 (x20_2 + 1)) t606 t607 t608 t609 t610 t611 t612 t613 t614 t615 t616 t617 t618 t619 t620 t621 t622 t623 t624 t625 t626 t656 t657 t658 t659 t660 t661 t662 t663 t664 t665 t666 t667 t668 t669 t670 t671 t672 t673 t674 t675 t676) = some r := by rw [if_neg (show ¬ (false = true) by decide)] at H; exact H
            clear H
            have H := H1
            clear H1
            have H' := Aside0.mk H
            clear H
            obtain ⟨Ao60, co60, eo60⟩ := Kd.R_slice HO_18.out
            subst eo60
            try go_wp2
            have n0_ := Aside0.mk (Kd.R_drew HO_0.out)
            have n1_ := Aside0.mk (Kd.R_drew HO_18.out)
            have n2_ := Aside0.mk (blk_drew B581.out)
            have n3_ := Aside0.mk (blk_drew B629.out)
            have n4_ := Aside0.mk (blk_drew B655.out)
            have n5_ := Aside0.mk (blk_drew B679.out)
            have n6_ := Aside0.mk (below_drew1 HB.out)
            clear HO_0
            clear HO_18
            clear B581
            clear B629
            clear B655
            clear B679
            clear HB
            have HO_0 := n0_
            have HO_18 := n1_
            have B581 := n2_
            have B629 := n3_
            have B655 := n4_
            have B679 := n5_
            have HB := n6_
            clear n0_ n1_ n2_ n3_ n4_ n5_ n6_
            have p688 : 0 ≤ (x20_2 : Int) := of_decide_eq_true (by first | (with_reducible assumption) | assumption)
            have q688 : x20_2 < (t680.length : Int) := of_decide_eq_true (by first | (with_reducible assumption) | assumption)
            obtain ⟨ad688, e688, hx688_0, hx688_1, hx688_2, hx688_3, hx688_4, hx688_5, hx688_6, hx688_7, hx688_8, hx688_9, hx688_10, hx688_11, hx688_12, hx688_13, hx688_14, hx688_15, hx688_16, hx688_17, hx688_18, hx688_19, hx688_20⟩ := at_T26 (Kd.R_reads' HO_18.out).2.2 x20_2 p688 q688
            cases e688
            replace p688 := eq_true p688
            replace q688 := eq_true q688
            refine start_ (n := 24) (S := fun w' => w'.cell? (ad688.add ((x20_2).toNat * 21)) = some (.int .i64 ((rd_T26 t680 x20_2).f0)) ∧ w'.cell? ⟨(ad688.add ((x20_2).toNat * 21)).block, (ad688.add ((x20_2).toNat * 21)).off + 1, none⟩ = some (.int .u8 ((rd_T26 t680 x20_2).f1.f0)) ∧ w'.cell? ⟨(ad688.add ((x20_2).toNat * 21)).block, (ad688.add ((x20_2).toNat * 21)).off + 2, none⟩ = some (.int .u8 ((rd_T26 t680 x20_2).f1.f1)) ∧ w'.cell? ⟨(ad688.add ((x20_2).toNat * 21)).block, (ad688.add ((x20_2).toNat * 21)).off + 3, none⟩ = some (.int .u8 ((rd_T26 t680 x20_2).f1.f2)) ∧ w'.cell? ⟨(ad688.add ((x20_2).toNat * 21)).block, (ad688.add ((x20_2).toNat * 21)).off + 4, none⟩ = some (.int .u8 ((rd_T26 t680 x20_2).f1.f3)) ∧ w'.cell? ⟨(ad688.add ((x20_2).toNat * 21)).block, (ad688.add ((x20_2).toNat * 21)).off + 5, none⟩ = some (.int .u8 ((rd_T26 t680 x20_2).f2.f0)) ∧ w'.cell? ⟨(ad688.add ((x20_2).toNat * 21)).block, (ad688.add ((x20_2).toNat * 21)).off + 6, none⟩ = some (.int .u8 ((rd_T26 t680 x20_2).f2.f1)) ∧ w'.cell? ⟨(ad688.add ((x20_2).toNat * 21)).block, (ad688.add ((x20_2).toNat * 21)).off + 7, none⟩ = some (.int .u8 ((rd_T26 t680 x20_2).f2.f2)) ∧ w'.cell? ⟨(ad688.add ((x20_2).toNat * 21)).block, (ad688.add ((x20_2).toNat * 21)).off + 8, none⟩ = some (.int .u8 ((rd_T26 t680 x20_2).f2.f3)) ∧ w'.cell? ⟨(ad688.add ((x20_2).toNat * 21)).block, (ad688.add ((x20_2).toNat * 21)).off + 9, none⟩ = some (.int .u8 ((rd_T26 t680 x20_2).f2.f4)) ∧ w'.cell? ⟨(ad688.add ((x20_2).toNat * 21)).block, (ad688.add ((x20_2).toNat * 21)).off + 10, none⟩ = some (.int .u8 ((rd_T26 t680 x20_2).f2.f5)) ∧ w'.cell? ⟨(ad688.add ((x20_2).toNat * 21)).block, (ad688.add ((x20_2).toNat * 21)).off + 11, none⟩ = some (.int .u8 ((rd_T26 t680 x20_2).f2.f6)) ∧ w'.cell? ⟨(ad688.add ((x20_2).toNat * 21)).block, (ad688.add ((x20_2).toNat * 21)).off + 12, none⟩ = some (.int .u8 ((rd_T26 t680 x20_2).f2.f7)) ∧ w'.cell? ⟨(ad688.add ((x20_2).toNat * 21)).block, (ad688.add ((x20_2).toNat * 21)).off + 13, none⟩ = some (.int .u8 ((rd_T26 t680 x20_2).f2.f8)) ∧ w'.cell? ⟨(ad688.add ((x20_2).toNat * 21)).block, (ad688.add ((x20_2).toNat * 21)).off + 14, none⟩ = some (.int .u8 ((rd_T26 t680 x20_2).f2.f9)) ∧ w'.cell? ⟨(ad688.add ((x20_2).toNat * 21)).block, (ad688.add ((x20_2).toNat * 21)).off + 15, none⟩ = some (.int .u8 ((rd_T26 t680 x20_2).f2.f10)) ∧ w'.cell? ⟨(ad688.add ((x20_2).toNat * 21)).block, (ad688.add ((x20_2).toNat * 21)).off + 16, none⟩ = some (.int .u8 ((rd_T26 t680 x20_2).f2.f11)) ∧ w'.cell? ⟨(ad688.add ((x20_2).toNat * 21)).block, (ad688.add ((x20_2).toNat * 21)).off + 17, none⟩ = some (.int .u8 ((rd_T26 t680 x20_2).f2.f12)) ∧ w'.cell? ⟨(ad688.add ((x20_2).toNat * 21)).block, (ad688.add ((x20_2).toNat * 21)).off + 18, none⟩ = some (.int .u8 ((rd_T26 t680 x20_2).f2.f13)) ∧ w'.cell? ⟨(ad688.add ((x20_2).toNat * 21)).block, (ad688.add ((x20_2).toNat * 21)).off + 19, none⟩ = some (.int .u8 ((rd_T26 t680 x20_2).f2.f14)) ∧ w'.cell? ⟨(ad688.add ((x20_2).toNat * 21)).block, (ad688.add ((x20_2).toNat * 21)).off + 20, none⟩ = some (.int .u8 ((rd_T26 t680 x20_2).f2.f15))) (ds := []) z5_0_ (by kernel_rfl) rfl rfl ⟨hx688_0, hx688_1, hx688_2, hx688_3, hx688_4, hx688_5, hx688_6, hx688_7, hx688_8, hx688_9, hx688_10, hx688_11, hx688_12, hx688_13, hx688_14, hx688_15, hx688_16, hx688_17, hx688_18, hx688_19, hx688_20⟩ (fun hL => ?_); refine with_tabW attestorlaw28_MachineParts.tab14 attestorlaw28_MachineParts.bits14 (fun T_ W_ => ?_)
            generalize wr.drew = w61 at HO_0 HO_18 B581 B629 B655 B679 HB hx688_0 hx688_1 hx688_10 hx688_11 hx688_12 hx688_13 hx688_14 hx688_15 hx688_16 hx688_17 hx688_18 hx688_19 hx688_2 hx688_20 hx688_3 hx688_4 hx688_5 hx688_6 hx688_7 hx688_8 hx688_9 hL ⊢
            refine pure_ (i := 0) (N := some 146) (v := ?_) (a' := ?_) z5_1_ rfl rfl (an_ T_) (fun _ _ _ h => h) (Or.inl ⟨by rfl, ?_⟩) ?_ ?_
            rotate_left; · intro w'; go_simp; with_reducible rfl
            rotate_left; · simp only [Act.put, sa_, sb_, sc_, i64_w, i32_w]; rfl
            refine pure_ (i := 1) (N := some 147) (v := ?_) (a' := ?_) z5_2_ rfl rfl (an_ T_) (fun _ _ _ h => h) (Or.inl ⟨by rfl, ?_⟩) ?_ ?_
            rotate_left; · intro w'; go_simp; with_reducible rfl
            rotate_left; · simp only [Act.put, sa_, sb_, sc_, i64_w, i32_w]; rfl
            refine pure_ (i := 2) (N := some 148) (v := ?_) (a' := ?_) z5_3_ rfl rfl (an_ T_) (fun _ _ _ h => h) (Or.inl ⟨by rfl, ?_⟩) ?_ ?_
            rotate_left; · intro w'; go_simp; with_reducible rfl
            rotate_left; · simp only [Act.put, sa_, sb_, sc_, i64_w, i32_w]; rfl
            refine pure_ (i := 3) (N := some 149) (v := ?_) (a' := ?_) z5_4_ rfl rfl (an_ T_) (fun _ _ _ h => h) (Or.inl ⟨by rfl, ?_⟩) ?_ ?_
            rotate_left; · intro w'; go_simp; with_reducible rfl
            rotate_left; · simp only [Act.put, sa_, sb_, sc_, i64_w, i32_w]; rfl
            refine pure_ (i := 4) (N := some 150) (v := undef) (a' := ?_) z5_5_ rfl rfl (an_ T_) (fun _ _ _ h => h) (Or.inr ⟨by rfl, rfl⟩) ?_ ?_
            rotate_left
            ·simp only [Act.put, sa_, sb_, sc_, i64_w, i32_w]
             rfl
            refine pure_ (i := 5) (N := some 151) (v := undef) (a' := ?_) z5_6_ rfl rfl (an_ T_) (fun _ _ _ h => h) (Or.inr ⟨by rfl, rfl⟩) ?_ ?_
            rotate_left
            ·simp only [Act.put, sa_, sb_, sc_, i64_w, i32_w]
             rfl
            refine pure_ (i := 6) (N := some 152) (v := undef) (a' := ?_) z5_7_ rfl rfl (an_ T_) (fun _ _ _ h => h) (Or.inr ⟨by rfl, rfl⟩) ?_ ?_
            rotate_left
            ·simp only [Act.put, sa_, sb_, sc_, i64_w, i32_w]
             rfl
            refine pure_ (i := 7) (N := some 153) (v := undef) (a' := ?_) z5_8_ rfl rfl (an_ T_) (fun _ _ _ h => h) (Or.inr ⟨by rfl, rfl⟩) ?_ ?_
            rotate_left
            ·simp only [Act.put, sa_, sb_, sc_, i64_w, i32_w]
             rfl
            refine pure_ (i := 8) (N := some 154) (v := undef) (a' := ?_) z5_9_ rfl rfl (an_ T_) (fun _ _ _ h => h) (Or.inr ⟨by rfl, rfl⟩) ?_ ?_
            rotate_left
            ·simp only [Act.put, sa_, sb_, sc_, i64_w, i32_w]
             rfl
            refine pure_ (i := 9) (N := some 155) (v := undef) (a' := ?_) z5_10_ rfl rfl (an_ T_) (fun _ _ _ h => h) (Or.inr ⟨by rfl, rfl⟩) ?_ ?_
            rotate_left
            ·simp only [Act.put, sa_, sb_, sc_, i64_w, i32_w]
             rfl
            refine pure_ (i := 10) (N := some 156) (v := ?_) (a' := ?_) z5_11_ rfl rfl (an_ T_) (fun _ _ _ h => h) (Or.inl ⟨by rfl, ?_⟩) ?_ ?_
            rotate_left; · intro w'; go_simp; with_reducible rfl
            rotate_left; · simp only [Act.put, sa_, sb_, sc_, i64_w, i32_w]; rfl
            refine pure_ (i := 11) (N := some 157) (v := ?_) (a' := ?_) z5_12_ rfl rfl (an_ T_) (fun _ _ _ h => h) (Or.inl ⟨by rfl, ?_⟩) ?_ ?_
            rotate_left; · intro w'; go_simp; with_reducible rfl
            rotate_left; · simp only [Act.put, sa_, sb_, sc_, i64_w, i32_w]; rfl
            refine pure_ (i := 12) (N := some 158) (v := ?_) (a' := ?_) z5_13_ rfl rfl (an_ T_) (fun _ _ _ h => h) (Or.inl ⟨by rfl, ?_⟩) ?_ ?_
            rotate_left; · intro w'; go_simp; with_reducible rfl
            rotate_left; · simp only [Act.put, sa_, sb_, sc_, i64_w, i32_w]; rfl
            refine pure_ (i := 13) (N := some 159) (v := ?_) (a' := ?_) z5_14_ rfl rfl (an_ T_) (fun _ _ _ h => h) (Or.inl ⟨by rfl, ?_⟩) ?_ ?_
            rotate_left; · intro w'; go_simp; with_reducible rfl
            rotate_left; · simp only [Act.put, sa_, sb_, sc_, i64_w, i32_w]; rfl
            refine pure_ (i := 14) (N := some 160) (v := ?_) (a' := ?_) z5_15_ rfl rfl (an_ T_) (fun _ _ _ h => h) (Or.inl ⟨by rfl, ?_⟩) ?_ ?_
            rotate_left; · intro w'; go_simp; with_reducible rfl
            rotate_left; · simp only [Act.put, sa_, sb_, sc_, i64_w, i32_w]; rfl
            refine pure_ (i := 15) (N := some 161) (v := ?_) (a' := ?_) z5_16_ rfl rfl (an_ T_) (fun _ _ _ h => h) (Or.inl ⟨by rfl, ?_⟩) ?_ ?_
            rotate_left; · intro w'; go_simp; with_reducible rfl
            rotate_left; · simp only [Act.put, sa_, sb_, sc_, i64_w, i32_w]; rfl
            refine pure_ (i := 16) (N := some 162) (v := ?_) (a' := ?_) z5_17_ rfl rfl (an_ T_) (fun _ _ _ h => h) (Or.inl ⟨by rfl, ?_⟩) ?_ ?_
            rotate_left; · intro w'; go_simp; with_reducible rfl
            rotate_left; · simp only [Act.put, sa_, sb_, sc_, i64_w, i32_w]; rfl
            refine pure_ (i := 17) (N := some 163) (v := ?_) (a' := ?_) z5_18_ rfl rfl (an_ T_) (fun _ _ _ h => h) (Or.inl ⟨by rfl, ?_⟩) ?_ ?_
            rotate_left; · intro w'; go_simp; with_reducible rfl
            rotate_left; · simp only [Act.put, sa_, sb_, sc_, i64_w, i32_w]; rfl
            refine pure_ (i := 18) (N := some 164) (v := ?_) (a' := ?_) z5_19_ rfl rfl (an_ T_) (fun _ _ _ h => h) (Or.inl ⟨by rfl, ?_⟩) ?_ ?_
            rotate_left; · intro w'; go_simp; with_reducible rfl
            rotate_left; · simp only [Act.put, sa_, sb_, sc_, i64_w, i32_w]; rfl
            refine pure_ (i := 19) (N := some 165) (v := ?_) (a' := ?_) z5_20_ rfl rfl (an_ T_) (fun _ _ _ h => h) (Or.inl ⟨by rfl, ?_⟩) ?_ ?_
            rotate_left; · intro w'; go_simp; with_reducible rfl
            rotate_left; · simp only [Act.put, sa_, sb_, sc_, i64_w, i32_w]; rfl
            refine take_ (i := 20) (N := some 166) (v := ?_) (a' := ?_) z5_21_ rfl rfl (tk_ T_ W_) (fun _ _ _ h => h) (Or.inl ⟨by rfl, ?_⟩) hL ?_ ?_
            rotate_left
            ·rintro w' ⟨s0, s1, s2, s3, s4, s5, s6, s7, s8, s9, s10, s11, s12, s13, s14, s15, s16, s17, s18, s19, s20⟩
             refine Eq.trans (run_load_at (ty := 26) (p := .tmp 165) (ad := (ad688.add ((x20_2).toNat * 21))) (cs := [.int .i64 ((rd_T26 t680 x20_2).f0), .int .u8 ((rd_T26 t680 x20_2).f1.f0), .int .u8 ((rd_T26 t680 x20_2).f1.f1), .int .u8 ((rd_T26 t680 x20_2).f1.f2), .int .u8 ((rd_T26 t680 x20_2).f1.f3), .int .u8 ((rd_T26 t680 x20_2).f2.f0), .int .u8 ((rd_T26 t680 x20_2).f2.f1), .int .u8 ((rd_T26 t680 x20_2).f2.f2), .int .u8 ((rd_T26 t680 x20_2).f2.f3), .int .u8 ((rd_T26 t680 x20_2).f2.f4), .int .u8 ((rd_T26 t680 x20_2).f2.f5), .int .u8 ((rd_T26 t680 x20_2).f2.f6), .int .u8 ((rd_T26 t680 x20_2).f2.f7), .int .u8 ((rd_T26 t680 x20_2).f2.f8), .int .u8 ((rd_T26 t680 x20_2).f2.f9), .int .u8 ((rd_T26 t680 x20_2).f2.f10), .int .u8 ((rd_T26 t680 x20_2).f2.f11), .int .u8 ((rd_T26 t680 x20_2).f2.f12), .int .u8 ((rd_T26 t680 x20_2).f2.f13), .int .u8 ((rd_T26 t680 x20_2).f2.f14), .int .u8 ((rd_T26 t680 x20_2).f2.f15)]) (by rfl) (by rfl) Tryd.underlying26 rfl (by kernel_rfl) (ca_cons (show _ from s0) (ca_cons (ca_off s1 (by decide)) (ca_cons (ca_off s2 (by decide)) (ca_cons (ca_off s3 (by decide)) (ca_cons (ca_off s4 (by decide)) (ca_cons (ca_off s5 (by decide)) (ca_cons (ca_off s6 (by decide)) (ca_cons (ca_off s7 (by decide)) (ca_cons (ca_off s8 (by decide)) (ca_cons (ca_off s9 (by decide)) (ca_cons (ca_off s10 (by decide)) (ca_cons (ca_off s11 (by decide)) (ca_cons (ca_off s12 (by decide)) (ca_cons (ca_off s13 (by decide)) (ca_cons (ca_off s14 (by decide)) (ca_cons (ca_off s15 (by decide)) (ca_cons (ca_off s16 (by decide)) (ca_cons (ca_off s17 (by decide)) (ca_cons (ca_off s18 (by decide)) (ca_cons (ca_off s19 (by decide)) (ca_cons (ca_off s20 (by decide)) (ca_nil _ _ _))))))))))))))))))))))) ?_
             with_reducible rfl
            rotate_left
            ·simp only [Act.put, sa_, sb_, sc_, i64_w, i32_w]
             rfl
            refine one_ (i := 21) (N := some 167) z5_22_ rfl rfl (on_ T_) (by decide) (fun K hK => ?_)
            refine goes_ Tryd.func16 (by kernel_rfl) rfl #[.slice Ao16 t582.length co16, .agg #[.int .i64 ((rd_T26 t680 x20_2).f0), .int .u8 ((rd_T26 t680 x20_2).f1.f0), .int .u8 ((rd_T26 t680 x20_2).f1.f1), .int .u8 ((rd_T26 t680 x20_2).f1.f2), .int .u8 ((rd_T26 t680 x20_2).f1.f3), .int .u8 ((rd_T26 t680 x20_2).f2.f0), .int .u8 ((rd_T26 t680 x20_2).f2.f1), .int .u8 ((rd_T26 t680 x20_2).f2.f2), .int .u8 ((rd_T26 t680 x20_2).f2.f3), .int .u8 ((rd_T26 t680 x20_2).f2.f4), .int .u8 ((rd_T26 t680 x20_2).f2.f5), .int .u8 ((rd_T26 t680 x20_2).f2.f6), .int .u8 ((rd_T26 t680 x20_2).f2.f7), .int .u8 ((rd_T26 t680 x20_2).f2.f8), .int .u8 ((rd_T26 t680 x20_2).f2.f9), .int .u8 ((rd_T26 t680 x20_2).f2.f10), .int .u8 ((rd_T26 t680 x20_2).f2.f11), .int .u8 ((rd_T26 t680 x20_2).f2.f12), .int .u8 ((rd_T26 t680 x20_2).f2.f13), .int .u8 ((rd_T26 t680 x20_2).f2.f14), .int .u8 ((rd_T26 t680 x20_2).f2.f15)]] (by rfl) rfl rfl (by (try simp only [List.map_toArray, List.map_cons, List.map_nil]); first | done | rfl | (go_simp; done)) ?_
            with_reducible refine (machine_Halted.calls k2 _ _ t582 ((rd_T26 t680 x20_2).f0) ((rd_T26 t680 x20_2).f1.f0) ((rd_T26 t680 x20_2).f1.f1) ((rd_T26 t680 x20_2).f1.f2) ((rd_T26 t680 x20_2).f1.f3) ((rd_T26 t680 x20_2).f2.f0) ((rd_T26 t680 x20_2).f2.f1) ((rd_T26 t680 x20_2).f2.f2) ((rd_T26 t680 x20_2).f2.f3) ((rd_T26 t680 x20_2).f2.f4) ((rd_T26 t680 x20_2).f2.f5) ((rd_T26 t680 x20_2).f2.f6) ((rd_T26 t680 x20_2).f2.f7) ((rd_T26 t680 x20_2).f2.f8) ((rd_T26 t680 x20_2).f2.f9) ((rd_T26 t680 x20_2).f2.f10) ((rd_T26 t680 x20_2).f2.f11) ((rd_T26 t680 x20_2).f2.f12) ((rd_T26 t680 x20_2).f2.f13) ((rd_T26 t680 x20_2).f2.f14) ((rd_T26 t680 x20_2).f2.f15) false _ ?side1 ?side2 ?side3 A58.out).mono ?_
            (case side1 => repeat (first | exact (Kd.R_reads' HO_0.out).2.2 | (with_reducible refine Kd.C_alloc ?_ _) | (with_reducible refine Kd.C_drewN ?_ _) | (with_reducible refine Kd.C_drew ?_)))
            (case side2 => exact (Kd.R_reads' HO_0.out).2.1)
            (case side3 => repeat (first | exact (GL.below HRG.out HB.out) | (with_reducible refine GL.alloc ?_ _) | (with_reducible refine GL.drewN ?_ _) | (with_reducible refine GL.drew ?_)))
            rintro e w62 ⟨rfl, hb⟩
            have HS0_ := (hb.cell (World.block_lt_of_cell? _ _ (hL.1))).trans (hL.1)
            have HS1_ := (hb.cell (World.block_lt_of_cell? _ _ (hL.2.1))).trans (hL.2.1)
            have HS2_ := (hb.cell (World.block_lt_of_cell? _ _ (hL.2.2.1))).trans (hL.2.2.1)
            have HS3_ := (hb.cell (World.block_lt_of_cell? _ _ (hL.2.2.2.1))).trans (hL.2.2.2.1)
            have HS4_ := (hb.cell (World.block_lt_of_cell? _ _ (hL.2.2.2.2.1))).trans (hL.2.2.2.2.1)
            have HS5_ := (hb.cell (World.block_lt_of_cell? _ _ (hL.2.2.2.2.2.1))).trans (hL.2.2.2.2.2.1)
            have HS6_ := (hb.cell (World.block_lt_of_cell? _ _ (hL.2.2.2.2.2.2.1))).trans (hL.2.2.2.2.2.2.1)
            have HS7_ := (hb.cell (World.block_lt_of_cell? _ _ (hL.2.2.2.2.2.2.2.1))).trans (hL.2.2.2.2.2.2.2.1)
            have HS8_ := (hb.cell (World.block_lt_of_cell? _ _ (hL.2.2.2.2.2.2.2.2.1))).trans (hL.2.2.2.2.2.2.2.2.1)
            have HS9_ := (hb.cell (World.block_lt_of_cell? _ _ (hL.2.2.2.2.2.2.2.2.2.1))).trans (hL.2.2.2.2.2.2.2.2.2.1)
            have HS10_ := (hb.cell (World.block_lt_of_cell? _ _ (hL.2.2.2.2.2.2.2.2.2.2.1))).trans (hL.2.2.2.2.2.2.2.2.2.2.1)
            have HS11_ := (hb.cell (World.block_lt_of_cell? _ _ (hL.2.2.2.2.2.2.2.2.2.2.2.1))).trans (hL.2.2.2.2.2.2.2.2.2.2.2.1)
            have HS12_ := (hb.cell (World.block_lt_of_cell? _ _ (hL.2.2.2.2.2.2.2.2.2.2.2.2.1))).trans (hL.2.2.2.2.2.2.2.2.2.2.2.2.1)
            have HS13_ := (hb.cell (World.block_lt_of_cell? _ _ (hL.2.2.2.2.2.2.2.2.2.2.2.2.2.1))).trans (hL.2.2.2.2.2.2.2.2.2.2.2.2.2.1)
            have HS14_ := (hb.cell (World.block_lt_of_cell? _ _ (hL.2.2.2.2.2.2.2.2.2.2.2.2.2.2.1))).trans (hL.2.2.2.2.2.2.2.2.2.2.2.2.2.2.1)
            have HS15_ := (hb.cell (World.block_lt_of_cell? _ _ (hL.2.2.2.2.2.2.2.2.2.2.2.2.2.2.2.1))).trans (hL.2.2.2.2.2.2.2.2.2.2.2.2.2.2.2.1)
            have HS16_ := (hb.cell (World.block_lt_of_cell? _ _ (hL.2.2.2.2.2.2.2.2.2.2.2.2.2.2.2.2.1))).trans (hL.2.2.2.2.2.2.2.2.2.2.2.2.2.2.2.2.1)
            have HS17_ := (hb.cell (World.block_lt_of_cell? _ _ (hL.2.2.2.2.2.2.2.2.2.2.2.2.2.2.2.2.2.1))).trans (hL.2.2.2.2.2.2.2.2.2.2.2.2.2.2.2.2.2.1)
            have HS18_ := (hb.cell (World.block_lt_of_cell? _ _ (hL.2.2.2.2.2.2.2.2.2.2.2.2.2.2.2.2.2.2.1))).trans (hL.2.2.2.2.2.2.2.2.2.2.2.2.2.2.2.2.2.2.1)
            have HS19_ := (hb.cell (World.block_lt_of_cell? _ _ (hL.2.2.2.2.2.2.2.2.2.2.2.2.2.2.2.2.2.2.2.1))).trans (hL.2.2.2.2.2.2.2.2.2.2.2.2.2.2.2.2.2.2.2.1)
            have HS20_ := (hb.cell (World.block_lt_of_cell? _ _ (hL.2.2.2.2.2.2.2.2.2.2.2.2.2.2.2.2.2.2.2.2))).trans (hL.2.2.2.2.2.2.2.2.2.2.2.2.2.2.2.2.2.2.2.2)
            refine ⟨_, rfl, ?_⟩
            have n0_ := Aside0.mk (Kd.R_below (by (with_reducible repeat (first | apply Kd.R_alloc | apply Kd.R_drewN | apply Kd.R_drew)); exact HO_0.out) hb)
            have n1_ := Aside0.mk (Kd.R_below (by (with_reducible repeat (first | apply Kd.R_alloc | apply Kd.R_drewN | apply Kd.R_drew)); exact HO_18.out) hb)
            have n2_ := Aside0.mk (blk_below (g := g581) (o := .cells #[.int .i64 t585, .int .u8 t586, .int .u8 t587, .int .u8 t588, .int .u8 t589, .int .u8 t590, .int .u8 t591, .int .u8 t592, .int .u8 t593, .int .u8 t594, .int .u8 t595, .int .u8 t596, .int .u8 t597, .int .u8 t598, .int .u8 t599, .int .u8 t600, .int .u8 t601, .int .u8 t602, .int .u8 t603, .int .u8 t604, .int .u8 t605] 26 (0, 0)) (by exact B581.out) hb)
            have n3_ := Aside0.mk (blk_below (g := g629) (o := .cells #[.int .i64 t606, .int .u8 t607, .int .u8 t608, .int .u8 t609, .int .u8 t610, .int .u8 t611, .int .u8 t612, .int .u8 t613, .int .u8 t614, .int .u8 t615, .int .u8 t616, .int .u8 t617, .int .u8 t618, .int .u8 t619, .int .u8 t620, .int .u8 t621, .int .u8 t622, .int .u8 t623, .int .u8 t624, .int .u8 t625, .int .u8 t626] 26 (0, 0)) (by exact B629.out) hb)
            have n4_ := Aside0.mk (blk_below (g := g655) (o := .cells #[.int .i64 t632, .int .u8 t633, .int .u8 t634, .int .u8 t635, .int .u8 t636, .int .u8 t637, .int .u8 t638, .int .u8 t639, .int .u8 t640, .int .u8 t641, .int .u8 t642, .int .u8 t643, .int .u8 t644, .int .u8 t645, .int .u8 t646, .int .u8 t647, .int .u8 t648, .int .u8 t649, .int .u8 t650, .int .u8 t651, .int .u8 t652] 26 (0, 0)) (by exact B655.out) hb)
            have n5_ := Aside0.mk (blk_below (g := g679) (o := .cells #[.int .i64 t656, .int .u8 t657, .int .u8 t658, .int .u8 t659, .int .u8 t660, .int .u8 t661, .int .u8 t662, .int .u8 t663, .int .u8 t664, .int .u8 t665, .int .u8 t666, .int .u8 t667, .int .u8 t668, .int .u8 t669, .int .u8 t670, .int .u8 t671, .int .u8 t672, .int .u8 t673, .int .u8 t674, .int .u8 t675, .int .u8 t676] 26 (0, 0)) (by exact B679.out) hb)
            have n6_ := Aside0.mk (below_step (by repeat (first | (with_reducible first | exact HB.out | apply below_alloc | apply pw_below_drewN | apply below_drew1 | refine below_set ?_ GE581.out | refine below_set ?_ GE629.out | refine below_set ?_ GE655.out | refine below_set ?_ GE679.out) | exact HB.out)) hb)
            clear HO_0
            clear HO_18
            clear B581
            clear B629
            clear B655
            clear B679
            clear HB
            have HO_0 := n0_
            have HO_18 := n1_
            have B581 := n2_
            have B629 := n3_
            have B655 := n4_
            have B679 := n5_
            have HB := n6_
            clear n0_ n1_ n2_ n3_ n4_ n5_ n6_
            (try clear hb)
            (try clear hb2)
            (try clear hk)
            (try clear hi)
            refine hK.out _ _ ⟨HS0_, HS1_, HS2_, HS3_, HS4_, HS5_, HS6_, HS7_, HS8_, HS9_, HS10_, HS11_, HS12_, HS13_, HS14_, HS15_, HS16_, HS17_, HS18_, HS19_, HS20_⟩ (fun hL => ?_)
            clear hK K
            refine norm_ (a' := ?_) ?_ ?_
            rotate_left
            ·show Act.put _ (some 167) _ = _
             simp only [Act.put, sa_, sb_, sc_, i64_w, i32_w]
             rfl
            refine pure_ (i := 22) (N := some 168) (v := ?_) (a' := ?_) z5_23_ rfl rfl (an_ T_) (fun _ _ _ h => h) (Or.inl ⟨by rfl, ?_⟩) ?_ ?_
            rotate_left; · intro w'; go_simp; with_reducible rfl
            rotate_left; · simp only [Act.put, sa_, sb_, sc_, i64_w, i32_w]; rfl
            refine pure_ (i := 23) (N := some 169) (v := ?_) (a' := ?_) z5_24_ rfl rfl (an_ T_) (fun _ _ _ h => h) (Or.inl ⟨by rfl, ?_⟩) ?_ ?_
            rotate_left; · intro w'; go_simp; with_reducible rfl
            rotate_left; · simp only [Act.put, sa_, sb_, sc_, i64_w, i32_w]; rfl
            refine done_ (done_of T_.out (by kernel_rfl)) ?_
            try go_wp2
            go_roundg k2
            case measure => have := HJ12.out; have := HK2.out; omega
            case rel => exact ⟨(wrap64 (x20_2 + 1)), (by first | rfl | (simp; done) | (simp [*]; done) | (simp; rfl) | (simp; decide +kernel)), H', ⟨by have := HJ12.out; have := HK2.out; omega⟩, ⟨by (with_reducible repeat (first | apply Kd.R_alloc | apply Kd.R_drewN | apply Kd.R_drew)); exact HO_0.out⟩, ⟨by (with_reducible repeat (first | apply Kd.R_alloc | apply Kd.R_drewN | apply Kd.R_drew)); exact HO_18.out⟩, ⟨by exact B581.out⟩, ⟨by exact B629.out⟩, ⟨by exact B655.out⟩, ⟨by exact B679.out⟩, ⟨by repeat (first | (with_reducible first | exact HB.out | apply below_alloc | apply pw_below_drewN | apply below_drew1 | refine below_set ?_ GE581.out | refine below_set ?_ GE629.out | refine below_set ?_ GE655.out | refine below_set ?_ GE679.out) | exact HB.out)⟩⟩
          ·rw [if_neg c57] at H
           exact absurd H (by simp)
         ·rw [if_neg c56] at H
          have c56b0 : decide (x20_2 < t677) = false := decide_eq_false c56
          clear c56
          have H' := Aside0.mk H
          clear H
          obtain ⟨Ao63, co63, eo63⟩ := Kd.R_slice HO_18.out
          subst eo63
          try go_wp2
          have n0_ := Aside0.mk (Kd.R_drew HO_0.out)
          have n1_ := Aside0.mk (Kd.R_drew HO_18.out)
          have n2_ := Aside0.mk (blk_drew B581.out)
          have n3_ := Aside0.mk (blk_drew B629.out)
          have n4_ := Aside0.mk (blk_drew B655.out)
          have n5_ := Aside0.mk (blk_drew B679.out)
          have n6_ := Aside0.mk (below_drew1 HB.out)
          clear HO_0
          clear HO_18
          clear B581
          clear B629
          clear B655
          clear B679
          clear HB
          have HO_0 := n0_
          have HO_18 := n1_
          have B581 := n2_
          have B629 := n3_
          have B655 := n4_
          have B679 := n5_
          have HB := n6_
          clear n0_ n1_ n2_ n3_ n4_ n5_ n6_
          refine start_ (n := 24) (S := fun w' => True) (ds := []) z5_0_ (by kernel_rfl) rfl rfl trivial (fun hL => ?_); refine with_tabW attestorlaw28_MachineParts.tab14 attestorlaw28_MachineParts.bits14 (fun T_ W_ => ?_)
          generalize wr.drew = w64 at HO_0 HO_18 B581 B629 B655 B679 HB hL ⊢
          refine pure_ (i := 0) (N := some 146) (v := ?_) (a' := ?_) z5_1_ rfl rfl (an_ T_) (fun _ _ _ h => h) (Or.inl ⟨by rfl, ?_⟩) ?_ ?_
          rotate_left; · intro w'; go_simp; with_reducible rfl
          rotate_left; · simp only [Act.put, sa_, sb_, sc_, i64_w, i32_w]; rfl
          refine pure_ (i := 1) (N := some 147) (v := ?_) (a' := ?_) z5_2_ rfl rfl (an_ T_) (fun _ _ _ h => h) (Or.inl ⟨by rfl, ?_⟩) ?_ ?_
          rotate_left; · intro w'; go_simp; with_reducible rfl
          rotate_left; · simp only [Act.put, sa_, sb_, sc_, i64_w, i32_w]; rfl
          refine pure_ (i := 2) (N := some 148) (v := ?_) (a' := ?_) z5_3_ rfl rfl (an_ T_) (fun _ _ _ h => h) (Or.inl ⟨by rfl, ?_⟩) ?_ ?_
          rotate_left; · intro w'; go_simp; with_reducible rfl
          rotate_left; · simp only [Act.put, sa_, sb_, sc_, i64_w, i32_w]; rfl
          refine pure_ (i := 3) (N := some 149) (v := ?_) (a' := ?_) z5_4_ rfl rfl (an_ T_) (fun _ _ _ h => h) (Or.inl ⟨by rfl, ?_⟩) ?_ ?_
          rotate_left; · intro w'; go_simp; with_reducible rfl
          rotate_left; · simp only [Act.put, sa_, sb_, sc_, i64_w, i32_w]; rfl
          refine pure_ (i := 4) (N := some 150) (v := undef) (a' := ?_) z5_5_ rfl rfl (an_ T_) (fun _ _ _ h => h) (Or.inr ⟨by rfl, rfl⟩) ?_ ?_
          rotate_left
          ·simp only [Act.put, sa_, sb_, sc_, i64_w, i32_w]
           rfl
          refine pure_ (i := 5) (N := some 151) (v := undef) (a' := ?_) z5_6_ rfl rfl (an_ T_) (fun _ _ _ h => h) (Or.inr ⟨by rfl, rfl⟩) ?_ ?_
          rotate_left
          ·simp only [Act.put, sa_, sb_, sc_, i64_w, i32_w]
           rfl
          refine pure_ (i := 6) (N := some 152) (v := undef) (a' := ?_) z5_7_ rfl rfl (an_ T_) (fun _ _ _ h => h) (Or.inr ⟨by rfl, rfl⟩) ?_ ?_
          rotate_left
          ·simp only [Act.put, sa_, sb_, sc_, i64_w, i32_w]
           rfl
          refine pure_ (i := 7) (N := some 153) (v := undef) (a' := ?_) z5_8_ rfl rfl (an_ T_) (fun _ _ _ h => h) (Or.inr ⟨by rfl, rfl⟩) ?_ ?_
          rotate_left
          ·simp only [Act.put, sa_, sb_, sc_, i64_w, i32_w]
           rfl
          refine pure_ (i := 8) (N := some 154) (v := undef) (a' := ?_) z5_9_ rfl rfl (an_ T_) (fun _ _ _ h => h) (Or.inr ⟨by rfl, rfl⟩) ?_ ?_
          rotate_left
          ·simp only [Act.put, sa_, sb_, sc_, i64_w, i32_w]
           rfl
          refine pure_ (i := 9) (N := some 155) (v := undef) (a' := ?_) z5_10_ rfl rfl (an_ T_) (fun _ _ _ h => h) (Or.inr ⟨by rfl, rfl⟩) ?_ ?_
          rotate_left
          ·simp only [Act.put, sa_, sb_, sc_, i64_w, i32_w]
           rfl
          refine pure_ (i := 10) (N := some 156) (v := ?_) (a' := ?_) z5_11_ rfl rfl (an_ T_) (fun _ _ _ h => h) (Or.inl ⟨by rfl, ?_⟩) ?_ ?_
          rotate_left; · intro w'; go_simp; with_reducible rfl
          rotate_left; · simp only [Act.put, sa_, sb_, sc_, i64_w, i32_w]; rfl
          refine pure_ (i := 11) (N := some 157) (v := ?_) (a' := ?_) z5_12_ rfl rfl (an_ T_) (fun _ _ _ h => h) (Or.inl ⟨by rfl, ?_⟩) ?_ ?_
          rotate_left; · intro w'; go_simp; with_reducible rfl
          rotate_left; · simp only [Act.put, sa_, sb_, sc_, i64_w, i32_w]; rfl
          refine pure_ (i := 12) (N := some 158) (v := ?_) (a' := ?_) z5_13_ rfl rfl (an_ T_) (fun _ _ _ h => h) (Or.inl ⟨by rfl, ?_⟩) ?_ ?_
          rotate_left; · intro w'; go_simp; with_reducible rfl
          rotate_left; · simp only [Act.put, sa_, sb_, sc_, i64_w, i32_w]; rfl
          refine pure_ (i := 13) (N := some 159) (v := ?_) (a' := ?_) z5_14_ rfl rfl (an_ T_) (fun _ _ _ h => h) (Or.inl ⟨by rfl, ?_⟩) ?_ ?_
          rotate_left; · intro w'; go_simp; with_reducible rfl
          rotate_left; · simp only [Act.put, sa_, sb_, sc_, i64_w, i32_w]; rfl
          refine pure_ (i := 14) (N := some 160) (v := ?_) (a' := ?_) z5_15_ rfl rfl (an_ T_) (fun _ _ _ h => h) (Or.inl ⟨by rfl, ?_⟩) ?_ ?_
          rotate_left; · intro w'; go_simp; with_reducible rfl
          rotate_left; · simp only [Act.put, sa_, sb_, sc_, i64_w, i32_w]; rfl
          refine pure_ (i := 15) (N := some 161) (v := ?_) (a' := ?_) z5_16_ rfl rfl (an_ T_) (fun _ _ _ h => h) (Or.inl ⟨by rfl, ?_⟩) ?_ ?_
          rotate_left; · intro w'; go_simp; with_reducible rfl
          rotate_left; · simp only [Act.put, sa_, sb_, sc_, i64_w, i32_w]; rfl
          refine pure_ (i := 16) (N := some 162) (v := undef) (a' := ?_) z5_17_ rfl rfl (an_ T_) (fun _ _ _ h => h) (Or.inr ⟨by rfl, rfl⟩) ?_ ?_
          rotate_left
          ·simp only [Act.put, sa_, sb_, sc_, i64_w, i32_w]
           rfl
          refine pure_ (i := 17) (N := some 163) (v := undef) (a' := ?_) z5_18_ rfl rfl (an_ T_) (fun _ _ _ h => h) (Or.inr ⟨by rfl, rfl⟩) ?_ ?_
          rotate_left
          ·simp only [Act.put, sa_, sb_, sc_, i64_w, i32_w]
           rfl
          refine pure_ (i := 18) (N := some 164) (v := undef) (a' := ?_) z5_19_ rfl rfl (an_ T_) (fun _ _ _ h => h) (Or.inr ⟨by rfl, rfl⟩) ?_ ?_
          rotate_left
          ·simp only [Act.put, sa_, sb_, sc_, i64_w, i32_w]
           rfl
          refine pure_ (i := 19) (N := some 165) (v := undef) (a' := ?_) z5_20_ rfl rfl (an_ T_) (fun _ _ _ h => h) (Or.inr ⟨by rfl, rfl⟩) ?_ ?_
          rotate_left
          ·simp only [Act.put, sa_, sb_, sc_, i64_w, i32_w]
           rfl
          refine pure_ (i := 20) (N := some 166) (v := undef) (a' := ?_) z5_21_ rfl rfl (an_ T_) (fun _ _ _ h => h) (Or.inr ⟨by rfl, rfl⟩) ?_ ?_
          rotate_left
          ·simp only [Act.put, sa_, sb_, sc_, i64_w, i32_w]
           rfl
          refine pure_ (i := 21) (N := some 167) (v := undef) (a' := ?_) z5_22_ rfl rfl (an_ T_) (fun _ _ _ h => h) (Or.inr ⟨by rfl, rfl⟩) ?_ ?_
          rotate_left
          ·simp only [Act.put, sa_, sb_, sc_, i64_w, i32_w]
           rfl
          refine pure_ (i := 22) (N := some 168) (v := ?_) (a' := ?_) z5_23_ rfl rfl (an_ T_) (fun _ _ _ h => h) (Or.inl ⟨by rfl, ?_⟩) ?_ ?_
          rotate_left; · intro w'; go_simp; with_reducible rfl
          rotate_left; · simp only [Act.put, sa_, sb_, sc_, i64_w, i32_w]; rfl
          refine pure_ (i := 23) (N := some 169) (v := ?_) (a' := ?_) z5_24_ rfl rfl (an_ T_) (fun _ _ _ h => h) (Or.inl ⟨by rfl, ?_⟩) ?_ ?_
          rotate_left; · intro w'; go_simp; with_reducible rfl
          rotate_left; · simp only [Act.put, sa_, sb_, sc_, i64_w, i32_w]; rfl
          refine done_ (done_of T_.out (by kernel_rfl)) ?_
          try go_wp2
          go_roundg k2
          case measure => have := HJ12.out; have := HK2.out; omega
          case rel => exact ⟨(wrap64 (x20_2 + 1)), (by first | rfl | (simp; done) | (simp [*]; done) | (simp; rfl) | (simp; decide +kernel)), H', ⟨by have := HJ12.out; have := HK2.out; omega⟩, ⟨by (with_reducible repeat (first | apply Kd.R_alloc | apply Kd.R_drewN | apply Kd.R_drew)); exact HO_0.out⟩, ⟨by (with_reducible repeat (first | apply Kd.R_alloc | apply Kd.R_drewN | apply Kd.R_drew)); exact HO_18.out⟩, ⟨by exact B581.out⟩, ⟨by exact B629.out⟩, ⟨by exact B655.out⟩, ⟨by exact B679.out⟩, ⟨by repeat (first | (with_reducible first | exact HB.out | apply below_alloc | apply pw_below_drewN | apply below_drew1 | refine below_set ?_ GE581.out | refine below_set ?_ GE629.out | refine below_set ?_ GE655.out | refine below_set ?_ GE679.out) | exact HB.out)⟩⟩
       ·rw [if_neg c44] at H
        have c44b0 : decide (x20_2 < (t680.length : Int)) = false := decide_eq_false c44
        clear c44
        obtain ⟨ji65, hji65⟩ : ∃ j_ : Int, (mn t627 (wrap64 ((t680.length : Int) - 1))) = j_ := ⟨_, rfl⟩
        replace H : (if 0 ≤ (ji65) then (if (ji65) < (t680.length : Int) then (if (((rd_T26 t680 (ji65)).f0) == t606 && ((((rd_T26 t680 (ji65)).f1.f0) == t607 && (((rd_T26 t680 (ji65)).f1.f1) == t608 && (((rd_T26 t680 (ji65)).f1.f2) == t609 && (((rd_T26 t680 (ji65)).f1.f3) == t610)))) && ((((rd_T26 t680 (ji65)).f2.f0) == t611 && (((rd_T26 t680 (ji65)).f2.f1) == t612 && (((rd_T26 t680 (ji65)).f2.f2) == t613 && (((rd_T26 t680 (ji65)).f2.f3) == t614 && (((rd_T26 t680 (ji65)).f2.f4) == t615 && (((rd_T26 t680 (ji65)).f2.f5) == t616 && (((rd_T26 t680 (ji65)).f2.f6) == t617 && (((rd_T26 t680 (ji65)).f2.f7) == t618 && (((rd_T26 t680 (ji65)).f2.f8) == t619 && (((rd_T26 t680 (ji65)).f2.f9) == t620 && (((rd_T26 t680 (ji65)).f2.f10) == t621 && (((rd_T26 t680 (ji65)).f2.f11) == t622 && (((rd_T26 t680 (ji65)).f2.f12) == t623 && (((rd_T26 t680 (ji65)).f2.f13) == t624 && (((rd_T26 t680 (ji65)).f2.f14) == t625 && (((rd_T26 t680 (ji65)).f2.f15) == t626))))))))))))))))))) = true then ((attestorlaw28_lives.f k2).bind fun t691 => (some t691)) else (none)) else (none)) else (none)) = some r := by first | (rw [hji65] at H; exact H) | (simp only [hji65] at H ⊢; exact H)
        have hji65_ : (if (wrap64 ((t680.length : Int) - 1)) < t627 then (wrap64 ((t680.length : Int) - 1)) else t627) = ji65 := hji65
        by_cases c66 : 0 ≤ (ji65)
        ·rw [if_pos c66] at H
         have c66b0 : decide (0 ≤ (ji65)) = true := decide_eq_true c66
         clear c66
         by_cases c67 : (ji65) < (t680.length : Int)
         ·rw [if_pos c67] at H
          have c67b0 : decide ((ji65) < (t680.length : Int)) = true := decide_eq_true c67
          clear c67
          by_cases c68 : (((rd_T26 t680 (ji65)).f0) == t606 && ((((rd_T26 t680 (ji65)).f1.f0) == t607 && (((rd_T26 t680 (ji65)).f1.f1) == t608 && (((rd_T26 t680 (ji65)).f1.f2) == t609 && (((rd_T26 t680 (ji65)).f1.f3) == t610)))) && ((((rd_T26 t680 (ji65)).f2.f0) == t611 && (((rd_T26 t680 (ji65)).f2.f1) == t612 && (((rd_T26 t680 (ji65)).f2.f2) == t613 && (((rd_T26 t680 (ji65)).f2.f3) == t614 && (((rd_T26 t680 (ji65)).f2.f4) == t615 && (((rd_T26 t680 (ji65)).f2.f5) == t616 && (((rd_T26 t680 (ji65)).f2.f6) == t617 && (((rd_T26 t680 (ji65)).f2.f7) == t618 && (((rd_T26 t680 (ji65)).f2.f8) == t619 && (((rd_T26 t680 (ji65)).f2.f9) == t620 && (((rd_T26 t680 (ji65)).f2.f10) == t621 && (((rd_T26 t680 (ji65)).f2.f11) == t622 && (((rd_T26 t680 (ji65)).f2.f12) == t623 && (((rd_T26 t680 (ji65)).f2.f13) == t624 && (((rd_T26 t680 (ji65)).f2.f14) == t625 && (((rd_T26 t680 (ji65)).f2.f15) == t626))))))))))))))))))) = true
          ·rw [if_pos c68] at H
           have c68b0 : (((rd_T26 t680 (ji65)).f0) == t606 && ((((rd_T26 t680 (ji65)).f1.f0) == t607 && (((rd_T26 t680 (ji65)).f1.f1) == t608 && (((rd_T26 t680 (ji65)).f1.f2) == t609 && (((rd_T26 t680 (ji65)).f1.f3) == t610)))) && ((((rd_T26 t680 (ji65)).f2.f0) == t611 && (((rd_T26 t680 (ji65)).f2.f1) == t612 && (((rd_T26 t680 (ji65)).f2.f2) == t613 && (((rd_T26 t680 (ji65)).f2.f3) == t614 && (((rd_T26 t680 (ji65)).f2.f4) == t615 && (((rd_T26 t680 (ji65)).f2.f5) == t616 && (((rd_T26 t680 (ji65)).f2.f6) == t617 && (((rd_T26 t680 (ji65)).f2.f7) == t618 && (((rd_T26 t680 (ji65)).f2.f8) == t619 && (((rd_T26 t680 (ji65)).f2.f9) == t620 && (((rd_T26 t680 (ji65)).f2.f10) == t621 && (((rd_T26 t680 (ji65)).f2.f11) == t622 && (((rd_T26 t680 (ji65)).f2.f12) == t623 && (((rd_T26 t680 (ji65)).f2.f13) == t624 && (((rd_T26 t680 (ji65)).f2.f14) == t625 && (((rd_T26 t680 (ji65)).f2.f15) == t626))))))))))))))))))) = true := c68
           (try (have c68b1 : decide (((rd_T26 t680 (ji65)).f0) = t606 && ((((rd_T26 t680 (ji65)).f1.f0) == t607 && (((rd_T26 t680 (ji65)).f1.f1) == t608 && (((rd_T26 t680 (ji65)).f1.f2) == t609 && (((rd_T26 t680 (ji65)).f1.f3) == t610)))) && ((((rd_T26 t680 (ji65)).f2.f0) == t611 && (((rd_T26 t680 (ji65)).f2.f1) == t612 && (((rd_T26 t680 (ji65)).f2.f2) == t613 && (((rd_T26 t680 (ji65)).f2.f3) == t614 && (((rd_T26 t680 (ji65)).f2.f4) == t615 && (((rd_T26 t680 (ji65)).f2.f5) == t616 && (((rd_T26 t680 (ji65)).f2.f6) == t617 && (((rd_T26 t680 (ji65)).f2.f7) == t618 && (((rd_T26 t680 (ji65)).f2.f8) == t619 && (((rd_T26 t680 (ji65)).f2.f9) == t620 && (((rd_T26 t680 (ji65)).f2.f10) == t621 && (((rd_T26 t680 (ji65)).f2.f11) == t622 && (((rd_T26 t680 (ji65)).f2.f12) == t623 && (((rd_T26 t680 (ji65)).f2.f13) == t624 && (((rd_T26 t680 (ji65)).f2.f14) == t625 && (((rd_T26 t680 (ji65)).f2.f15) == t626))))))))))))))))))) = true := by simpa using c68))
           (try (have c68b2 : (((rd_T26 t680 (ji65)).f0) == t606 && ((((rd_T26 t680 (ji65)).f1.f0) == t607 && (((rd_T26 t680 (ji65)).f1.f1) == t608 && (((rd_T26 t680 (ji65)).f1.f2) == t609 && (((rd_T26 t680 (ji65)).f1.f3) == t610)))) && ((((rd_T26 t680 (ji65)).f2.f0) == t611 && (((rd_T26 t680 (ji65)).f2.f1) == t612 && (((rd_T26 t680 (ji65)).f2.f2) == t613 && (((rd_T26 t680 (ji65)).f2.f3) == t614 && (((rd_T26 t680 (ji65)).f2.f4) == t615 && (((rd_T26 t680 (ji65)).f2.f5) == t616 && (((rd_T26 t680 (ji65)).f2.f6) == t617 && (((rd_T26 t680 (ji65)).f2.f7) == t618 && (((rd_T26 t680 (ji65)).f2.f8) == t619 && (((rd_T26 t680 (ji65)).f2.f9) == t620 && (((rd_T26 t680 (ji65)).f2.f10) == t621 && (((rd_T26 t680 (ji65)).f2.f11) == t622 && (((rd_T26 t680 (ji65)).f2.f12) == t623 && (((rd_T26 t680 (ji65)).f2.f13) == t624 && (((rd_T26 t680 (ji65)).f2.f14) == t625 && (((rd_T26 t680 (ji65)).f2.f15) == t626))))))))))))))))))) = true := by simpa using c68))
           clear c68
           replace H := Option.bind_eq_some_iff.mp H
           obtain ⟨t691, A690, H⟩ := H
           have A69 := Aside0.mk A690
           clear A690
           obtain rfl := Option.some.inj H
           obtain ⟨Ao70, co70, eo70⟩ := Kd.R_slice HO_18.out
           subst eo70
           try go_wp2
           have n0_ := Aside0.mk (Kd.R_drew HO_0.out)
           have n1_ := Aside0.mk (Kd.R_drew HO_18.out)
           have n2_ := Aside0.mk (blk_drew B581.out)
           have n3_ := Aside0.mk (blk_drew B629.out)
           have n4_ := Aside0.mk (blk_drew B655.out)
           have n5_ := Aside0.mk (blk_drew B679.out)
           have n6_ := Aside0.mk (below_drew1 HB.out)
           clear HO_0
           clear HO_18
           clear B581
           clear B629
           clear B655
           clear B679
           clear HB
           have HO_0 := n0_
           have HO_18 := n1_
           have B581 := n2_
           have B629 := n3_
           have B655 := n4_
           have B679 := n5_
           have HB := n6_
           clear n0_ n1_ n2_ n3_ n4_ n5_ n6_
           have p690 : 0 ≤ ((ji65) : Int) := of_decide_eq_true (by first | (with_reducible assumption) | assumption)
           have q690 : (ji65) < (t680.length : Int) := of_decide_eq_true (by first | (with_reducible assumption) | assumption)
           obtain ⟨ad690, e690, hx690_0, hx690_1, hx690_2, hx690_3, hx690_4, hx690_5, hx690_6, hx690_7, hx690_8, hx690_9, hx690_10, hx690_11, hx690_12, hx690_13, hx690_14, hx690_15, hx690_16, hx690_17, hx690_18, hx690_19, hx690_20⟩ := at_T26 (Kd.R_reads' HO_18.out).2.2 (ji65) p690 q690
           cases e690
           replace p690 := eq_true p690
           replace q690 := eq_true q690
           refine start_ (n := 14) (S := fun w' => w'.cell? ⟨g629, 0, none⟩ = some (.int .i64 t606) ∧ w'.cell? ⟨g629, 1, none⟩ = some (.int .u8 t607) ∧ w'.cell? ⟨g629, 2, none⟩ = some (.int .u8 t608) ∧ w'.cell? ⟨g629, 3, none⟩ = some (.int .u8 t609) ∧ w'.cell? ⟨g629, 4, none⟩ = some (.int .u8 t610) ∧ w'.cell? ⟨g629, 5, none⟩ = some (.int .u8 t611) ∧ w'.cell? ⟨g629, 6, none⟩ = some (.int .u8 t612) ∧ w'.cell? ⟨g629, 7, none⟩ = some (.int .u8 t613) ∧ w'.cell? ⟨g629, 8, none⟩ = some (.int .u8 t614) ∧ w'.cell? ⟨g629, 9, none⟩ = some (.int .u8 t615) ∧ w'.cell? ⟨g629, 10, none⟩ = some (.int .u8 t616) ∧ w'.cell? ⟨g629, 11, none⟩ = some (.int .u8 t617) ∧ w'.cell? ⟨g629, 12, none⟩ = some (.int .u8 t618) ∧ w'.cell? ⟨g629, 13, none⟩ = some (.int .u8 t619) ∧ w'.cell? ⟨g629, 14, none⟩ = some (.int .u8 t620) ∧ w'.cell? ⟨g629, 15, none⟩ = some (.int .u8 t621) ∧ w'.cell? ⟨g629, 16, none⟩ = some (.int .u8 t622) ∧ w'.cell? ⟨g629, 17, none⟩ = some (.int .u8 t623) ∧ w'.cell? ⟨g629, 18, none⟩ = some (.int .u8 t624) ∧ w'.cell? ⟨g629, 19, none⟩ = some (.int .u8 t625) ∧ w'.cell? ⟨g629, 20, none⟩ = some (.int .u8 t626) ∧ w'.cell? (ad690.add (((ji65)).toNat * 21)) = some (.int .i64 ((rd_T26 t680 (ji65)).f0)) ∧ w'.cell? ⟨(ad690.add (((ji65)).toNat * 21)).block, (ad690.add (((ji65)).toNat * 21)).off + 1, none⟩ = some (.int .u8 ((rd_T26 t680 (ji65)).f1.f0)) ∧ w'.cell? ⟨(ad690.add (((ji65)).toNat * 21)).block, (ad690.add (((ji65)).toNat * 21)).off + 2, none⟩ = some (.int .u8 ((rd_T26 t680 (ji65)).f1.f1)) ∧ w'.cell? ⟨(ad690.add (((ji65)).toNat * 21)).block, (ad690.add (((ji65)).toNat * 21)).off + 3, none⟩ = some (.int .u8 ((rd_T26 t680 (ji65)).f1.f2)) ∧ w'.cell? ⟨(ad690.add (((ji65)).toNat * 21)).block, (ad690.add (((ji65)).toNat * 21)).off + 4, none⟩ = some (.int .u8 ((rd_T26 t680 (ji65)).f1.f3)) ∧ w'.cell? ⟨(ad690.add (((ji65)).toNat * 21)).block, (ad690.add (((ji65)).toNat * 21)).off + 5, none⟩ = some (.int .u8 ((rd_T26 t680 (ji65)).f2.f0)) ∧ w'.cell? ⟨(ad690.add (((ji65)).toNat * 21)).block, (ad690.add (((ji65)).toNat * 21)).off + 6, none⟩ = some (.int .u8 ((rd_T26 t680 (ji65)).f2.f1)) ∧ w'.cell? ⟨(ad690.add (((ji65)).toNat * 21)).block, (ad690.add (((ji65)).toNat * 21)).off + 7, none⟩ = some (.int .u8 ((rd_T26 t680 (ji65)).f2.f2)) ∧ w'.cell? ⟨(ad690.add (((ji65)).toNat * 21)).block, (ad690.add (((ji65)).toNat * 21)).off + 8, none⟩ = some (.int .u8 ((rd_T26 t680 (ji65)).f2.f3)) ∧ w'.cell? ⟨(ad690.add (((ji65)).toNat * 21)).block, (ad690.add (((ji65)).toNat * 21)).off + 9, none⟩ = some (.int .u8 ((rd_T26 t680 (ji65)).f2.f4)) ∧ w'.cell? ⟨(ad690.add (((ji65)).toNat * 21)).block, (ad690.add (((ji65)).toNat * 21)).off + 10, none⟩ = some (.int .u8 ((rd_T26 t680 (ji65)).f2.f5)) ∧ w'.cell? ⟨(ad690.add (((ji65)).toNat * 21)).block, (ad690.add (((ji65)).toNat * 21)).off + 11, none⟩ = some (.int .u8 ((rd_T26 t680 (ji65)).f2.f6)) ∧ w'.cell? ⟨(ad690.add (((ji65)).toNat * 21)).block, (ad690.add (((ji65)).toNat * 21)).off + 12, none⟩ = some (.int .u8 ((rd_T26 t680 (ji65)).f2.f7)) ∧ w'.cell? ⟨(ad690.add (((ji65)).toNat * 21)).block, (ad690.add (((ji65)).toNat * 21)).off + 13, none⟩ = some (.int .u8 ((rd_T26 t680 (ji65)).f2.f8)) ∧ w'.cell? ⟨(ad690.add (((ji65)).toNat * 21)).block, (ad690.add (((ji65)).toNat * 21)).off + 14, none⟩ = some (.int .u8 ((rd_T26 t680 (ji65)).f2.f9)) ∧ w'.cell? ⟨(ad690.add (((ji65)).toNat * 21)).block, (ad690.add (((ji65)).toNat * 21)).off + 15, none⟩ = some (.int .u8 ((rd_T26 t680 (ji65)).f2.f10)) ∧ w'.cell? ⟨(ad690.add (((ji65)).toNat * 21)).block, (ad690.add (((ji65)).toNat * 21)).off + 16, none⟩ = some (.int .u8 ((rd_T26 t680 (ji65)).f2.f11)) ∧ w'.cell? ⟨(ad690.add (((ji65)).toNat * 21)).block, (ad690.add (((ji65)).toNat * 21)).off + 17, none⟩ = some (.int .u8 ((rd_T26 t680 (ji65)).f2.f12)) ∧ w'.cell? ⟨(ad690.add (((ji65)).toNat * 21)).block, (ad690.add (((ji65)).toNat * 21)).off + 18, none⟩ = some (.int .u8 ((rd_T26 t680 (ji65)).f2.f13)) ∧ w'.cell? ⟨(ad690.add (((ji65)).toNat * 21)).block, (ad690.add (((ji65)).toNat * 21)).off + 19, none⟩ = some (.int .u8 ((rd_T26 t680 (ji65)).f2.f14)) ∧ w'.cell? ⟨(ad690.add (((ji65)).toNat * 21)).block, (ad690.add (((ji65)).toNat * 21)).off + 20, none⟩ = some (.int .u8 ((rd_T26 t680 (ji65)).f2.f15))) (ds := []) z5_25_ (by kernel_rfl) rfl rfl ⟨bq_ B629 0, bq_ B629 1, bq_ B629 2, bq_ B629 3, bq_ B629 4, bq_ B629 5, bq_ B629 6, bq_ B629 7, bq_ B629 8, bq_ B629 9, bq_ B629 10, bq_ B629 11, bq_ B629 12, bq_ B629 13, bq_ B629 14, bq_ B629 15, bq_ B629 16, bq_ B629 17, bq_ B629 18, bq_ B629 19, bq_ B629 20, hx690_0, hx690_1, hx690_2, hx690_3, hx690_4, hx690_5, hx690_6, hx690_7, hx690_8, hx690_9, hx690_10, hx690_11, hx690_12, hx690_13, hx690_14, hx690_15, hx690_16, hx690_17, hx690_18, hx690_19, hx690_20⟩ (fun hL => ?_); refine with_tabW attestorlaw28_MachineParts.tab16 attestorlaw28_MachineParts.bits16 (fun T_ W_ => ?_)
           generalize wr.drew = w71 at HO_0 HO_18 B581 B629 B655 B679 HB hx690_0 hx690_1 hx690_10 hx690_11 hx690_12 hx690_13 hx690_14 hx690_15 hx690_16 hx690_17 hx690_18 hx690_19 hx690_2 hx690_20 hx690_3 hx690_4 hx690_5 hx690_6 hx690_7 hx690_8 hx690_9 hL ⊢
           refine pure_ (i := 0) (N := some 170) (v := ?_) (a' := ?_) z5_26_ rfl rfl (an_ T_) (fun _ _ _ h => h) (Or.inl ⟨by rfl, ?_⟩) ?_ ?_
           rotate_left; · intro w'; go_simp; with_reducible rfl
           rotate_left; · simp only [Act.put, sa_, sb_, sc_, i64_w, i32_w]; rfl
           refine pure_ (i := 1) (N := some 171) (v := ?_) (a' := ?_) z5_27_ rfl rfl (an_ T_) (fun _ _ _ h => h) (Or.inl ⟨by rfl, ?_⟩) ?_ ?_
           rotate_left; · intro w'; go_simp; with_reducible rfl
           rotate_left; · simp only [Act.put, sa_, sb_, sc_, i64_w, i32_w]; rfl
           refine pure_ (i := 2) (N := some 172) (v := ?_) (a' := ?_) z5_28_ rfl rfl (an_ T_) (fun _ _ _ h => h) (Or.inl ⟨by rfl, ?_⟩) ?_ ?_
           rotate_left; · intro w'; go_simp; with_reducible rfl
           rotate_left; · simp only [Act.put, sa_, sb_, sc_, i64_w, i32_w]; rfl
           refine pure_ (i := 3) (N := some 173) (v := ?_) (a' := ?_) z5_29_ rfl rfl (an_ T_) (fun _ _ _ h => h) (Or.inl ⟨by rfl, ?_⟩) ?_ ?_
           rotate_left; · intro w'; go_simp; with_reducible rfl
           rotate_left; · simp only [Act.put, sa_, sb_, sc_, i64_w, i32_w]; rfl
           refine pure_ (i := 4) (N := some 174) (v := ?_) (a' := ?_) z5_30_ rfl rfl (an_ T_) (fun _ _ _ h => h) (Or.inl ⟨by rfl, ?_⟩) ?_ ?_
           rotate_left; · intro w'; go_simp; with_reducible rfl
           rotate_left; · simp only [Act.put, sa_, sb_, sc_, i64_w, i32_w]; rfl
           refine pure_ (i := 5) (N := some 175) (v := ?_) (a' := ?_) z5_31_ rfl rfl (an_ T_) (fun _ _ _ h => h) (Or.inl ⟨by rfl, ?_⟩) ?_ ?_
           rotate_left; · intro w'; go_simp; with_reducible rfl
           rotate_left; · simp only [Act.put, sa_, sb_, sc_, i64_w, i32_w]; rfl
           refine pure_ (i := 6) (N := some 176) (v := ?_) (a' := ?_) z5_32_ rfl rfl (an_ T_) (fun _ _ _ h => h) (Or.inl ⟨by rfl, ?_⟩) ?_ ?_
           rotate_left; · intro w'; go_simp; with_reducible rfl
           rotate_left; · simp only [Act.put, sa_, sb_, sc_, i64_w, i32_w]; rfl
           refine take_ (i := 7) (N := some 177) (v := ?_) (a' := ?_) z5_33_ rfl rfl (tk_ T_ W_) (fun _ _ _ h => h) (Or.inl ⟨by rfl, ?_⟩) hL ?_ ?_
           rotate_left
           ·rintro w' ⟨s0, s1, s2, s3, s4, s5, s6, s7, s8, s9, s10, s11, s12, s13, s14, s15, s16, s17, s18, s19, s20, s21, s22, s23, s24, s25, s26, s27, s28, s29, s30, s31, s32, s33, s34, s35, s36, s37, s38, s39, s40, s41⟩
            refine Eq.trans (run_load_at (ty := 26) (p := .tmp 176) (ad := (ad690.add (((ji65)).toNat * 21))) (cs := [.int .i64 ((rd_T26 t680 (ji65)).f0), .int .u8 ((rd_T26 t680 (ji65)).f1.f0), .int .u8 ((rd_T26 t680 (ji65)).f1.f1), .int .u8 ((rd_T26 t680 (ji65)).f1.f2), .int .u8 ((rd_T26 t680 (ji65)).f1.f3), .int .u8 ((rd_T26 t680 (ji65)).f2.f0), .int .u8 ((rd_T26 t680 (ji65)).f2.f1), .int .u8 ((rd_T26 t680 (ji65)).f2.f2), .int .u8 ((rd_T26 t680 (ji65)).f2.f3), .int .u8 ((rd_T26 t680 (ji65)).f2.f4), .int .u8 ((rd_T26 t680 (ji65)).f2.f5), .int .u8 ((rd_T26 t680 (ji65)).f2.f6), .int .u8 ((rd_T26 t680 (ji65)).f2.f7), .int .u8 ((rd_T26 t680 (ji65)).f2.f8), .int .u8 ((rd_T26 t680 (ji65)).f2.f9), .int .u8 ((rd_T26 t680 (ji65)).f2.f10), .int .u8 ((rd_T26 t680 (ji65)).f2.f11), .int .u8 ((rd_T26 t680 (ji65)).f2.f12), .int .u8 ((rd_T26 t680 (ji65)).f2.f13), .int .u8 ((rd_T26 t680 (ji65)).f2.f14), .int .u8 ((rd_T26 t680 (ji65)).f2.f15)]) (by rfl) (by rfl) Tryd.underlying26 rfl (by kernel_rfl) (ca_cons (show _ from s21) (ca_cons (ca_off s22 (by decide)) (ca_cons (ca_off s23 (by decide)) (ca_cons (ca_off s24 (by decide)) (ca_cons (ca_off s25 (by decide)) (ca_cons (ca_off s26 (by decide)) (ca_cons (ca_off s27 (by decide)) (ca_cons (ca_off s28 (by decide)) (ca_cons (ca_off s29 (by decide)) (ca_cons (ca_off s30 (by decide)) (ca_cons (ca_off s31 (by decide)) (ca_cons (ca_off s32 (by decide)) (ca_cons (ca_off s33 (by decide)) (ca_cons (ca_off s34 (by decide)) (ca_cons (ca_off s35 (by decide)) (ca_cons (ca_off s36 (by decide)) (ca_cons (ca_off s37 (by decide)) (ca_cons (ca_off s38 (by decide)) (ca_cons (ca_off s39 (by decide)) (ca_cons (ca_off s40 (by decide)) (ca_cons (ca_off s41 (by decide)) (ca_nil _ _ _))))))))))))))))))))))) ?_
            with_reducible rfl
           rotate_left
           ·simp only [Act.put, sa_, sb_, sc_, i64_w, i32_w]
            rfl
           refine take_ (i := 8) (N := some 178) (v := ?_) (a' := ?_) z5_34_ rfl rfl (tk_ T_ W_) (fun _ _ _ h => h) (Or.inl ⟨by rfl, ?_⟩) hL ?_ ?_
           rotate_left
           ·rintro w' ⟨s0, s1, s2, s3, s4, s5, s6, s7, s8, s9, s10, s11, s12, s13, s14, s15, s16, s17, s18, s19, s20, s21, s22, s23, s24, s25, s26, s27, s28, s29, s30, s31, s32, s33, s34, s35, s36, s37, s38, s39, s40, s41⟩
            refine Eq.trans (load_cells_run (ty := 26) (p := .tmp 9) (g := g629) (cs := #[.int .i64 t606, .int .u8 t607, .int .u8 t608, .int .u8 t609, .int .u8 t610, .int .u8 t611, .int .u8 t612, .int .u8 t613, .int .u8 t614, .int .u8 t615, .int .u8 t616, .int .u8 t617, .int .u8 t618, .int .u8 t619, .int .u8 t620, .int .u8 t621, .int .u8 t622, .int .u8 t623, .int .u8 t624, .int .u8 t625, .int .u8 t626]) (by rfl) (by rfl) Tryd.underlying26 rfl (by kernel_rfl) (cl_cons s0 (cl_cons s1 (cl_cons s2 (cl_cons s3 (cl_cons s4 (cl_cons s5 (cl_cons s6 (cl_cons s7 (cl_cons s8 (cl_cons s9 (cl_cons s10 (cl_cons s11 (cl_cons s12 (cl_cons s13 (cl_cons s14 (cl_cons s15 (cl_cons s16 (cl_cons s17 (cl_cons s18 (cl_cons s19 (cl_cons s20 (cl_nil _ _ _))))))))))))))))))))))) ?_
            with_reducible rfl
           rotate_left
           ·simp only [Act.put, sa_, sb_, sc_, i64_w, i32_w]
            rfl
           refine pure_ (i := 9) (N := some 179) (v := ?_) (a' := ?_) z5_35_ rfl rfl (an_ T_) (fun _ _ _ h => h) (Or.inl ⟨by rfl, ?_⟩) ?_ ?_
           rotate_left; · intro w'; go_simp; with_reducible rfl
           rotate_left; · simp only [Act.put, sa_, sb_, sc_, i64_w, i32_w]; rfl
           refine pure_ (i := 10) (N := some 180) (v := ?_) (a' := ?_) z5_36_ rfl rfl (an_ T_) (fun _ _ _ h => h) (Or.inl ⟨by rfl, ?_⟩) ?_ ?_
           rotate_left; · intro w'; go_simp; with_reducible rfl
           rotate_left; · simp only [Act.put, sa_, sb_, sc_, i64_w, i32_w]; rfl
           refine one_ (i := 11) (N := some 181) z5_37_ rfl rfl (on_ T_) (by decide) (fun K hK => ?_)
           refine goes_ Tryd.func18 (by kernel_rfl) rfl #[] (by rfl) rfl rfl (by (try simp only [List.map_toArray, List.map_cons, List.map_nil]); first | done | rfl | (go_simp; done)) ?_
           with_reducible refine (attestorlaw28_lives.calls k2  t691 _ ?side1 A69.out).mono ?_
           (case side1 => repeat (first | exact (GL.below HRG.out HB.out) | (with_reducible refine GL.alloc ?_ _) | (with_reducible refine GL.drewN ?_ _) | (with_reducible refine GL.drew ?_)))
           rintro e w72 ⟨rfl, hb⟩
           have HS21_ := (hb.cell (World.block_lt_of_cell? _ _ (hL.2.2.2.2.2.2.2.2.2.2.2.2.2.2.2.2.2.2.2.2.2.1))).trans (hL.2.2.2.2.2.2.2.2.2.2.2.2.2.2.2.2.2.2.2.2.2.1)
           have HS22_ := (hb.cell (World.block_lt_of_cell? _ _ (hL.2.2.2.2.2.2.2.2.2.2.2.2.2.2.2.2.2.2.2.2.2.2.1))).trans (hL.2.2.2.2.2.2.2.2.2.2.2.2.2.2.2.2.2.2.2.2.2.2.1)
           have HS23_ := (hb.cell (World.block_lt_of_cell? _ _ (hL.2.2.2.2.2.2.2.2.2.2.2.2.2.2.2.2.2.2.2.2.2.2.2.1))).trans (hL.2.2.2.2.2.2.2.2.2.2.2.2.2.2.2.2.2.2.2.2.2.2.2.1)
           have HS24_ := (hb.cell (World.block_lt_of_cell? _ _ (hL.2.2.2.2.2.2.2.2.2.2.2.2.2.2.2.2.2.2.2.2.2.2.2.2.1))).trans (hL.2.2.2.2.2.2.2.2.2.2.2.2.2.2.2.2.2.2.2.2.2.2.2.2.1)
           have HS25_ := (hb.cell (World.block_lt_of_cell? _ _ (hL.2.2.2.2.2.2.2.2.2.2.2.2.2.2.2.2.2.2.2.2.2.2.2.2.2.1))).trans (hL.2.2.2.2.2.2.2.2.2.2.2.2.2.2.2.2.2.2.2.2.2.2.2.2.2.1)
           have HS26_ := (hb.cell (World.block_lt_of_cell? _ _ (hL.2.2.2.2.2.2.2.2.2.2.2.2.2.2.2.2.2.2.2.2.2.2.2.2.2.2.1))).trans (hL.2.2.2.2.2.2.2.2.2.2.2.2.2.2.2.2.2.2.2.2.2.2.2.2.2.2.1)
           have HS27_ := (hb.cell (World.block_lt_of_cell? _ _ (hL.2.2.2.2.2.2.2.2.2.2.2.2.2.2.2.2.2.2.2.2.2.2.2.2.2.2.2.1))).trans (hL.2.2.2.2.2.2.2.2.2.2.2.2.2.2.2.2.2.2.2.2.2.2.2.2.2.2.2.1)
           have HS28_ := (hb.cell (World.block_lt_of_cell? _ _ (hL.2.2.2.2.2.2.2.2.2.2.2.2.2.2.2.2.2.2.2.2.2.2.2.2.2.2.2.2.1))).trans (hL.2.2.2.2.2.2.2.2.2.2.2.2.2.2.2.2.2.2.2.2.2.2.2.2.2.2.2.2.1)
           have HS29_ := (hb.cell (World.block_lt_of_cell? _ _ (hL.2.2.2.2.2.2.2.2.2.2.2.2.2.2.2.2.2.2.2.2.2.2.2.2.2.2.2.2.2.1))).trans (hL.2.2.2.2.2.2.2.2.2.2.2.2.2.2.2.2.2.2.2.2.2.2.2.2.2.2.2.2.2.1)
           have HS30_ := (hb.cell (World.block_lt_of_cell? _ _ (hL.2.2.2.2.2.2.2.2.2.2.2.2.2.2.2.2.2.2.2.2.2.2.2.2.2.2.2.2.2.2.1))).trans (hL.2.2.2.2.2.2.2.2.2.2.2.2.2.2.2.2.2.2.2.2.2.2.2.2.2.2.2.2.2.2.1)
           have HS31_ := (hb.cell (World.block_lt_of_cell? _ _ (hL.2.2.2.2.2.2.2.2.2.2.2.2.2.2.2.2.2.2.2.2.2.2.2.2.2.2.2.2.2.2.2.1))).trans (hL.2.2.2.2.2.2.2.2.2.2.2.2.2.2.2.2.2.2.2.2.2.2.2.2.2.2.2.2.2.2.2.1)
           have HS32_ := (hb.cell (World.block_lt_of_cell? _ _ (hL.2.2.2.2.2.2.2.2.2.2.2.2.2.2.2.2.2.2.2.2.2.2.2.2.2.2.2.2.2.2.2.2.1))).trans (hL.2.2.2.2.2.2.2.2.2.2.2.2.2.2.2.2.2.2.2.2.2.2.2.2.2.2.2.2.2.2.2.2.1)
           have HS33_ := (hb.cell (World.block_lt_of_cell? _ _ (hL.2.2.2.2.2.2.2.2.2.2.2.2.2.2.2.2.2.2.2.2.2.2.2.2.2.2.2.2.2.2.2.2.2.1))).trans (hL.2.2.2.2.2.2.2.2.2.2.2.2.2.2.2.2.2.2.2.2.2.2.2.2.2.2.2.2.2.2.2.2.2.1)
           have HS34_ := (hb.cell (World.block_lt_of_cell? _ _ (hL.2.2.2.2.2.2.2.2.2.2.2.2.2.2.2.2.2.2.2.2.2.2.2.2.2.2.2.2.2.2.2.2.2.2.1))).trans (hL.2.2.2.2.2.2.2.2.2.2.2.2.2.2.2.2.2.2.2.2.2.2.2.2.2.2.2.2.2.2.2.2.2.2.1)
           have HS35_ := (hb.cell (World.block_lt_of_cell? _ _ (hL.2.2.2.2.2.2.2.2.2.2.2.2.2.2.2.2.2.2.2.2.2.2.2.2.2.2.2.2.2.2.2.2.2.2.2.1))).trans (hL.2.2.2.2.2.2.2.2.2.2.2.2.2.2.2.2.2.2.2.2.2.2.2.2.2.2.2.2.2.2.2.2.2.2.2.1)
           have HS36_ := (hb.cell (World.block_lt_of_cell? _ _ (hL.2.2.2.2.2.2.2.2.2.2.2.2.2.2.2.2.2.2.2.2.2.2.2.2.2.2.2.2.2.2.2.2.2.2.2.2.1))).trans (hL.2.2.2.2.2.2.2.2.2.2.2.2.2.2.2.2.2.2.2.2.2.2.2.2.2.2.2.2.2.2.2.2.2.2.2.2.1)
           have HS37_ := (hb.cell (World.block_lt_of_cell? _ _ (hL.2.2.2.2.2.2.2.2.2.2.2.2.2.2.2.2.2.2.2.2.2.2.2.2.2.2.2.2.2.2.2.2.2.2.2.2.2.1))).trans (hL.2.2.2.2.2.2.2.2.2.2.2.2.2.2.2.2.2.2.2.2.2.2.2.2.2.2.2.2.2.2.2.2.2.2.2.2.2.1)
           have HS38_ := (hb.cell (World.block_lt_of_cell? _ _ (hL.2.2.2.2.2.2.2.2.2.2.2.2.2.2.2.2.2.2.2.2.2.2.2.2.2.2.2.2.2.2.2.2.2.2.2.2.2.2.1))).trans (hL.2.2.2.2.2.2.2.2.2.2.2.2.2.2.2.2.2.2.2.2.2.2.2.2.2.2.2.2.2.2.2.2.2.2.2.2.2.2.1)
           have HS39_ := (hb.cell (World.block_lt_of_cell? _ _ (hL.2.2.2.2.2.2.2.2.2.2.2.2.2.2.2.2.2.2.2.2.2.2.2.2.2.2.2.2.2.2.2.2.2.2.2.2.2.2.2.1))).trans (hL.2.2.2.2.2.2.2.2.2.2.2.2.2.2.2.2.2.2.2.2.2.2.2.2.2.2.2.2.2.2.2.2.2.2.2.2.2.2.2.1)
           have HS40_ := (hb.cell (World.block_lt_of_cell? _ _ (hL.2.2.2.2.2.2.2.2.2.2.2.2.2.2.2.2.2.2.2.2.2.2.2.2.2.2.2.2.2.2.2.2.2.2.2.2.2.2.2.2.1))).trans (hL.2.2.2.2.2.2.2.2.2.2.2.2.2.2.2.2.2.2.2.2.2.2.2.2.2.2.2.2.2.2.2.2.2.2.2.2.2.2.2.2.1)
           have HS41_ := (hb.cell (World.block_lt_of_cell? _ _ (hL.2.2.2.2.2.2.2.2.2.2.2.2.2.2.2.2.2.2.2.2.2.2.2.2.2.2.2.2.2.2.2.2.2.2.2.2.2.2.2.2.2))).trans (hL.2.2.2.2.2.2.2.2.2.2.2.2.2.2.2.2.2.2.2.2.2.2.2.2.2.2.2.2.2.2.2.2.2.2.2.2.2.2.2.2.2)
           refine ⟨_, rfl, ?_⟩
           have n0_ := Aside0.mk (Kd.R_below (by (with_reducible repeat (first | apply Kd.R_alloc | apply Kd.R_drewN | apply Kd.R_drew)); exact HO_0.out) hb)
           have n1_ := Aside0.mk (Kd.R_below (by (with_reducible repeat (first | apply Kd.R_alloc | apply Kd.R_drewN | apply Kd.R_drew)); exact HO_18.out) hb)
           have n2_ := Aside0.mk (blk_below (g := g581) (o := .cells #[.int .i64 t585, .int .u8 t586, .int .u8 t587, .int .u8 t588, .int .u8 t589, .int .u8 t590, .int .u8 t591, .int .u8 t592, .int .u8 t593, .int .u8 t594, .int .u8 t595, .int .u8 t596, .int .u8 t597, .int .u8 t598, .int .u8 t599, .int .u8 t600, .int .u8 t601, .int .u8 t602, .int .u8 t603, .int .u8 t604, .int .u8 t605] 26 (0, 0)) (by exact B581.out) hb)
           have n3_ := Aside0.mk (blk_below (g := g629) (o := .cells #[.int .i64 t606, .int .u8 t607, .int .u8 t608, .int .u8 t609, .int .u8 t610, .int .u8 t611, .int .u8 t612, .int .u8 t613, .int .u8 t614, .int .u8 t615, .int .u8 t616, .int .u8 t617, .int .u8 t618, .int .u8 t619, .int .u8 t620, .int .u8 t621, .int .u8 t622, .int .u8 t623, .int .u8 t624, .int .u8 t625, .int .u8 t626] 26 (0, 0)) (by exact B629.out) hb)
           have n4_ := Aside0.mk (blk_below (g := g655) (o := .cells #[.int .i64 t632, .int .u8 t633, .int .u8 t634, .int .u8 t635, .int .u8 t636, .int .u8 t637, .int .u8 t638, .int .u8 t639, .int .u8 t640, .int .u8 t641, .int .u8 t642, .int .u8 t643, .int .u8 t644, .int .u8 t645, .int .u8 t646, .int .u8 t647, .int .u8 t648, .int .u8 t649, .int .u8 t650, .int .u8 t651, .int .u8 t652] 26 (0, 0)) (by exact B655.out) hb)
           have n5_ := Aside0.mk (blk_below (g := g679) (o := .cells #[.int .i64 t656, .int .u8 t657, .int .u8 t658, .int .u8 t659, .int .u8 t660, .int .u8 t661, .int .u8 t662, .int .u8 t663, .int .u8 t664, .int .u8 t665, .int .u8 t666, .int .u8 t667, .int .u8 t668, .int .u8 t669, .int .u8 t670, .int .u8 t671, .int .u8 t672, .int .u8 t673, .int .u8 t674, .int .u8 t675, .int .u8 t676] 26 (0, 0)) (by exact B679.out) hb)
           have n6_ := Aside0.mk (below_step (by repeat (first | (with_reducible first | exact HB.out | apply below_alloc | apply pw_below_drewN | apply below_drew1 | refine below_set ?_ GE581.out | refine below_set ?_ GE629.out | refine below_set ?_ GE655.out | refine below_set ?_ GE679.out) | exact HB.out)) hb)
           clear HO_0
           clear HO_18
           clear B581
           clear B629
           clear B655
           clear B679
           clear HB
           have HO_0 := n0_
           have HO_18 := n1_
           have B581 := n2_
           have B629 := n3_
           have B655 := n4_
           have B679 := n5_
           have HB := n6_
           clear n0_ n1_ n2_ n3_ n4_ n5_ n6_
           (try clear hb)
           (try clear hb2)
           (try clear hk)
           (try clear hi)
           refine hK.out _ _ ⟨bq_ B629 0, bq_ B629 1, bq_ B629 2, bq_ B629 3, bq_ B629 4, bq_ B629 5, bq_ B629 6, bq_ B629 7, bq_ B629 8, bq_ B629 9, bq_ B629 10, bq_ B629 11, bq_ B629 12, bq_ B629 13, bq_ B629 14, bq_ B629 15, bq_ B629 16, bq_ B629 17, bq_ B629 18, bq_ B629 19, bq_ B629 20, HS21_, HS22_, HS23_, HS24_, HS25_, HS26_, HS27_, HS28_, HS29_, HS30_, HS31_, HS32_, HS33_, HS34_, HS35_, HS36_, HS37_, HS38_, HS39_, HS40_, HS41_⟩ (fun hL => ?_)
           clear hK K
           refine norm_ (a' := ?_) ?_ ?_
           rotate_left
           ·show Act.put _ (some 181) _ = _
            simp only [Act.put, sa_, sb_, sc_, i64_w, i32_w]
            rfl
           refine pure_ (i := 12) (N := some 182) (v := ?_) (a' := ?_) z5_38_ rfl rfl (an_ T_) (fun _ _ _ h => h) (Or.inl ⟨by rfl, ?_⟩) ?_ ?_
           rotate_left; · intro w'; go_simp; with_reducible rfl
           rotate_left; · simp only [Act.put, sa_, sb_, sc_, i64_w, i32_w]; rfl
           refine pure_ (i := 13) (N := some 8) (v := ?_) (a' := ?_) z5_39_ rfl rfl (an_ T_) (fun _ _ _ h => h) (Or.inl ⟨by rfl, ?_⟩) ?_ ?_
           rotate_left; · intro w'; go_simp; with_reducible rfl
           rotate_left; · simp only [Act.put, sa_, sb_, sc_, i64_w, i32_w]; rfl
           refine done_ (done_of T_.out (by kernel_rfl)) ?_
           try go_wp2
           go_ret
           exact ⟨by first | rfl | (simp [errW_none, errW_some] <;> rfl) | (simp only [← hji65]; first | rfl | (simp [errW_none, errW_some] <;> rfl)) | (simp [*, errW_none, errW_some] <;> rfl), by repeat (first | (with_reducible first | exact HB.out | apply below_alloc | apply pw_below_drewN | apply below_drew1 | refine below_set ?_ GE581.out | refine below_set ?_ GE629.out | refine below_set ?_ GE655.out | refine below_set ?_ GE679.out) | exact HB.out)⟩
          ·rw [if_neg c68] at H
           exact absurd H (by simp)
         ·rw [if_neg c67] at H
          exact absurd H (by simp)
        ·rw [if_neg c66] at H
         exact absurd H (by simp)
 ·rw [if_neg c9] at H
  have c9b0 : (t630 == 0) = false := beq_eq_false_iff_ne.mpr c9
  have c9b1 : (t630 != 0) = true := bne_iff_ne.mpr c9
  by_cases c73 : t628 = 1
  ·rw [if_pos c73] at H
   have c73b0 : (t628 == 1) = true := beq_iff_eq.mpr c73
   have c73b1 : (t628 != 1) = false := bne_eq_false_iff_eq.mpr c73
   clear c73
   by_cases c74 : t627 = 0
   ·rw [if_pos c74] at H
    have c74b0 : (t627 == 0) = true := beq_iff_eq.mpr c74
    have c74b1 : (t627 != 0) = false := bne_eq_false_iff_eq.mpr c74
    clear c74
    by_cases c75 : (t606 == 0 && ((t607 == 0 && (t608 == 0 && (t609 == 0 && (t610 == 0)))) && ((t611 == 0 && (t612 == 0 && (t613 == 0 && (t614 == 0 && (t615 == 0 && (t616 == 0 && (t617 == 0 && (t618 == 0 && (t619 == 0 && (t620 == 0 && (t621 == 0 && (t622 == 0 && (t623 == 0 && (t624 == 0 && (t625 == 0 && (t626 == 0))))))))))))))))))) = true
    ·rw [if_pos c75] at H
     have c75b0 : (t606 == 0 && ((t607 == 0 && (t608 == 0 && (t609 == 0 && (t610 == 0)))) && ((t611 == 0 && (t612 == 0 && (t613 == 0 && (t614 == 0 && (t615 == 0 && (t616 == 0 && (t617 == 0 && (t618 == 0 && (t619 == 0 && (t620 == 0 && (t621 == 0 && (t622 == 0 && (t623 == 0 && (t624 == 0 && (t625 == 0 && (t626 == 0))))))))))))))))))) = true := c75
     (try (have c75b1 : decide (t606 = 0 && ((t607 == 0 && (t608 == 0 && (t609 == 0 && (t610 == 0)))) && ((t611 == 0 && (t612 == 0 && (t613 == 0 && (t614 == 0 && (t615 == 0 && (t616 == 0 && (t617 == 0 && (t618 == 0 && (t619 == 0 && (t620 == 0 && (t621 == 0 && (t622 == 0 && (t623 == 0 && (t624 == 0 && (t625 == 0 && (t626 == 0))))))))))))))))))) = true := by simpa using c75))
     (try (have c75b2 : (t606 == 0 && ((t607 == 0 && (t608 == 0 && (t609 == 0 && (t610 == 0)))) && ((t611 == 0 && (t612 == 0 && (t613 == 0 && (t614 == 0 && (t615 == 0 && (t616 == 0 && (t617 == 0 && (t618 == 0 && (t619 == 0 && (t620 == 0 && (t621 == 0 && (t622 == 0 && (t623 == 0 && (t624 == 0 && (t625 == 0 && (t626 == 0))))))))))))))))))) = true := by simpa using c75))
     clear c75
     replace H := Option.bind_eq_some_iff.mp H
     obtain ⟨t631, A760, H⟩ := H
     have A76 := Aside0.mk A760
     clear A760
     obtain rfl := Option.some.inj H
     go_enter Tryd.func5, Tryd.ntmps5
     go_wp2_with (first | ((with_reducible refine gate_dst (N := 5) rfl ?_); (try (refine gate_guard (by rfl) ?_; dsimp only)); refine box_event ?hg (N := 5) ?hd (cs := #[.int .i64 a1_0, .int .u8 a1_1, .int .u8 a1_2, .int .u8 a1_3, .int .u8 a1_4, .int .u8 a1_5, .int .u8 a1_6, .int .u8 a1_7, .int .u8 a1_8, .int .u8 a1_9, .int .u8 a1_10, .int .u8 a1_11, .int .u8 a1_12, .int .u8 a1_13, .int .u8 a1_14, .int .u8 a1_15, .int .u8 a1_16, .int .u8 a1_17, .int .u8 a1_18, .int .u8 a1_19, .int .u8 a1_20]) (t := 26) ?hr ?_; (case hd => rfl); (case hg => rfl); (case hr => first | (go_simp; done) | (go_simp; rfl)); intro g581 hg w77 hbox hb; have n0_ := Aside0.mk (below_step (by repeat (first | (with_reducible first | exact HB.out | apply below_alloc | apply pw_below_drewN | apply below_drew1) | exact HB.out)) hb); have n1_ := Aside0.mk (hbox); have n2_ := Aside0.mk ((by rw [hg]; exact (below_size (by repeat (first | (with_reducible first | exact HB.out | apply below_alloc | apply pw_below_drewN | apply below_drew1) | exact HB.out))) : w.heap.size ≤ g581)); have n3_ := Aside0.mk ((by rw [hg]; exact (below_size (by repeat (first | (with_reducible first | exact HB.out | apply below_alloc | apply pw_below_drewN | apply below_drew1) | exact HB.out))) : w.heap.size ≤ g581)); clear HB; have HB := n0_; have B581 := n1_; have GW581 := n2_; have GE581 := n3_; clear n0_ n1_ n2_ n3_; clear hb hbox hg) | ((with_reducible refine gate_callee (f := 9) rfl ?_); refine goesL_ (some 22) rfl rfl Tryd.func9 (by kernel_rfl) rfl #[.slice A0 l0.length c0] rfl (by (try simp only [List.map_toArray, List.map_cons, List.map_nil]); first | done | rfl | (go_simp; done)) ?_; (with_reducible refine (attestorlaw28_cut.calls _ _ l0 t582 _ ?side1 ?side2 A5.out).mono ?_); (case side1 => repeat (first | exact (Kd.C_below HR0.out HB.out) | (with_reducible refine Kd.C_alloc ?_ _) | (with_reducible refine Kd.C_drewN ?_ _) | (with_reducible refine Kd.C_drew ?_))); (case side2 => exact HC0.out); rintro e w78 ⟨v583, rfl, ho0, hb⟩; refine ⟨_, rfl, ?_⟩; have n0_ := Aside0.mk (Kd.R_lower ho0 (below_size (by repeat (first | (with_reducible first | exact HB.out | apply below_alloc | apply pw_below_drewN | apply below_drew1 | refine below_set ?_ GE581.out) | exact HB.out)))); have n1_ := Aside0.mk (blk_below (g := g581) (o := .cells #[.int .i64 a1_0, .int .u8 a1_1, .int .u8 a1_2, .int .u8 a1_3, .int .u8 a1_4, .int .u8 a1_5, .int .u8 a1_6, .int .u8 a1_7, .int .u8 a1_8, .int .u8 a1_9, .int .u8 a1_10, .int .u8 a1_11, .int .u8 a1_12, .int .u8 a1_13, .int .u8 a1_14, .int .u8 a1_15, .int .u8 a1_16, .int .u8 a1_17, .int .u8 a1_18, .int .u8 a1_19, .int .u8 a1_20] 26 (0, 0)) (by exact B581.out) hb); have n2_ := Aside0.mk (below_step (by repeat (first | (with_reducible first | exact HB.out | apply below_alloc | apply pw_below_drewN | apply below_drew1 | refine below_set ?_ GE581.out) | exact HB.out)) hb); clear B581; clear HB; have HO584 := n0_; have B581 := n1_; have HB := n2_; clear n0_ n1_ n2_; (try clear hb); (try clear hb2); (try clear hk); (try clear hi); (try clear ho0)) | ((with_reducible refine gate_dst (N := 24) rfl ?_); (try (refine gate_guard (by rfl) ?_; dsimp only)); refine wpList_load_row rfl 26 (.tmp 5) rfl g581 rfl 26 #[.int .i64 a1_0, .int .u8 a1_1, .int .u8 a1_2, .int .u8 a1_3, .int .u8 a1_4, .int .u8 a1_5, .int .u8 a1_6, .int .u8 a1_7, .int .u8 a1_8, .int .u8 a1_9, .int .u8 a1_10, .int .u8 a1_11, .int .u8 a1_12, .int .u8 a1_13, .int .u8 a1_14, .int .u8 a1_15, .int .u8 a1_16, .int .u8 a1_17, .int .u8 a1_18, .int .u8 a1_19, .int .u8 a1_20] (0, 0) _ (by exact B581.out) Tryd.underlying26 rfl (by kernel_rfl) ?_; obtain ⟨Ao79, co79, eo79⟩ := Kd.R_slice HO584.out; subst eo79) | ((with_reducible refine gate_callee (f := 24) rfl ?_); refine goesL_ (some 25) rfl rfl Tryd.func24 (by kernel_rfl) rfl #[.slice Ao79 t582.length co79, .agg #[.int .i64 a1_0, .int .u8 a1_1, .int .u8 a1_2, .int .u8 a1_3, .int .u8 a1_4, .int .u8 a1_5, .int .u8 a1_6, .int .u8 a1_7, .int .u8 a1_8, .int .u8 a1_9, .int .u8 a1_10, .int .u8 a1_11, .int .u8 a1_12, .int .u8 a1_13, .int .u8 a1_14, .int .u8 a1_15, .int .u8 a1_16, .int .u8 a1_17, .int .u8 a1_18, .int .u8 a1_19, .int .u8 a1_20]] rfl (by (try simp only [List.map_toArray, List.map_cons, List.map_nil]); first | done | rfl | (go_simp; done)) ?_; (with_reducible refine (attestorlaw28_valid.calls _ _ t582 a1_0 a1_1 a1_2 a1_3 a1_4 a1_5 a1_6 a1_7 a1_8 a1_9 a1_10 a1_11 a1_12 a1_13 a1_14 a1_15 a1_16 a1_17 a1_18 a1_19 a1_20 t585 t586 t587 t588 t589 t590 t591 t592 t593 t594 t595 t596 t597 t598 t599 t600 t601 t602 t603 t604 t605 _ ?side1 ?side2 A6.out).mono ?_); (case side1 => repeat (first | exact (Kd.R_reads' HO584.out).2.2 | (with_reducible refine Kd.C_alloc ?_ _) | (with_reducible refine Kd.C_drewN ?_ _) | (with_reducible refine Kd.C_drew ?_))); (case side2 => exact (Kd.R_reads' HO584.out).2.1); rintro e w80 ⟨rfl, hb⟩; refine ⟨_, rfl, ?_⟩; have n0_ := Aside0.mk (Kd.R_below (by (with_reducible repeat (first | apply Kd.R_alloc | apply Kd.R_drewN | apply Kd.R_drew)); exact HO584.out) hb); have n1_ := Aside0.mk (blk_below (g := g581) (o := .cells #[.int .i64 a1_0, .int .u8 a1_1, .int .u8 a1_2, .int .u8 a1_3, .int .u8 a1_4, .int .u8 a1_5, .int .u8 a1_6, .int .u8 a1_7, .int .u8 a1_8, .int .u8 a1_9, .int .u8 a1_10, .int .u8 a1_11, .int .u8 a1_12, .int .u8 a1_13, .int .u8 a1_14, .int .u8 a1_15, .int .u8 a1_16, .int .u8 a1_17, .int .u8 a1_18, .int .u8 a1_19, .int .u8 a1_20] 26 (0, 0)) (by exact B581.out) hb); have n2_ := Aside0.mk (below_step (by repeat (first | (with_reducible first | exact HB.out | apply below_alloc | apply pw_below_drewN | apply below_drew1 | refine below_set ?_ GE581.out) | exact HB.out)) hb); clear HO584; clear B581; clear HB; have HO584 := n0_; have B581 := n1_; have HB := n2_; clear n0_ n1_ n2_; (try clear hb); (try clear hb2); (try clear hk); (try clear hi)) | ((with_reducible refine gate_store (t := 26) (p := 5) rfl ?_); refine store_wide rfl 26 5 _ rfl rfl g581 #[.int .i64 t585, .int .u8 t586, .int .u8 t587, .int .u8 t588, .int .u8 t589, .int .u8 t590, .int .u8 t591, .int .u8 t592, .int .u8 t593, .int .u8 t594, .int .u8 t595, .int .u8 t596, .int .u8 t597, .int .u8 t598, .int .u8 t599, .int .u8 t600, .int .u8 t601, .int .u8 t602, .int .u8 t603, .int .u8 t604, .int .u8 t605] rfl rfl 26 #[.int .i64 a1_0, .int .u8 a1_1, .int .u8 a1_2, .int .u8 a1_3, .int .u8 a1_4, .int .u8 a1_5, .int .u8 a1_6, .int .u8 a1_7, .int .u8 a1_8, .int .u8 a1_9, .int .u8 a1_10, .int .u8 a1_11, .int .u8 a1_12, .int .u8 a1_13, .int .u8 a1_14, .int .u8 a1_15, .int .u8 a1_16, .int .u8 a1_17, .int .u8 a1_18, .int .u8 a1_19, .int .u8 a1_20] B581.out (by kernel_rfl) rfl (by simp [Value.oneCell']) ?_; intro w81 hnew hoth hbel; have n0_ := Aside0.mk (Kd.R_mono (Kd.R_step (Kd.R_types HO584.out B581.out (by decide)) (fun k_ hk _ => hoth k_ hk.2)) (fun _ hk => hk.1)); have n1_ := Aside0.mk (hnew); have n2_ := Aside0.mk (Below.trans (by repeat (first | (with_reducible first | exact HB.out | apply below_alloc | apply pw_below_drewN | apply below_drew1 | refine below_set ?_ GE581.out) | exact HB.out)) (hbel.mono GE581.out)); clear HO584; clear B581; clear HB; have HO584 := n0_; have B581 := n1_; have HB := n2_; clear n0_ n1_ n2_; clear hnew hoth hbel) | ((with_reducible refine gate_dst (N := 28) rfl ?_); (try (refine gate_guard (by rfl) ?_; dsimp only)); refine wpList_load_row rfl 26 (.tmp 5) rfl g581 rfl 26 #[.int .i64 t585, .int .u8 t586, .int .u8 t587, .int .u8 t588, .int .u8 t589, .int .u8 t590, .int .u8 t591, .int .u8 t592, .int .u8 t593, .int .u8 t594, .int .u8 t595, .int .u8 t596, .int .u8 t597, .int .u8 t598, .int .u8 t599, .int .u8 t600, .int .u8 t601, .int .u8 t602, .int .u8 t603, .int .u8 t604, .int .u8 t605] (0, 0) _ (by exact B581.out) Tryd.underlying26 rfl (by kernel_rfl) ?_) | ((with_reducible refine gate_callee (f := 19) rfl ?_); refine goesL_ (some 31) rfl rfl Tryd.func19 (by kernel_rfl) rfl #[.slice Ao79 t582.length co79, .agg #[.int .i64 t585, .int .u8 t586, .int .u8 t587, .int .u8 t588, .int .u8 t589, .int .u8 t590, .int .u8 t591, .int .u8 t592, .int .u8 t593, .int .u8 t594, .int .u8 t595, .int .u8 t596, .int .u8 t597, .int .u8 t598, .int .u8 t599, .int .u8 t600, .int .u8 t601, .int .u8 t602, .int .u8 t603, .int .u8 t604, .int .u8 t605], .int .i64 (wrap64 (a2))] rfl (by (try simp only [List.map_toArray, List.map_cons, List.map_nil]); first | done | rfl | (go_simp; done)) ?_; (with_reducible refine (machine_Run.calls k _ _ t582 t585 t586 t587 t588 t589 t590 t591 t592 t593 t594 t595 t596 t597 t598 t599 t600 t601 t602 t603 t604 t605 (wrap64 (a2)) t606 t607 t608 t609 t610 t611 t612 t613 t614 t615 t616 t617 t618 t619 t620 t621 t622 t623 t624 t625 t626 t627 t628 _ ?side1 ?side2 ?side3 A7.out).mono ?_); (case side1 => repeat (first | exact (Kd.R_reads' HO584.out).2.2 | (with_reducible refine Kd.C_alloc ?_ _) | (with_reducible refine Kd.C_drewN ?_ _) | (with_reducible refine Kd.C_drew ?_))); (case side2 => exact (Kd.R_reads' HO584.out).2.1); (case side3 => repeat (first | exact (GL.below HRG.out HB.out) | (with_reducible refine GL.alloc ?_ _) | (with_reducible refine GL.drewN ?_ _) | (with_reducible refine GL.drew ?_))); rintro e w82 ⟨rfl, hb⟩; refine ⟨_, rfl, ?_⟩; have n0_ := Aside0.mk (Kd.R_below (by (with_reducible repeat (first | apply Kd.R_alloc | apply Kd.R_drewN | apply Kd.R_drew)); exact HO584.out) hb); have n1_ := Aside0.mk (blk_below (g := g581) (o := .cells #[.int .i64 t585, .int .u8 t586, .int .u8 t587, .int .u8 t588, .int .u8 t589, .int .u8 t590, .int .u8 t591, .int .u8 t592, .int .u8 t593, .int .u8 t594, .int .u8 t595, .int .u8 t596, .int .u8 t597, .int .u8 t598, .int .u8 t599, .int .u8 t600, .int .u8 t601, .int .u8 t602, .int .u8 t603, .int .u8 t604, .int .u8 t605] 26 (0, 0)) (by exact B581.out) hb); have n2_ := Aside0.mk (below_step (by repeat (first | (with_reducible first | exact HB.out | apply below_alloc | apply pw_below_drewN | apply below_drew1 | refine below_set ?_ GE581.out) | exact HB.out)) hb); clear HO584; clear B581; clear HB; have HO584 := n0_; have B581 := n1_; have HB := n2_; clear n0_ n1_ n2_; (try clear hb); (try clear hb2); (try clear hk); (try clear hi)) | ((with_reducible refine gate_dst (N := 9) rfl ?_); (try (refine gate_guard (by rfl) ?_; dsimp only)); refine box_event ?hg (N := 9) ?hd (cs := #[.int .i64 0, .int .u8 0, .int .u8 0, .int .u8 0, .int .u8 0, .int .u8 0, .int .u8 0, .int .u8 0, .int .u8 0, .int .u8 0, .int .u8 0, .int .u8 0, .int .u8 0, .int .u8 0, .int .u8 0, .int .u8 0, .int .u8 0, .int .u8 0, .int .u8 0, .int .u8 0, .int .u8 0]) (t := 26) ?hr ?_; (case hd => rfl); (case hg => rfl); (case hr => first | (go_simp; done) | (go_simp; rfl)); intro g629 hg w83 hbox hb; have n0_ := Aside0.mk (Kd.R_below (by (with_reducible repeat (first | apply Kd.R_alloc | apply Kd.R_drewN | apply Kd.R_drew)); exact HO584.out) hb); have n1_ := Aside0.mk (blk_below (g := g581) (o := .cells #[.int .i64 t585, .int .u8 t586, .int .u8 t587, .int .u8 t588, .int .u8 t589, .int .u8 t590, .int .u8 t591, .int .u8 t592, .int .u8 t593, .int .u8 t594, .int .u8 t595, .int .u8 t596, .int .u8 t597, .int .u8 t598, .int .u8 t599, .int .u8 t600, .int .u8 t601, .int .u8 t602, .int .u8 t603, .int .u8 t604, .int .u8 t605] 26 (0, 0)) (by exact B581.out) hb); have n2_ := Aside0.mk (below_step (by repeat (first | (with_reducible first | exact HB.out | apply below_alloc | apply pw_below_drewN | apply below_drew1 | refine below_set ?_ GE581.out) | exact HB.out)) hb); have n3_ := Aside0.mk (hbox); have n4_ := Aside0.mk ((by rw [hg]; exact (below_size (by repeat (first | (with_reducible first | exact HB.out | apply below_alloc | apply pw_below_drewN | apply below_drew1 | refine below_set ?_ GE581.out) | exact HB.out))) : w.heap.size ≤ g629)); have n5_ := Aside0.mk ((by rw [hg]; exact (below_size (by repeat (first | (with_reducible first | exact HB.out | apply below_alloc | apply pw_below_drewN | apply below_drew1 | refine below_set ?_ GE581.out) | exact HB.out))) : w.heap.size ≤ g629)); have n6_ := Aside0.mk ((by rw [hg]; exact Nat.ne_of_lt (blk_lt (g := g581) (o := .cells #[.int .i64 t585, .int .u8 t586, .int .u8 t587, .int .u8 t588, .int .u8 t589, .int .u8 t590, .int .u8 t591, .int .u8 t592, .int .u8 t593, .int .u8 t594, .int .u8 t595, .int .u8 t596, .int .u8 t597, .int .u8 t598, .int .u8 t599, .int .u8 t600, .int .u8 t601, .int .u8 t602, .int .u8 t603, .int .u8 t604, .int .u8 t605] 26 (0, 0)) (by exact B581.out)) : g581 ≠ g629)); have n7_ := Aside0.mk ((by rw [hg]; exact Nat.ne_of_gt (blk_lt (g := g581) (o := .cells #[.int .i64 t585, .int .u8 t586, .int .u8 t587, .int .u8 t588, .int .u8 t589, .int .u8 t590, .int .u8 t591, .int .u8 t592, .int .u8 t593, .int .u8 t594, .int .u8 t595, .int .u8 t596, .int .u8 t597, .int .u8 t598, .int .u8 t599, .int .u8 t600, .int .u8 t601, .int .u8 t602, .int .u8 t603, .int .u8 t604, .int .u8 t605] 26 (0, 0)) (by exact B581.out)) : g629 ≠ g581)); clear HO584; clear B581; clear HB; have HO584 := n0_; have B581 := n1_; have HB := n2_; have B629 := n3_; have GW629 := n4_; have GE629 := n5_; have NB581_629 := n6_; have NB629_581 := n7_; clear n0_ n1_ n2_ n3_ n4_ n5_ n6_ n7_; clear hb hbox hg) | ((with_reducible refine gate_store (t := 26) (p := 9) rfl ?_); refine store_wide rfl 26 9 _ rfl rfl g629 #[.int .i64 t606, .int .u8 t607, .int .u8 t608, .int .u8 t609, .int .u8 t610, .int .u8 t611, .int .u8 t612, .int .u8 t613, .int .u8 t614, .int .u8 t615, .int .u8 t616, .int .u8 t617, .int .u8 t618, .int .u8 t619, .int .u8 t620, .int .u8 t621, .int .u8 t622, .int .u8 t623, .int .u8 t624, .int .u8 t625, .int .u8 t626] rfl rfl 26 #[.int .i64 0, .int .u8 0, .int .u8 0, .int .u8 0, .int .u8 0, .int .u8 0, .int .u8 0, .int .u8 0, .int .u8 0, .int .u8 0, .int .u8 0, .int .u8 0, .int .u8 0, .int .u8 0, .int .u8 0, .int .u8 0, .int .u8 0, .int .u8 0, .int .u8 0, .int .u8 0, .int .u8 0] B629.out (by kernel_rfl) rfl (by simp [Value.oneCell']) ?_; intro w84 hnew hoth hbel; have n0_ := Aside0.mk (Kd.R_mono (Kd.R_step (Kd.R_types HO584.out B629.out (by decide)) (fun k_ hk _ => hoth k_ hk.2)) (fun _ hk => hk.1)); have n1_ := Aside0.mk ((hoth _ NB581_629.out).trans B581.out); have n2_ := Aside0.mk (hnew); have n3_ := Aside0.mk (Below.trans (by repeat (first | (with_reducible first | exact HB.out | apply below_alloc | apply pw_below_drewN | apply below_drew1 | refine below_set ?_ GE581.out | refine below_set ?_ GE629.out) | exact HB.out)) (hbel.mono GE629.out)); clear HO584; clear B581; clear B629; clear HB; have HO584 := n0_; have B581 := n1_; have B629 := n2_; have HB := n3_; clear n0_ n1_ n2_ n3_; clear hnew hoth hbel) | ((with_reducible refine gate_callee (f := 25) rfl ?_); refine goesL_ (some 36) rfl rfl Tryd.func25 (by kernel_rfl) rfl #[.slice Ao79 t582.length co79] rfl (by (try simp only [List.map_toArray, List.map_cons, List.map_nil]); first | done | rfl | (go_simp; done)) ?_; (with_reducible refine (isa_Valid.calls k _ _ t582 t630 _ ?side1 ?side2 ?side3 A8.out).mono ?_); (case side1 => repeat (first | exact (Kd.R_reads' HO584.out).2.2 | (with_reducible refine Kd.C_alloc ?_ _) | (with_reducible refine Kd.C_drewN ?_ _) | (with_reducible refine Kd.C_drew ?_))); (case side2 => exact (Kd.R_reads' HO584.out).2.1); (case side3 => repeat (first | exact (GL.below HRG.out HB.out) | (with_reducible refine GL.alloc ?_ _) | (with_reducible refine GL.drewN ?_ _) | (with_reducible refine GL.drew ?_))); rintro e w85 ⟨rfl, hb⟩; refine ⟨_, rfl, ?_⟩; have n0_ := Aside0.mk (Kd.R_below (by (with_reducible repeat (first | apply Kd.R_alloc | apply Kd.R_drewN | apply Kd.R_drew)); exact HO584.out) hb); have n1_ := Aside0.mk (blk_below (g := g581) (o := .cells #[.int .i64 t585, .int .u8 t586, .int .u8 t587, .int .u8 t588, .int .u8 t589, .int .u8 t590, .int .u8 t591, .int .u8 t592, .int .u8 t593, .int .u8 t594, .int .u8 t595, .int .u8 t596, .int .u8 t597, .int .u8 t598, .int .u8 t599, .int .u8 t600, .int .u8 t601, .int .u8 t602, .int .u8 t603, .int .u8 t604, .int .u8 t605] 26 (0, 0)) (by exact B581.out) hb); have n2_ := Aside0.mk (blk_below (g := g629) (o := .cells #[.int .i64 t606, .int .u8 t607, .int .u8 t608, .int .u8 t609, .int .u8 t610, .int .u8 t611, .int .u8 t612, .int .u8 t613, .int .u8 t614, .int .u8 t615, .int .u8 t616, .int .u8 t617, .int .u8 t618, .int .u8 t619, .int .u8 t620, .int .u8 t621, .int .u8 t622, .int .u8 t623, .int .u8 t624, .int .u8 t625, .int .u8 t626] 26 (0, 0)) (by exact B629.out) hb); have n3_ := Aside0.mk (below_step (by repeat (first | (with_reducible first | exact HB.out | apply below_alloc | apply pw_below_drewN | apply below_drew1 | refine below_set ?_ GE581.out | refine below_set ?_ GE629.out) | exact HB.out)) hb); clear HO584; clear B581; clear B629; clear HB; have HO584 := n0_; have B581 := n1_; have B629 := n2_; have HB := n3_; clear n0_ n1_ n2_ n3_; (try clear hb); (try clear hb2); (try clear hk); (try clear hi)) | ((with_reducible refine gate_dst (N := 45) rfl ?_); (try (refine gate_guard (by rfl) ?_; dsimp only)); refine wpList_load_row rfl 26 (.tmp 9) rfl g629 rfl 26 #[.int .i64 t606, .int .u8 t607, .int .u8 t608, .int .u8 t609, .int .u8 t610, .int .u8 t611, .int .u8 t612, .int .u8 t613, .int .u8 t614, .int .u8 t615, .int .u8 t616, .int .u8 t617, .int .u8 t618, .int .u8 t619, .int .u8 t620, .int .u8 t621, .int .u8 t622, .int .u8 t623, .int .u8 t624, .int .u8 t625, .int .u8 t626] (0, 0) _ (by exact B629.out) Tryd.underlying26 rfl (by kernel_rfl) ?_) | (go_at_call 18; (with_reducible refine (attestorlaw28_lives.calls k  t631 _ ?side1 A76.out).mono ?_); (case side1 => repeat (first | exact (GL.below HRG.out HB.out) | (with_reducible refine GL.alloc ?_ _) | (with_reducible refine GL.drewN ?_ _) | (with_reducible refine GL.drew ?_))); rintro e w86 ⟨rfl, hb⟩; have n0_ := Aside0.mk (Kd.R_below (by (with_reducible repeat (first | apply Kd.R_alloc | apply Kd.R_drewN | apply Kd.R_drew)); exact HO584.out) hb); have n1_ := Aside0.mk (blk_below (g := g581) (o := .cells #[.int .i64 t585, .int .u8 t586, .int .u8 t587, .int .u8 t588, .int .u8 t589, .int .u8 t590, .int .u8 t591, .int .u8 t592, .int .u8 t593, .int .u8 t594, .int .u8 t595, .int .u8 t596, .int .u8 t597, .int .u8 t598, .int .u8 t599, .int .u8 t600, .int .u8 t601, .int .u8 t602, .int .u8 t603, .int .u8 t604, .int .u8 t605] 26 (0, 0)) (by exact B581.out) hb); have n2_ := Aside0.mk (blk_below (g := g629) (o := .cells #[.int .i64 t606, .int .u8 t607, .int .u8 t608, .int .u8 t609, .int .u8 t610, .int .u8 t611, .int .u8 t612, .int .u8 t613, .int .u8 t614, .int .u8 t615, .int .u8 t616, .int .u8 t617, .int .u8 t618, .int .u8 t619, .int .u8 t620, .int .u8 t621, .int .u8 t622, .int .u8 t623, .int .u8 t624, .int .u8 t625, .int .u8 t626] 26 (0, 0)) (by exact B629.out) hb); have n3_ := Aside0.mk (below_step (by repeat (first | (with_reducible first | exact HB.out | apply below_alloc | apply pw_below_drewN | apply below_drew1 | refine below_set ?_ GE581.out | refine below_set ?_ GE629.out) | exact HB.out)) hb); clear HO584; clear B581; clear B629; clear HB; have HO584 := n0_; have B581 := n1_; have B629 := n2_; have HB := n3_; clear n0_ n1_ n2_ n3_; (try clear hb); (try clear hb2); (try clear hk); (try clear hi)))
     go_ret
     exact ⟨by first | rfl | (simp [errW_none, errW_some] <;> rfl) | (simp [*, errW_none, errW_some] <;> rfl), by repeat (first | (with_reducible first | exact HB.out | apply below_alloc | apply pw_below_drewN | apply below_drew1 | refine below_set ?_ GE581.out | refine below_set ?_ GE629.out) | exact HB.out)⟩
    ·rw [if_neg c75] at H
     exact absurd H (by simp)
   ·rw [if_neg c74] at H
    exact absurd H (by simp)
  ·rw [if_neg c73] at H
   exact absurd H (by simp)

end Go.Proofs.YtgmdpghbkjlnhaaDoor.Q
end
section
namespace Go.Proofs.YtgmdpghbkjlnhaaDoor.Q
open Go.RowKit Go.Proofs.YtgmdpghbkjlnhaaDoorW.PrintWords Go.Proofs.YtgmdpghbkjlnhaaDoorW.PrintLast Go.Proofs.YtgmdpghbkjlnhaaDoorW.PrintMore
set_option linter.unusedVariables false
set_option linter.unusedSimpArgs false
def cn (l : List S47) : Nat → M → Nat
  | 0, _ => 0
  | d + 1, s => if hlt l s then 0 else cn l d (nx l s) + 1
theorem cn_hlt (l : List S47) : ∀ (d : Nat) {s : M}, hlt l s → cn l d s = 0
  | 0, s, h => rfl
  | d + 1, s, h => if_pos h
theorem rn_snd (l : List S47) : ∀ (d i : Nat) (s : M), (rn l d i s).2 = i + cn l d s
  | 0, i, s => rfl
  | d + 1, i, s => by
    unfold rn cn
    by_cases h : hlt l s
    · rw [if_pos (show (fet l s.p0).f0 = 0 from h), if_pos h]; rfl
    · rw [if_neg (show ¬ (fet l s.p0).f0 = 0 from h), if_neg h, rn_snd l d (i + 1) (nx l s)]; omega
theorem cn_le (l : List S47) : ∀ (d : Nat) (s : M), cn l d s ≤ d
  | 0, s => Nat.le_refl _
  | d + 1, s => by
    unfold cn
    have := cn_le l d (nx l s)
    split <;> omega
theorem cn_free (l : List S47) : ∀ (d m : Nat) (s : M), m < cn l d s → ¬ hlt l (itr l m s)
  | 0, m, s, h => absurd h (Nat.not_lt_zero _)
  | d + 1, m, s, h => by
    unfold cn at h
    by_cases hh : hlt l s
    · rw [if_pos hh] at h; omega
    · rw [if_neg hh] at h
      cases m with
      | zero => exact hh
      | succ m => exact cn_free l d m (nx l s) (by omega)
theorem cn_stop (l : List S47) : ∀ (d : Nat) (s : M), cn l d s < d → hlt l (itr l (cn l d s) s)
  | 0, s, h => absurd h (Nat.not_lt_zero _)
  | d + 1, s, h => by
    unfold cn at h ⊢
    by_cases hh : hlt l s
    · rw [if_pos hh]; exact hh
    · rw [if_neg hh] at h ⊢
      exact cn_stop l d (nx l s) (by omega)
theorem cn_itr (l : List S47) (d i : Nat) (s : M) (h0 : cn l d s ≤ i) (h1 : i ≤ d) : itr l i s = itr l d s := by
  by_cases h : cn l d s < d
  · have hs := cn_stop l d s h
    rw [hlt_le hs h0, hlt_le hs (cn_le l d s)]
  · have := cn_le l d s
    rw [show i = d by omega]
theorem cn_add (l : List S47) : ∀ (a b : Nat) (s : M), cn l (a + b) s = cn l a s + cn l b (itr l a s)
  | 0, b, s => by rw [Nat.zero_add]; exact (Nat.zero_add _).symm
  | a + 1, b, s => by
    rw [show a + 1 + b = (a + b) + 1 by omega]
    by_cases h : hlt l s
    · rw [cn_hlt l _ h, cn_hlt l _ h, hlt_itr (a + 1) h, cn_hlt l _ h]
    · show (if hlt l s then 0 else cn l (a + b) (nx l s) + 1) = (if hlt l s then 0 else cn l a (nx l s) + 1) + cn l b (itr l a (nx l s))
      rw [if_neg h, if_neg h, cn_add l a b (nx l s)]
      omega
theorem run_val (l : List S47) {s : M} (hB : okB l s = true) (n : Nat) (hn4 : n ≤ 65536) : runV l s (n : Int) = (itr l n s).e2 (cn l n s) 0 := by
  unfold runV bd
  rw [if_pos (show okB l s = true ∧ (0 : Int) ≤ (n : Int) from ⟨hB, by omega⟩), if_neg (show ¬ (n : Int) > 65536 by omega), if_pos rfl]
  show (rn l n 0 s).1.e2 ((rn l n 0 s).2 : Nat) 0 = _
  rw [rn_fst, rn_snd, Nat.zero_add]
theorem wr1 {i n : Nat} (h : i < n) (hn : n ≤ 60000) : wrap64 ((i : Int) + 1) = ((i + 1 : Nat) : Int) := by unfold wrap64; omega
theorem wr2 {a b : Nat} (h : a ≤ 255) (h2 : b ≤ 255) : wrap64 ((a : Int) + (b : Int)) = ((a + b : Nat) : Int) := by unfold wrap64; omega
theorem wrm {m n : Nat} (h : m = n + 1) (hn : n ≤ 60000) : wrap64 ((m : Int) - 1) = (n : Int) := by unfold wrap64; omega
theorem mnl {a b : Nat} (h : a ≤ b) : mn (a : Int) (b : Int) = (a : Int) := by unfold mn; split <;> omega
theorem castlt {a b c : Nat} (h : b = c) (h2 : a < c) : (a : Int) < (b : Int) := by omega
theorem castnlt {a b c : Nat} (h : b = c) (h2 : c ≤ a) : ¬ (a : Int) < (b : Int) := by omega
theorem parts_end (l : List S47) (ca n k : Nat) (cb : Int) (X : List S26) (hX : X.length = n + 1) (hn4 : n ≤ 600) (hca : ca ≤ n) (hk : 200 ≤ k) (s z : M) (hrd : rd_T26 X (ca : Int) = toS s) (i : Nat) (hi : n + 1 ≤ i) :
    attestorlaw28_MachineParts.l0 (k + 1) l (ca : Int) cb X i s.p0 s.p1 s.p2 s.p3 s.p4 s.p5 s.p6 s.p7 s.p8 s.p9 s.p10 s.p11 s.p12 s.p13 s.p14 s.p15 s.p16 s.p17 s.p18 s.p19 s.p20 z.p0 z.p1 z.p2 z.p3 z.p4 z.p5 z.p6 z.p7 z.p8 z.p9 z.p10 z.p11 z.p12 z.p13 z.p14 z.p15 z.p16 z.p17 z.p18 z.p19 z.p20 = some true := by
  rw [attestorlaw28_MachineParts.l0]
  refine (if_neg (castnlt hX hi)).trans ?_
  rw [wrm hX (by omega), mnl hca]
  refine (if_pos (Int.natCast_nonneg _)).trans ?_
  refine (if_pos (castlt hX (Nat.lt_succ_of_le hca))).trans ?_
  rw [hrd]
  refine (if_pos ?_).trans ?_
  · simp only [toS, beq_self_eq_true, Bool.and_self]
  · exact bnd (lives_true _ hk) rfl
theorem parts_step (l : List S47) (hw : ∀ i ∈ l, wfI i) (hn : l.length ≤ 40) (ca cb n k : Nat) (X : List S26) (hX : X.length = n + 1) (hn4 : n ≤ 600) (hk : 200 ≤ k) (s z t : M) (i : Nat) (hi : i < n + 1) (hrd : rd_T26 X (i : Int) = toS t) (h1 : cb ≤ i → t = z) (h2 : i < cb → okB l t = true ∧ ¬ hlt l t)
    (next : attestorlaw28_MachineParts.l0 k l (ca : Int) (cb : Int) X ((i + 1 : Nat) : Int) s.p0 s.p1 s.p2 s.p3 s.p4 s.p5 s.p6 s.p7 s.p8 s.p9 s.p10 s.p11 s.p12 s.p13 s.p14 s.p15 s.p16 s.p17 s.p18 s.p19 s.p20 z.p0 z.p1 z.p2 z.p3 z.p4 z.p5 z.p6 z.p7 z.p8 z.p9 z.p10 z.p11 z.p12 z.p13 z.p14 z.p15 z.p16 z.p17 z.p18 z.p19 z.p20 = some true) :
    attestorlaw28_MachineParts.l0 (k + 1) l (ca : Int) (cb : Int) X i s.p0 s.p1 s.p2 s.p3 s.p4 s.p5 s.p6 s.p7 s.p8 s.p9 s.p10 s.p11 s.p12 s.p13 s.p14 s.p15 s.p16 s.p17 s.p18 s.p19 s.p20 z.p0 z.p1 z.p2 z.p3 z.p4 z.p5 z.p6 z.p7 z.p8 z.p9 z.p10 z.p11 z.p12 z.p13 z.p14 z.p15 z.p16 z.p17 z.p18 z.p19 z.p20 = some true := by
  rw [attestorlaw28_MachineParts.l0, wr1 hi (Nat.le_trans (Nat.succ_le_succ hn4) (by decide))]
  refine (if_pos (castlt hX hi)).trans ?_
  rw [hrd]
  rcases Nat.lt_or_ge i cb with h | h
  · refine (if_neg (show ¬ ((i : Int) ≥ (cb : Int)) from fun q => Nat.not_le.2 h (Int.ofNat_le.1 q))).trans ?_
    refine (if_pos (Int.ofNat_lt.2 h)).trans ?_
    refine (if_pos (Int.natCast_nonneg _)).trans ?_
    refine bnd (Halted_f l hw hn k (Nat.le_trans (by decide) hk) t) ?_
    rw [(h2 h).1, Bool.true_and, show decide ((fet l t.p0).f0 = 0) = false from decide_eq_false (h2 h).2]
    exact (if_neg (by decide)).trans next
  · refine (if_pos (Int.ofNat_le.2 h)).trans ?_
    refine (if_pos (Int.natCast_nonneg _)).trans ?_
    rw [h1 h]
    refine (if_neg ?_).trans ?_
    · simp only [toS, beq_self_eq_true, Bool.not_true, Bool.or_self]; decide
    · exact (if_neg (fun q => Nat.not_le.2 (Int.ofNat_lt.1 q) h)).trans next
theorem parts_l0 (l : List S47) (hw : ∀ i ∈ l, wfI i) (hn : l.length ≤ 40) (s : M) (hB : okB l s = true) (a b : Nat) (ha : a ≤ 255) (hb : b ≤ 255) (ca cb : Nat) (hca : ca ≤ a) (X : List S26) (hX : X.length = a + b + 1) (hrd : ∀ i, i < a + b + 1 → rd_T26 X (i : Int) = toS (itr l i s))
    (h0 : itr l ca s = itr l a s) (h1 : ∀ i, cb ≤ i → i ≤ a + b → itr l i s = itr l (a + b) s) (h2 : ∀ i, i < cb → ¬ hlt l (itr l i s)) : ∀ (d i k : Nat), a + b + 1 - i = d → i ≤ a + b + 1 → d + 300 ≤ k →
    attestorlaw28_MachineParts.l0 k l (ca : Int) (cb : Int) X i (itr l a s).p0 (itr l a s).p1 (itr l a s).p2 (itr l a s).p3 (itr l a s).p4 (itr l a s).p5 (itr l a s).p6 (itr l a s).p7 (itr l a s).p8 (itr l a s).p9 (itr l a s).p10 (itr l a s).p11 (itr l a s).p12 (itr l a s).p13 (itr l a s).p14 (itr l a s).p15 (itr l a s).p16 (itr l a s).p17 (itr l a s).p18 (itr l a s).p19 (itr l a s).p20 (itr l (a + b) s).p0 (itr l (a + b) s).p1 (itr l (a + b) s).p2 (itr l (a + b) s).p3 (itr l (a + b) s).p4 (itr l (a + b) s).p5 (itr l (a + b) s).p6 (itr l (a + b) s).p7 (itr l (a + b) s).p8 (itr l (a + b) s).p9 (itr l (a + b) s).p10 (itr l (a + b) s).p11 (itr l (a + b) s).p12 (itr l (a + b) s).p13 (itr l (a + b) s).p14 (itr l (a + b) s).p15 (itr l (a + b) s).p16 (itr l (a + b) s).p17 (itr l (a + b) s).p18 (itr l (a + b) s).p19 (itr l (a + b) s).p20 = some true := by
  intro d
  induction d with
  | zero =>
    intro i k hd hi hk
    obtain ⟨k, rfl⟩ : ∃ j, k = j + 1 := ⟨k - 1, by omega⟩
    exact parts_end l ca (a + b) k cb X hX (by omega) (by omega) (by omega) _ _ (by rw [hrd ca (by omega), h0]) i (by omega)
  | succ d ih =>
    intro i k hd hi hk
    obtain ⟨k, rfl⟩ : ∃ j, k = j + 1 := ⟨k - 1, by omega⟩
    have e1 : i < a + b + 1 := by omega
    have e2 : a + b + 1 - (i + 1) = d := by omega
    have e3 : d + 300 ≤ k := by omega
    have e4 : a + b ≤ 600 := by omega
    have e5 : 200 ≤ k := by omega
    exact parts_step l hw hn ca cb (a + b) k X hX e4 e5 _ _ (itr l i s) i e1 (hrd i e1) (fun h => h1 i h (Nat.le_of_lt_succ e1)) (fun h => ⟨itr_okB l i hB, h2 i h⟩) (ih (i + 1) k e2 e1 e3)
theorem parts_true (l : List S47) (hw : ∀ i ∈ l, wfI i) (s : M) (hs : okS s) (x y : Int) (hx : 0 ≤ x ∧ x ≤ 255) (hy : 0 ≤ y ∧ y ≤ 255) : ∃ k, attestorlaw28_MachineParts.f k l s.p0 s.p1 s.p2 s.p3 s.p4 s.p5 s.p6 s.p7 s.p8 s.p9 s.p10 s.p11 s.p12 s.p13 s.p14 s.p15 s.p16 s.p17 s.p18 s.p19 s.p20 x y = some true := by
  obtain ⟨a, rfl⟩ := Int.eq_ofNat_of_zero_le hx.1
  obtain ⟨b, rfl⟩ := Int.eq_ofNat_of_zero_le hy.1
  have ha : a ≤ 255 := by omega
  have hb : b ≤ 255 := by omega
  obtain ⟨L, hL, hn, hm⟩ := cut_f l
  have hwL : ∀ i ∈ L, wfI i := fun i hi => hw i (hm i hi)
  obtain ⟨p, hp0, hp1, hV⟩ := valid_state L hn s
  obtain ⟨e, hE, hE2⟩ := valid_some L hwL hn 2001 (by omega)
  refine ⟨2001, ?_⟩
  unfold attestorlaw28_MachineParts.f
  have ea : wrap64 (a : Int) = (a : Int) := by unfold wrap64; omega
  have eb : wrap64 (b : Int) = (b : Int) := by unfold wrap64; omega
  have eab : wrap64 ((a : Int) + (b : Int)) = ((a + b : Nat) : Int) := by unfold wrap64; omega
  have eab1 : wrap64 (((a + b : Nat) : Int) + 1) = ((a + b + 1 : Nat) : Int) := by unfold wrap64; omega
  rw [ea, eb, eab, eab1]
  clear ea eb eab eab1
  refine bnd hL (bnd hV ?_)
  have hsp : okS (atM s p) := okS_at hs p
  generalize hS : atM s p = S at hsp
  have hp2 : S.p0 = p := by rw [← hS]; rfl
  clear hS hV
  refine bnd (Run_f L hwL hn 2001 (a : Nat) (by omega) (by omega) hsp) (bnd hE ?_)
  by_cases he : e = 0
  · have hB : okB L S = true := (okB_iff L S).2 ⟨hE2.1 he, by omega, by omega⟩
    have hB2 := itr_okB L a hB
    have hs2 := itr_okS L a hB hsp
    refine (if_pos he).trans ?_
    rw [run_val L hB a (by omega)]
    refine bnd ((Run_f L hwL hn 2001 (b : Nat) (by omega) (by omega) hs2).trans (congrArg some (run_val L hB2 b (by omega)))) ?_
    refine bnd ((Run_f L hwL hn 2001 ((a + b : Nat) : Int) (by omega) (by omega) hsp).trans (congrArg some (run_val L hB (a + b) (by omega)))) ?_
    have hst : stsV L S ((a + b + 1 : Nat) : Int) = (sts L (a + b + 1) S, 0) := by
      unfold stsV bd
      rw [if_pos (show okB L S = true ∧ (0 : Int) ≤ ((a + b + 1 : Nat) : Int) from ⟨hB, by omega⟩), if_neg (show ¬ ((a + b + 1 : Nat) : Int) > 65536 by omega), if_pos rfl]
      rfl
    refine bnd ((States_f L hwL hn 2001 ((a + b + 1 : Nat) : Int) (by omega) (by omega) hsp).trans (congrArg some hst)) ?_
    rw [← itr_add]
    refine (if_pos rfl).trans ?_
    refine (if_pos rfl).trans ?_
    refine (if_pos rfl).trans ?_
    refine (if_pos rfl).trans ?_
    refine (if_neg (by simp only [M.e2, beq_self_eq_true, Bool.not_true, Bool.or_self]; decide)).trans ?_
    have fin : attestorlaw28_MachineParts.j0 2001 L ((cn L a S : Nat) : Int) ((cn L (a + b) S : Nat) : Int) (sts L (a + b + 1) S) false (itr L a S).p0 (itr L a S).p1 (itr L a S).p2 (itr L a S).p3 (itr L a S).p4 (itr L a S).p5 (itr L a S).p6 (itr L a S).p7 (itr L a S).p8 (itr L a S).p9 (itr L a S).p10 (itr L a S).p11 (itr L a S).p12 (itr L a S).p13 (itr L a S).p14 (itr L a S).p15 (itr L a S).p16 (itr L a S).p17 (itr L a S).p18 (itr L a S).p19 (itr L a S).p20 (itr L (a + b) S).p0 (itr L (a + b) S).p1 (itr L (a + b) S).p2 (itr L (a + b) S).p3 (itr L (a + b) S).p4 (itr L (a + b) S).p5 (itr L (a + b) S).p6 (itr L (a + b) S).p7 (itr L (a + b) S).p8 (itr L (a + b) S).p9 (itr L (a + b) S).p10 (itr L (a + b) S).p11 (itr L (a + b) S).p12 (itr L (a + b) S).p13 (itr L (a + b) S).p14 (itr L (a + b) S).p15 (itr L (a + b) S).p16 (itr L (a + b) S).p17 (itr L (a + b) S).p18 (itr L (a + b) S).p19 (itr L (a + b) S).p20 = some true := by
      rw [attestorlaw28_MachineParts.j0]
      refine (if_neg (by decide)).trans ?_
      exact parts_l0 L hwL hn S hB a b ha hb (cn L a S) (cn L (a + b) S) (cn_le L a S) _ (sts_length L _ S) (fun i hi => sts_rd L (a + b + 1) i S hi) (cn_itr L a _ S (Nat.le_refl _) (cn_le L a S)) (fun i h0 h1 => cn_itr L (a + b) i S h0 h1) (fun i h => cn_free L (a + b) i S h) (a + b + 1) 0 2000 (Nat.sub_zero _) (Nat.zero_le _) (by omega)
    have hsum : wrap64 (((cn L a S : Nat) : Int) + ((cn L b (itr L a S) : Nat) : Int)) = ((cn L (a + b) S : Nat) : Int) := by
      rw [cn_add]
      exact wr2 (Nat.le_trans (cn_le L a S) ha) (Nat.le_trans (cn_le L b _) hb)
    have hlen : (((sts L (a + b + 1) S).length : Nat) : Int) = ((a + b + 1 : Nat) : Int) := congrArg Int.ofNat (sts_length L _ S)
    refine (if_pos hsum).trans ?_
    refine (if_pos hlen).trans ?_
    refine (if_neg (show ¬ ((cn L a S : Nat) : Int) > (a : Int) from fun q => Nat.not_lt.2 (cn_le L a S) (Int.ofNat_lt.1 q))).trans ?_
    refine iteb (fun h => ?_) (fun h => ?_)
    · refine bnd (Halted_f L hwL hn 2001 (by decide) (itr L a S)) ?_
      have h1 : cn L a S < a := Int.ofNat_lt.1 h
      have hh : hlt L (itr L a S) := by
        rw [← cn_itr L a (cn L a S) S (Nat.le_refl _) (cn_le L a S)]
        exact cn_stop L a S h1
      rw [hB2, Bool.true_and, show decide ((fet L (itr L a S).p0).f0 = 0) = true from decide_eq_true hh]
      exact fin
    · exact fin
  · have hB : ¬ okB L S = true := fun q => he (hE2.2 ((okB_iff L S).1 q).1)
    refine (if_neg he).trans ?_
    have hr : runV L S (a : Int) = zM.e2 0 1 := by
      unfold runV bd
      rw [if_neg (show ¬ (okB L S = true ∧ (0 : Int) ≤ (a : Int)) from fun q => hB q.1), if_neg (show ¬ (1 : Int) = 0 by omega)]
    rw [hr]
    refine (if_pos rfl).trans ?_
    refine (if_pos rfl).trans ?_
    refine (if_pos (by decide)).trans ?_
    exact bnd (lives_true _ (by omega)) rfl
end Go.Proofs.YtgmdpghbkjlnhaaDoor.Q
end
section
namespace Go.Proofs.YtgmdpghbkjlnhaaDoor.Q
open Go.ChangeShapes Go.WideShapes Go.ChangeAt Go.WideMaps Go.WideElems Go.RowKit
open Go.Proofs.YtgmdpghbkjlnhaaDoorW.PrintWords Go.Proofs.YtgmdpghbkjlnhaaDoorW.PrintLast Go.Proofs.YtgmdpghbkjlnhaaDoorW.PrintMore
open Go.Proofs.YtgmdpghbkjlnhaaDoor.Opn
set_option linter.unusedVariables false

set_option maxRecDepth 100000 in
theorem machineParts_lifted (os : Os) (started : os.Started) (H : Type) (enc : TypeId × Value → H) :
    ReturnsInHanded {} Tryd.checked os 5 .any (fun w args => (Rows.machinePartsSpec.pre enc Tryd.prog Tryd.f5 [] false w args ∧ laidMetH Tryd.prog laid1 w) ∧ sizedMet enc Tryd.prog Tryd.f5 (OpenSpec.ofChange Rows.machinePartsSpec) false w args)
      (Rows.machinePartsSpec.post enc Tryd.prog Tryd.f5 false true false false) := by
  refine returnsInHanded_of_change_and (C := Tryd.checked) (X := (fun w _ => laidMetH Tryd.prog laid1 w)) (fun _ _ _ hh h => h.of_heap hh) own started (by kernel_rfl) Tryd.func5
    (ChangeSpec.witness_shaped (enc := enc) (C := Tryd.checked) (os := os) (X := (fun w _ => laidMetH Tryd.prog laid1 w)) false (World.doorLaid Tryd.prog 400 os) #[.slice none 0 0, .agg #[.int .i64 0, .int .u8 0, .int .u8 0, .int .u8 0, .int .u8 0, .int .u8 0, .int .u8 0, .int .u8 0, .int .u8 0, .int .u8 0, .int .u8 0, .int .u8 0, .int .u8 0, .int .u8 0, .int .u8 0, .int .u8 0, .int .u8 0, .int .u8 0, .int .u8 0, .int .u8 0, .int .u8 0], .int .u8 0, .int .u8 0] 8 rfl (World.shaped_of_RefB (by kernel_rfl) (by kernel_rfl)) (by kernel_rfl) (by kernel_rfl) (by kernel_rfl) (door_met os _)) ?_
  intro W base args ds gs before hval0 hW _ _ hL _
  have hval : ∀ (j : Nat) t v, Tryd.f5.params[j]? = some t → args[j]? = some v → Value.okWide Tryd.prog W .any base t v := hval0
  have hW' := hW
  obtain ⟨p, q, hA0, hV, rfl, hfz, hnd⟩ := hW
  have hA : DataW.TrodAll enc Tryd.prog W 0 (fun _ => true) true Tryd.f5.params.toList args.toList ds p := hA0
  rw [Tryd.params5] at hA hval
  obtain ⟨v0, vs0, d0, ds0, p0, q0, hargs, rfl, rfl, h0, r0⟩ := trodAll_cons hA
  obtain ⟨v1, vs1, d1, ds1, p1, q1, rfl, rfl, rfl, h1, r1⟩ := trodAll_cons r0
  obtain ⟨v2, vs2, d2, ds2, p2, q2, rfl, rfl, rfl, h2, r2⟩ := trodAll_cons r1
  obtain ⟨v3, vs3, d3, ds3, p3, q3, rfl, rfl, rfl, h3, r3⟩ := trodAll_cons r2
  obtain ⟨rfl, rfl, rfl⟩ := trodAll_nil r3
  obtain rfl : args = #[v0, v1, v2, v3] := by cases args; simp_all
  obtain ⟨rfl, rfl⟩ := trodVars_none hV
  obtain ⟨a0, len0, cap0, rfl⟩ := okWide_slice Tryd.underlying22 (hval 0 22 v0 rfl rfl)
  have k0 := h0
  have lt0 : ∀ x ∈ p0, x.block < W.heap.size := by obtain ⟨m, hm⟩ := k0; exact DataW.trod_lt m _ _ _ hm
  obtain ⟨m0, hm0⟩ := h0
  obtain ⟨l0, ⟨A0, c0, hc0, hle0, hC0⟩, hw0⟩ := opn22 (enc := enc) (W := W) m0 _ _ hm0
  simp only [Value.cells, List.cons.injEq, and_true, Value.slice.injEq] at hc0
  obtain ⟨rfl, rfl, rfl⟩ := hc0
  have k1 := h1
  have lt1 : ∀ x ∈ p1, x.block < W.heap.size := by obtain ⟨m, hm⟩ := k1; exact DataW.trod_lt m _ _ _ hm
  obtain ⟨cs1, rfl, _⟩ := okWide_struct Tryd.underlying26 (hval 1 26 v1 rfl rfl)
  obtain ⟨m1, hm1⟩ := h1
  obtain ⟨a1_0, a1_1, a1_2, a1_3, a1_4, a1_5, a1_6, a1_7, a1_8, a1_9, a1_10, a1_11, a1_12, a1_13, a1_14, a1_15, a1_16, a1_17, a1_18, a1_19, a1_20, hcs1, w1_0, w1_1, w1_2, w1_3, w1_4, w1_5, w1_6, w1_7, w1_8, w1_9, w1_10, w1_11, w1_12, w1_13, w1_14, w1_15, w1_16, w1_17, w1_18, w1_19, w1_20⟩ := flat26 m1 _ _ hm1
  obtain rfl : cs1 = #[.int .i64 a1_0, .int .u8 a1_1, .int .u8 a1_2, .int .u8 a1_3, .int .u8 a1_4, .int .u8 a1_5, .int .u8 a1_6, .int .u8 a1_7, .int .u8 a1_8, .int .u8 a1_9, .int .u8 a1_10, .int .u8 a1_11, .int .u8 a1_12, .int .u8 a1_13, .int .u8 a1_14, .int .u8 a1_15, .int .u8 a1_16, .int .u8 a1_17, .int .u8 a1_18, .int .u8 a1_19, .int .u8 a1_20] := by cases cs1; simp only [Value.cells] at hcs1; subst hcs1; rfl
  obtain ⟨a2, rfl, rfl, rfl, w2⟩ := open_int Tryd.underlying5 (hval 2 5 v2 rfl rfl) h2
  obtain ⟨a3, rfl, rfl, rfl, w3⟩ := open_int Tryd.underlying5 (hval 3 5 v3 rfl rfl) h3
  clear hA0 hval0
  refine (attestorlaw28_MachineParts.calls _ a0 cap0 l0 a1_0 a1_1 a1_2 a1_3 a1_4 a1_5 a1_6 a1_7 a1_8 a1_9 a1_10 a1_11 a1_12 a1_13 a1_14 a1_15 a1_16 a1_17 a1_18 a1_19 a1_20 a2 a3 true W hC0 hle0 (gl_of_laid hL) (parts_true l0 (fun i hi => wfI_of (hw0 i hi)) ⟨a1_0, a1_1, a1_2, a1_3, a1_4, a1_5, a1_6, a1_7, a1_8, a1_9, a1_10, a1_11, a1_12, a1_13, a1_14, a1_15, a1_16, a1_17, a1_18, a1_19, a1_20⟩ (okS_mk w1_1 w1_2 w1_3 w1_4 w1_5 w1_6 w1_7 w1_8 w1_9 w1_10 w1_11 w1_12 w1_13 w1_14 w1_15 w1_16 w1_17 w1_18 w1_19 w1_20) a2 a3 (u8_bounds w2) (u8_bounds w3)).choose_spec).mono fun e W' ⟨he, bel⟩ => ?_
  subst he
  exact ⟨_, rfl, _, _, _, [], _, [], hW', trodAll_mk1 (shut_bool Tryd.underlying4 _), (trodAll_cons_mk (Below.trod laidOut (by kernel_rfl) (of_decide_eq_true (by kernel_rfl)) k0 bel lt0) (trodAll_cons_mk (Below.trod laidOut (by kernel_rfl) (of_decide_eq_true (by kernel_rfl)) k1 bel lt1) (trodAll_cons_mk (shut_int Tryd.underlying5 w2) (trodAll_cons_mk (shut_int Tryd.underlying5 w3) trodAll_mk0)))), rfl, bel.frame _, fun h => by cases h⟩
theorem machineParts_row : Rows.MachinePartsSaid :=
  OpenClaim.holds_of_wide 5 Tryd.f5 rfl rfl rfl rfl rfl rfl rfl ⟨rfl, rfl, rfl, rfl, rfl⟩ rfl rfl rfl rfl rfl (by kernel_rfl) Tryd.func5 (by kernel_rfl)
    (of_decide_eq_true (by kernel_rfl)) (by unfold Func.isWrapper; first | (rw [if_pos (by decide +kernel)]; kernel_rfl) | (rw [if_neg (by decide +kernel)]; exact ⟨rfl, rfl⟩))
    (fun os started H enc _ => machineParts_lifted os started H enc)
theorem machineParts_card : Rows.MachinePartsCardSaid :=
  Claim7.holds_tied_plain_at .later [] [.data] true Rows.machinePartsCard.stood.harness false
    machineParts_row (fun _ h => by cases h) (by kernel_rfl) (fun _ h => by cases h) machineParts_row_tie rfl ⟨rfl, rfl⟩ (by kernel_rfl) rfl
    (fun f fn hf hfn => by
      obtain rfl : f = 5 := Option.some.inj ((show Tryd.prog.funcNamed "attestor/attestorlaw28.MachineParts" = some 5 by kernel_rfl).symm.trans hf) |>.symm
      obtain rfl : fn = Tryd.f5 := (Option.some.inj (Tryd.func5.symm.trans hfn)).symm
      exact ⟨by kernel_rfl, fun j t ht => by
        rw [Tryd.params5] at ht
        have hm : t ∈ [22, 26, 5, 5] := by simpa using Array.mem_of_getElem? ht
        have hall : ([22, 26, 5, 5].all fun u => !Tryd.prog.wantsStandIn u) = true := by kernel_rfl
        exact (show Tryd.prog.wantsStandIn t = false by simpa using List.all_eq_true.1 hall t hm)⟩)
    (by kernel_rfl)
end Go.Proofs.YtgmdpghbkjlnhaaDoor.Q
namespace Go.Proofs.YtgmdpghbkjlnhaaDoor
/-- Under a short name, for the claim. -/
theorem machineParts_holds : Rows.MachinePartsCardSaid := Q.machineParts_card
end Go.Proofs.YtgmdpghbkjlnhaaDoor
#print axioms Go.Proofs.YtgmdpghbkjlnhaaDoor.machineParts_holds
end
