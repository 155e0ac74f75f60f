/- Several texts in one, in build order. What they prove, each by its own first remark:
Written by our own copy of a printing program (a twelfth state) out of the translation. Not trusted: Lean checks it.
Of PChanges what this claim needs.
For all arguments attestorlaw28.MachineChanges returns true and leaves them as they were, where the variable 'uses' holds what the program's text lays (the card ties that): no other condition. -/
import Derived.Test.YtgmdpghbkjlnhaaDoorM2
import Derived.Test.YtgmdpghbkjlnhaaDoorM4
import Derived.Test.YtgmdpghbkjlnhaaDoorM5
import Derived.Test.YtgmdpghbkjlnhaaDoorCards
import Derived.Test.YtgmdpghbkjlnhaaDoorTie
import Derived.SevenTiedAt
import Derived.SizedLaws
import Derived.ShutString
import Derived.ChangeOld
import Derived.ProofKit
import Derived.Below
import Derived.OpenShut
section
namespace Go.Proofs.YtgmdpghbkjlnhaaDoor.Q
open Go.RowKit Go.Proofs.YtgmdpghbkjlnhaaDoorW.PrintWords Go.Proofs.YtgmdpghbkjlnhaaDoorW.PrintLast Go.Proofs.YtgmdpghbkjlnhaaDoorW.PrintMore
attribute [local go_sem] max2_int min2_int max_two min_two max_three min_three max_four min_four run_store_fnV run_store_fnc run_store_nfn   -- for this text's walks alone
set_option linter.unusedVariables false
set_option linter.unusedSimpArgs false

attribute [local go_sem high] eqA26
abbrev z8_0_ : Array Bool := #[false, false, false, false, false, false, false, false, false, false, false]
abbrev z8_1_ : Array Bool := #[true, false, false, false, false, false, false, false, false, false, false]
abbrev z8_2_ : Array Bool := #[true, true, false, false, false, false, false, false, false, false, false]
abbrev z8_3_ : Array Bool := #[true, true, true, false, false, false, false, false, false, false, false]
abbrev z8_4_ : Array Bool := #[true, true, true, true, false, false, false, false, false, false, false]
abbrev z8_5_ : Array Bool := #[true, true, true, true, true, false, false, false, false, false, false]
abbrev z8_6_ : Array Bool := #[true, true, true, true, true, true, false, false, false, false, false]
abbrev z8_7_ : Array Bool := #[true, true, true, true, true, true, true, false, false, false, false]
abbrev z8_8_ : Array Bool := #[true, true, true, true, true, true, true, true, false, false, false]
abbrev z8_9_ : Array Bool := #[true, true, true, true, true, true, true, true, true, false, false]
abbrev z8_10_ : Array Bool := #[true, true, true, true, true, true, true, true, true, true, false]
abbrev z8_11_ : Array Bool := #[true, true, true, true, true, true, true, true, true, true, true]
abbrev z8_12_ : Array Bool := #[true, true, true, true, true, false, true, false, false, false, false]
abbrev z8_13_ : Array Bool := #[false, false, false, false, false, false, false, false, false, false, false, false, false, false, false, false, false, false, false, false, false, false, false, false, false]
abbrev z8_14_ : Array Bool := #[true, false, false, false, false, false, false, false, false, false, false, false, false, false, false, false, false, false, false, false, false, false, false, false, false]
abbrev z8_15_ : Array Bool := #[true, true, false, false, false, false, false, false, false, false, false, false, false, false, false, false, false, false, false, false, false, false, false, false, false]
abbrev z8_16_ : Array Bool := #[true, true, true, false, false, false, false, false, false, false, false, false, false, false, false, false, false, false, false, false, false, false, false, false, false]
abbrev z8_17_ : Array Bool := #[true, true, true, true, false, false, false, false, false, false, false, false, false, false, false, false, false, false, false, false, false, false, false, false, false]
abbrev z8_18_ : Array Bool := #[true, true, true, true, true, false, false, false, false, false, false, false, false, false, false, false, false, false, false, false, false, false, false, false, false]
abbrev z8_19_ : Array Bool := #[true, true, true, true, true, true, false, false, false, false, false, false, false, false, false, false, false, false, false, false, false, false, false, false, false]
abbrev z8_20_ : Array Bool := #[true, true, true, true, true, true, true, false, false, false, false, false, false, false, false, false, false, false, false, false, false, false, false, false, false]
abbrev z8_21_ : Array Bool := #[true, true, true, true, true, true, true, true, false, false, false, false, false, false, false, false, false, false, false, false, false, false, false, false, false]
abbrev z8_22_ : Array Bool := #[true, true, true, true, true, true, true, true, false, false, true, false, false, false, false, false, false, false, false, false, false, false, false, false, false]
abbrev z8_23_ : Array Bool := #[true, true, true, true, true, true, true, true, true, false, true, false, false, false, false, false, false, false, false, false, false, false, false, false, false]
abbrev z8_24_ : Array Bool := #[true, true, true, true, true, true, true, true, true, false, true, true, false, false, false, false, false, false, false, false, false, false, false, false, false]
abbrev z8_25_ : Array Bool := #[true, true, true, true, true, true, true, true, true, false, true, true, true, false, false, false, false, false, false, false, false, false, false, false, false]
abbrev z8_26_ : Array Bool := #[true, true, true, true, true, true, true, true, true, true, true, true, true, false, false, false, false, false, false, false, false, false, false, false, false]
abbrev z8_27_ : Array Bool := #[true, true, true, true, true, true, true, true, true, true, true, true, true, true, false, false, false, false, false, false, false, false, false, false, false]
abbrev z8_28_ : Array Bool := #[true, true, true, true, true, true, true, true, true, true, true, true, true, true, true, false, false, false, false, false, false, false, false, false, false]
abbrev z8_29_ : Array Bool := #[true, true, true, true, true, true, true, true, true, true, true, true, true, true, true, true, false, false, false, false, false, false, false, false, false]
abbrev z8_30_ : Array Bool := #[true, true, true, true, true, true, true, true, true, true, true, true, true, true, true, true, true, false, false, false, false, false, false, false, false]
abbrev z8_31_ : Array Bool := #[true, true, true, true, true, true, true, true, true, true, true, true, true, true, true, true, true, true, false, false, false, false, false, false, false]
abbrev z8_32_ : Array Bool := #[true, true, true, true, true, true, true, true, true, true, true, true, true, true, true, true, true, true, true, false, false, false, false, false, false]
abbrev z8_33_ : Array Bool := #[true, true, true, true, true, true, true, true, true, true, true, true, true, true, true, true, true, true, true, true, false, false, false, false, false]
abbrev z8_34_ : Array Bool := #[true, true, true, true, true, true, true, true, true, true, true, true, true, true, true, true, true, true, true, true, true, false, false, false, false]
abbrev z8_35_ : Array Bool := #[true, true, true, true, true, true, true, true, true, true, true, true, true, true, true, true, true, true, true, true, true, true, false, false, false]
abbrev z8_36_ : Array Bool := #[true, true, true, true, true, true, true, true, true, true, true, true, true, true, true, true, true, true, true, true, true, true, true, false, false]
abbrev z8_37_ : Array Bool := #[true, true, true, true, true, true, true, true, true, true, true, true, true, true, true, true, true, true, true, true, true, true, true, true, false]
abbrev z8_38_ : Array Bool := #[true, true, true, true, true, true, true, true, true, true, true, true, true, true, true, true, true, true, true, true, true, true, true, true, true]
abbrev z8_39_ : Array Bool := #[false, false, false, false, false, false, false, false, false, false, false, false, false, false, false, false, false, false, false, false, false, false, false, false, false, false]
abbrev z8_40_ : Array Bool := #[true, false, false, false, false, false, false, false, false, false, false, false, false, false, false, false, false, false, false, false, false, false, false, false, false, false]
abbrev z8_41_ : Array Bool := #[true, true, false, false, false, false, false, false, false, false, false, false, false, false, false, false, false, false, false, false, false, false, false, false, false, false]
abbrev z8_42_ : Array Bool := #[true, true, true, false, false, false, false, false, false, false, false, false, false, false, false, false, false, false, false, false, false, false, false, false, false, false]
abbrev z8_43_ : Array Bool := #[true, true, true, false, true, false, false, false, false, false, false, false, false, false, false, false, false, false, false, false, false, false, false, false, false, false]
abbrev z8_44_ : Array Bool := #[true, true, true, false, true, true, false, false, false, false, false, false, false, false, false, false, false, false, false, false, false, false, false, false, false, false]
abbrev z8_45_ : Array Bool := #[true, true, true, false, true, true, true, false, false, false, false, false, false, false, false, false, false, false, false, false, false, false, false, false, false, false]
abbrev z8_46_ : Array Bool := #[true, true, true, true, true, true, true, false, false, false, false, false, false, false, false, false, false, false, false, false, false, false, false, false, false, false]
abbrev z8_47_ : Array Bool := #[true, true, true, true, true, true, true, true, false, false, false, false, false, false, false, false, false, false, false, false, false, false, false, false, false, false]
abbrev z8_48_ : Array Bool := #[true, true, true, true, true, true, true, true, true, false, false, false, false, false, false, false, false, false, false, false, false, false, false, false, false, false]
abbrev z8_49_ : Array Bool := #[true, true, true, true, true, true, true, true, true, true, false, false, false, false, false, false, false, false, false, false, false, false, false, false, false, false]
abbrev z8_50_ : Array Bool := #[true, true, true, true, true, true, true, true, true, true, true, false, false, false, false, false, false, false, false, false, false, false, false, false, false, false]
abbrev z8_51_ : Array Bool := #[true, true, true, true, true, true, true, true, true, true, true, true, false, false, false, false, false, false, false, false, false, false, false, false, false, false]
abbrev z8_52_ : Array Bool := #[true, true, true, true, true, true, true, true, true, true, true, true, true, false, false, false, false, false, false, false, false, false, false, false, false, false]
abbrev z8_53_ : Array Bool := #[true, true, true, true, true, true, true, true, true, true, true, true, true, true, false, false, false, false, false, false, false, false, false, false, false, false]
abbrev z8_54_ : Array Bool := #[true, true, true, true, true, true, true, true, true, true, true, true, true, true, true, false, false, false, false, false, false, false, false, false, false, false]
abbrev z8_55_ : Array Bool := #[true, true, true, true, true, true, true, true, true, true, true, true, true, true, true, true, false, false, false, false, false, false, false, false, false, false]
abbrev z8_56_ : Array Bool := #[true, true, true, true, true, true, true, true, true, true, true, true, true, true, true, true, true, false, false, false, false, false, false, false, false, false]
abbrev z8_57_ : Array Bool := #[true, true, true, true, true, true, true, true, true, true, true, true, true, true, true, true, true, true, false, false, false, false, false, false, false, false]
abbrev z8_58_ : Array Bool := #[true, true, true, true, true, true, true, true, true, true, true, true, true, true, true, true, true, true, true, false, false, false, false, false, false, false]
abbrev z8_59_ : Array Bool := #[true, true, true, true, true, true, true, true, true, true, true, true, true, true, true, true, true, true, true, true, false, false, false, false, false, false]
abbrev z8_60_ : Array Bool := #[true, true, true, true, true, true, true, true, true, true, true, true, true, true, true, true, true, true, true, true, true, false, false, false, false, false]
abbrev z8_61_ : Array Bool := #[true, true, true, true, true, true, true, true, true, true, true, true, true, true, true, true, true, true, true, true, true, true, false, false, false, false]
abbrev z8_62_ : Array Bool := #[true, true, true, true, true, true, true, true, true, true, true, true, true, true, true, true, true, true, true, true, true, true, true, false, false, false]
abbrev z8_63_ : Array Bool := #[true, true, true, true, true, true, true, true, true, true, true, true, true, true, true, true, true, true, true, true, true, true, true, true, false, false]
abbrev z8_64_ : Array Bool := #[true, true, true, true, true, true, true, true, true, true, true, true, true, true, true, true, true, true, true, true, true, true, true, true, true, false]
abbrev z8_65_ : Array Bool := #[true, true, true, true, true, true, true, true, true, true, true, true, true, true, true, true, true, true, true, true, true, true, true, true, true, true]
abbrev z8_66_ : Array Bool := #[true, true, true, false, true, false, false, false, false, false, false, false, false, false, false, false, false, false, false, false, false, false, false, false, false]
abbrev z8_67_ : Array Bool := #[true, true, true, false, true, true, false, false, false, false, false, false, false, false, false, false, false, false, false, false, false, false, false, false, false]
abbrev z8_68_ : Array Bool := #[true, true, true, false, true, true, true, false, false, false, false, false, false, false, false, false, false, false, false, false, false, false, false, false, false]
abbrev z8_69_ : Array Bool := #[true, true, true, true, true, true, true, true, true, false, false, false, false, false, false, false, false, false, false, false, false, false, false, false, false]
abbrev z8_70_ : Array Bool := #[true, true, true, true, true, true, true, true, true, true, false, false, false, false, false, false, false, false, false, false, false, false, false, false, false]
abbrev z8_71_ : Array Bool := #[true, true, true, true, true, true, true, true, true, true, true, false, false, false, false, false, false, false, false, false, false, false, false, false, false]
abbrev z8_72_ : Array Bool := #[true, true, true, true, true, true, true, true, true, true, true, true, false, false, false, false, false, false, false, false, false, false, false, false, false]
abbrev z8_73_ : Array Bool := #[true, true, true, true, true, true, true, true, true, true, true, true, true, true, true, true, false, true, false, false, false, false, false, false, false]
/-! ### attestorlaw28_MachineChanges: function 8 -/
mutual
def attestorlaw28_MachineChanges.l0 : Nat → List (S47) → Int → Bool → List Int → Int → Int → Int → Int → Int → Int → Int → Int → Int → Int → Int → Int → Int → Int → Int → Int → Int → Int → Int → Int → Int → Int → Int → Int → Int → Int → Int → Int → Int → Int → Int → Int → Int → Int → Int → Int → Int → Int → Int → Int → Int → Int → Int → Int → Int → Int → Int → Option (Bool)
  | 0, _, _, _, _, _, _, _, _, _, _, _, _, _, _, _, _, _, _, _, _, _, _, _, _, _, _, _, _, _, _, _, _, _, _, _, _, _, _, _, _, _, _, _, _, _, _, _, _, _, _, _ => none
  | k + 1, x0, x6, x8, x9, x10, x1077000, x1077001, x1077002, x1077003, x1077004, x1077005, x1077006, x1077007, x1077008, x1077009, x1077010, x1077011, x1077012, x1077013, x1077014, x1077015, x1077016, x1077017, x1077018, x1077019, x1077020, x1124000, x1124001, x1124002, x1124003, x1124004, x1124005, x1124006, x1124007, x1124008, x1124009, x1124010, x1124011, x1124012, x1124013, x1124014, x1124015, x1124016, x1124017, x1124018, x1124019, x1124020, x1131000, x1131001, x1131002, x1131003 => if x10 < (x9.length : Int) then (if x8 = true then (attestorlaw28_MachineChanges.l0 k x0 x6 true x9 (wrap64 (x10 + 1)) x1077000 x1077001 x1077002 x1077003 x1077004 x1077005 x1077006 x1077007 x1077008 x1077009 x1077010 x1077011 x1077012 x1077013 x1077014 x1077015 x1077016 x1077017 x1077018 x1077019 x1077020 x1124000 x1124001 x1124002 x1124003 x1124004 x1124005 x1124006 x1124007 x1124008 x1124009 x1124010 x1124011 x1124012 x1124013 x1124014 x1124015 x1124016 x1124017 x1124018 x1124019 x1124020 x1131000 x1131001 x1131002 x1131003) else (if 0 ≤ x10 then (attestorlaw28_MachineChanges.l0 k x0 x6 ((rd x9 x10) == x1124000) x9 (wrap64 (x10 + 1)) x1077000 x1077001 x1077002 x1077003 x1077004 x1077005 x1077006 x1077007 x1077008 x1077009 x1077010 x1077011 x1077012 x1077013 x1077014 x1077015 x1077016 x1077017 x1077018 x1077019 x1077020 x1124000 x1124001 x1124002 x1124003 x1124004 x1124005 x1124006 x1124007 x1124008 x1124009 x1124010 x1124011 x1124012 x1124013 x1124014 x1124015 x1124016 x1124017 x1124018 x1124019 x1124020 x1131000 x1131001 x1131002 x1131003) else (none))) else (if x6 = 0 then (if x8 = true then ((machine_Halted.f k x0 x1077000 x1077001 x1077002 x1077003 x1077004 x1077005 x1077006 x1077007 x1077008 x1077009 x1077010 x1077011 x1077012 x1077013 x1077014 x1077015 x1077016 x1077017 x1077018 x1077019 x1077020).bind fun t1135 => (if (t1135 != (x1131000 == 0)) = true then (none) else (if x1131000 = 0 then (attestorlaw28_MachineChanges.j1 k (!(x1124000 == x1077000) || ((!(x1124001 == x1077001) || (!(x1124002 == x1077002) || (!(x1124003 == x1077003) || (!(x1124004 == x1077004))))) || ((!(x1124005 == x1077005) || (!(x1124006 == x1077006) || (!(x1124007 == x1077007) || (!(x1124008 == x1077008) || (!(x1124009 == x1077009) || (!(x1124010 == x1077010) || (!(x1124011 == x1077011) || (!(x1124012 == x1077012) || (!(x1124013 == x1077013) || (!(x1124014 == x1077014) || (!(x1124015 == x1077015) || (!(x1124016 == x1077016) || (!(x1124017 == x1077017) || (!(x1124018 == x1077018) || (!(x1124019 == x1077019) || (!(x1124020 == x1077020)))))))))))))))))))) x1077000 x1077001 x1077002 x1077003 x1077004 x1077005 x1077006 x1077007 x1077008 x1077009 x1077010 x1077011 x1077012 x1077013 x1077014 x1077015 x1077016 x1077017 x1077018 x1077019 x1077020 x1124000 x1124001 x1124002 x1124003 x1124004 x1124005 x1124006 x1124007 x1124008 x1124009 x1124010 x1124011 x1124012 x1124013 x1124014 x1124015 x1124016 x1124017 x1124018 x1124019 x1124020 x1131000 x1131001 x1131002 x1131003) else (attestorlaw28_MachineChanges.j1 k false x1077000 x1077001 x1077002 x1077003 x1077004 x1077005 x1077006 x1077007 x1077008 x1077009 x1077010 x1077011 x1077012 x1077013 x1077014 x1077015 x1077016 x1077017 x1077018 x1077019 x1077020 x1124000 x1124001 x1124002 x1124003 x1124004 x1124005 x1124006 x1124007 x1124008 x1124009 x1124010 x1124011 x1124012 x1124013 x1124014 x1124015 x1124016 x1124017 x1124018 x1124019 x1124020 x1131000 x1131001 x1131002 x1131003)))) else (none)) else (none))
def attestorlaw28_MachineChanges.j1 : Nat → Bool → Int → Int → Int → Int → Int → Int → Int → Int → Int → Int → Int → Int → Int → Int → Int → Int → Int → Int → Int → Int → Int → Int → Int → Int → Int → Int → Int → Int → Int → Int → Int → Int → Int → Int → Int → Int → Int → Int → Int → Int → Int → Int → Int → Int → Int → Int → Option (Bool)
  | 0, _, _, _, _, _, _, _, _, _, _, _, _, _, _, _, _, _, _, _, _, _, _, _, _, _, _, _, _, _, _, _, _, _, _, _, _, _, _, _, _, _, _, _, _, _, _, _ => none
  | k + 1, x85, x1077000, x1077001, x1077002, x1077003, x1077004, x1077005, x1077006, x1077007, x1077008, x1077009, x1077010, x1077011, x1077012, x1077013, x1077014, x1077015, x1077016, x1077017, x1077018, x1077019, x1077020, x1124000, x1124001, x1124002, x1124003, x1124004, x1124005, x1124006, x1124007, x1124008, x1124009, x1124010, x1124011, x1124012, x1124013, x1124014, x1124015, x1124016, x1124017, x1124018, x1124019, x1124020, x1131000, x1131001, x1131002, x1131003 => if x85 = true then (none) else (attestorlaw28_MachineChanges.l1 k 0 x1077000 x1077001 x1077002 x1077003 x1077004 x1077005 x1077006 x1077007 x1077008 x1077009 x1077010 x1077011 x1077012 x1077013 x1077014 x1077015 x1077016 x1077017 x1077018 x1077019 x1077020 x1124000 x1124001 x1124002 x1124003 x1124004 x1124005 x1124006 x1124007 x1124008 x1124009 x1124010 x1124011 x1124012 x1124013 x1124014 x1124015 x1124016 x1124017 x1124018 x1124019 x1124020 x1131000 x1131001 x1131002 x1131003)
def attestorlaw28_MachineChanges.l1 : Nat → Int → Int → Int → Int → Int → Int → Int → Int → Int → Int → Int → Int → Int → Int → Int → Int → Int → Int → Int → Int → Int → Int → Int → Int → Int → Int → Int → Int → Int → Int → Int → Int → Int → Int → Int → Int → Int → Int → Int → Int → Int → Int → Int → Int → Int → Int → Int → Option (Bool)
  | 0, _, _, _, _, _, _, _, _, _, _, _, _, _, _, _, _, _, _, _, _, _, _, _, _, _, _, _, _, _, _, _, _, _, _, _, _, _, _, _, _, _, _, _, _, _, _, _ => none
  | k + 1, x11, x1077000, x1077001, x1077002, x1077003, x1077004, x1077005, x1077006, x1077007, x1077008, x1077009, x1077010, x1077011, x1077012, x1077013, x1077014, x1077015, x1077016, x1077017, x1077018, x1077019, x1077020, x1124000, x1124001, x1124002, x1124003, x1124004, x1124005, x1124006, x1124007, x1124008, x1124009, x1124010, x1124011, x1124012, x1124013, x1124014, x1124015, x1124016, x1124017, x1124018, x1124019, x1124020, x1131000, x1131001, x1131002, x1131003 => if x11 < 4 then (if 0 ≤ x11 then (if (rd ([x1124001, x1124002, x1124003, x1124004] : List Int) x11) = (rd ([x1077001, x1077002, x1077003, x1077004] : List Int) x11) then (attestorlaw28_MachineChanges.l1 k (wrap64 (x11 + 1)) x1077000 x1077001 x1077002 x1077003 x1077004 x1077005 x1077006 x1077007 x1077008 x1077009 x1077010 x1077011 x1077012 x1077013 x1077014 x1077015 x1077016 x1077017 x1077018 x1077019 x1077020 x1124000 x1124001 x1124002 x1124003 x1124004 x1124005 x1124006 x1124007 x1124008 x1124009 x1124010 x1124011 x1124012 x1124013 x1124014 x1124015 x1124016 x1124017 x1124018 x1124019 x1124020 x1131000 x1131001 x1131002 x1131003) else (if x11 = (wrap64 (x1131001)) then (if x1131000 < 1 then (none) else (if x1131000 > 6 then (none) else (attestorlaw28_MachineChanges.l1 k (wrap64 (x11 + 1)) x1077000 x1077001 x1077002 x1077003 x1077004 x1077005 x1077006 x1077007 x1077008 x1077009 x1077010 x1077011 x1077012 x1077013 x1077014 x1077015 x1077016 x1077017 x1077018 x1077019 x1077020 x1124000 x1124001 x1124002 x1124003 x1124004 x1124005 x1124006 x1124007 x1124008 x1124009 x1124010 x1124011 x1124012 x1124013 x1124014 x1124015 x1124016 x1124017 x1124018 x1124019 x1124020 x1131000 x1131001 x1131002 x1131003))) else (none))) else (none)) else (attestorlaw28_MachineChanges.l2 k 0 x1077000 x1077001 x1077002 x1077003 x1077004 x1077005 x1077006 x1077007 x1077008 x1077009 x1077010 x1077011 x1077012 x1077013 x1077014 x1077015 x1077016 x1077017 x1077018 x1077019 x1077020 x1124000 x1124001 x1124002 x1124003 x1124004 x1124005 x1124006 x1124007 x1124008 x1124009 x1124010 x1124011 x1124012 x1124013 x1124014 x1124015 x1124016 x1124017 x1124018 x1124019 x1124020 x1131000 x1131001 x1131002 x1131003)
def attestorlaw28_MachineChanges.l2 : Nat → Int → Int → Int → Int → Int → Int → Int → Int → Int → Int → Int → Int → Int → Int → Int → Int → Int → Int → Int → Int → Int → Int → Int → Int → Int → Int → Int → Int → Int → Int → Int → Int → Int → Int → Int → Int → Int → Int → Int → Int → Int → Int → Int → Int → Int → Int → Int → Option (Bool)
  | 0, _, _, _, _, _, _, _, _, _, _, _, _, _, _, _, _, _, _, _, _, _, _, _, _, _, _, _, _, _, _, _, _, _, _, _, _, _, _, _, _, _, _, _, _, _, _, _ => none
  | k + 1, x12, x1077000, x1077001, x1077002, x1077003, x1077004, x1077005, x1077006, x1077007, x1077008, x1077009, x1077010, x1077011, x1077012, x1077013, x1077014, x1077015, x1077016, x1077017, x1077018, x1077019, x1077020, x1124000, x1124001, x1124002, x1124003, x1124004, x1124005, x1124006, x1124007, x1124008, x1124009, x1124010, x1124011, x1124012, x1124013, x1124014, x1124015, x1124016, x1124017, x1124018, x1124019, x1124020, x1131000, x1131001, x1131002, x1131003 => if x12 < 16 then (if 0 ≤ x12 then (if (rd ([x1124005, x1124006, x1124007, x1124008, x1124009, x1124010, x1124011, x1124012, x1124013, x1124014, x1124015, x1124016, x1124017, x1124018, x1124019, x1124020] : List Int) x12) = (rd ([x1077005, x1077006, x1077007, x1077008, x1077009, x1077010, x1077011, x1077012, x1077013, x1077014, x1077015, x1077016, x1077017, x1077018, x1077019, x1077020] : List Int) x12) then (attestorlaw28_MachineChanges.l2 k (wrap64 (x12 + 1)) x1077000 x1077001 x1077002 x1077003 x1077004 x1077005 x1077006 x1077007 x1077008 x1077009 x1077010 x1077011 x1077012 x1077013 x1077014 x1077015 x1077016 x1077017 x1077018 x1077019 x1077020 x1124000 x1124001 x1124002 x1124003 x1124004 x1124005 x1124006 x1124007 x1124008 x1124009 x1124010 x1124011 x1124012 x1124013 x1124014 x1124015 x1124016 x1124017 x1124018 x1124019 x1124020 x1131000 x1131001 x1131002 x1131003) else (if x1131000 = 7 then (if 0 ≤ x1131002 then (if x1131002 < 4 then (if x12 = (Int.tmod (wrap64 ((rd ([x1077001, x1077002, x1077003, x1077004] : List Int) x1131002))) 16) then (attestorlaw28_MachineChanges.l2 k (wrap64 (x12 + 1)) x1077000 x1077001 x1077002 x1077003 x1077004 x1077005 x1077006 x1077007 x1077008 x1077009 x1077010 x1077011 x1077012 x1077013 x1077014 x1077015 x1077016 x1077017 x1077018 x1077019 x1077020 x1124000 x1124001 x1124002 x1124003 x1124004 x1124005 x1124006 x1124007 x1124008 x1124009 x1124010 x1124011 x1124012 x1124013 x1124014 x1124015 x1124016 x1124017 x1124018 x1124019 x1124020 x1131000 x1131001 x1131002 x1131003) else (none)) else (none)) else (none)) else (none))) else (none)) else ((attestorlaw28_lives.f k).bind fun t1136 => (some t1136))
end
def attestorlaw28_MachineChanges.f (k : Nat) (l0 : List (S47)) (a1_0 : Int) (a1_1 : Int) (a1_2 : Int) (a1_3 : Int) (a1_4 : Int) (a1_5 : Int) (a1_6 : Int) (a1_7 : Int) (a1_8 : Int) (a1_9 : Int) (a1_10 : Int) (a1_11 : Int) (a1_12 : Int) (a1_13 : Int) (a1_14 : Int) (a1_15 : Int) (a1_16 : Int) (a1_17 : Int) (a1_18 : Int) (a1_19 : Int) (a1_20 : Int) : Option (Bool) := (attestorlaw28_cut.f l0).bind fun t1077 => ((attestorlaw28_valid.f t1077 a1_0 a1_1 a1_2 a1_3 a1_4 a1_5 a1_6 a1_7 a1_8 a1_9 a1_10 a1_11 a1_12 a1_13 a1_14 a1_15 a1_16 a1_17 a1_18 a1_19 a1_20).bind fun bt1080 => ((machine_Step.f k t1077 bt1080.1 bt1080.2.1 bt1080.2.2.1 bt1080.2.2.2.1 bt1080.2.2.2.2.1 bt1080.2.2.2.2.2.1 bt1080.2.2.2.2.2.2.1 bt1080.2.2.2.2.2.2.2.1 bt1080.2.2.2.2.2.2.2.2.1 bt1080.2.2.2.2.2.2.2.2.2.1 bt1080.2.2.2.2.2.2.2.2.2.2.1 bt1080.2.2.2.2.2.2.2.2.2.2.2.1 bt1080.2.2.2.2.2.2.2.2.2.2.2.2.1 bt1080.2.2.2.2.2.2.2.2.2.2.2.2.2.1 bt1080.2.2.2.2.2.2.2.2.2.2.2.2.2.2.1 bt1080.2.2.2.2.2.2.2.2.2.2.2.2.2.2.2.1 bt1080.2.2.2.2.2.2.2.2.2.2.2.2.2.2.2.2.1 bt1080.2.2.2.2.2.2.2.2.2.2.2.2.2.2.2.2.2.1 bt1080.2.2.2.2.2.2.2.2.2.2.2.2.2.2.2.2.2.2.1 bt1080.2.2.2.2.2.2.2.2.2.2.2.2.2.2.2.2.2.2.2.1 bt1080.2.2.2.2.2.2.2.2.2.2.2.2.2.2.2.2.2.2.2.2).bind fun bt1101 => ((isa_Valid.f k t1077).bind fun t1124 => (if t1124 = 0 then ((isa_Fetch.f t1077 bt1080.1).bind fun bt1126 => ((isa_Next.f k t1077 bt1080.1).bind fun t1131 => (attestorlaw28_MachineChanges.l0 k t1077 bt1101.2.2.2.2.2.2.2.2.2.2.2.2.2.2.2.2.2.2.2.2.2 false t1131 0 bt1080.1 bt1080.2.1 bt1080.2.2.1 bt1080.2.2.2.1 bt1080.2.2.2.2.1 bt1080.2.2.2.2.2.1 bt1080.2.2.2.2.2.2.1 bt1080.2.2.2.2.2.2.2.1 bt1080.2.2.2.2.2.2.2.2.1 bt1080.2.2.2.2.2.2.2.2.2.1 bt1080.2.2.2.2.2.2.2.2.2.2.1 bt1080.2.2.2.2.2.2.2.2.2.2.2.1 bt1080.2.2.2.2.2.2.2.2.2.2.2.2.1 bt1080.2.2.2.2.2.2.2.2.2.2.2.2.2.1 bt1080.2.2.2.2.2.2.2.2.2.2.2.2.2.2.1 bt1080.2.2.2.2.2.2.2.2.2.2.2.2.2.2.2.1 bt1080.2.2.2.2.2.2.2.2.2.2.2.2.2.2.2.2.1 bt1080.2.2.2.2.2.2.2.2.2.2.2.2.2.2.2.2.2.1 bt1080.2.2.2.2.2.2.2.2.2.2.2.2.2.2.2.2.2.2.1 bt1080.2.2.2.2.2.2.2.2.2.2.2.2.2.2.2.2.2.2.2.1 bt1080.2.2.2.2.2.2.2.2.2.2.2.2.2.2.2.2.2.2.2.2 bt1101.1 bt1101.2.1 bt1101.2.2.1 bt1101.2.2.2.1 bt1101.2.2.2.2.1 bt1101.2.2.2.2.2.1 bt1101.2.2.2.2.2.2.1 bt1101.2.2.2.2.2.2.2.1 bt1101.2.2.2.2.2.2.2.2.1 bt1101.2.2.2.2.2.2.2.2.2.1 bt1101.2.2.2.2.2.2.2.2.2.2.1 bt1101.2.2.2.2.2.2.2.2.2.2.2.1 bt1101.2.2.2.2.2.2.2.2.2.2.2.2.1 bt1101.2.2.2.2.2.2.2.2.2.2.2.2.2.1 bt1101.2.2.2.2.2.2.2.2.2.2.2.2.2.2.1 bt1101.2.2.2.2.2.2.2.2.2.2.2.2.2.2.2.1 bt1101.2.2.2.2.2.2.2.2.2.2.2.2.2.2.2.2.1 bt1101.2.2.2.2.2.2.2.2.2.2.2.2.2.2.2.2.2.1 bt1101.2.2.2.2.2.2.2.2.2.2.2.2.2.2.2.2.2.2.1 bt1101.2.2.2.2.2.2.2.2.2.2.2.2.2.2.2.2.2.2.2.1 bt1101.2.2.2.2.2.2.2.2.2.2.2.2.2.2.2.2.2.2.2.2.1 bt1126.1 bt1126.2.1 bt1126.2.2.1 bt1126.2.2.2))) else (if bt1101.2.2.2.2.2.2.2.2.2.2.2.2.2.2.2.2.2.2.2.2.2 = 1 then (if (bt1101.1 == 0 && ((bt1101.2.1 == 0 && (bt1101.2.2.1 == 0 && (bt1101.2.2.2.1 == 0 && (bt1101.2.2.2.2.1 == 0)))) && ((bt1101.2.2.2.2.2.1 == 0 && (bt1101.2.2.2.2.2.2.1 == 0 && (bt1101.2.2.2.2.2.2.2.1 == 0 && (bt1101.2.2.2.2.2.2.2.2.1 == 0 && (bt1101.2.2.2.2.2.2.2.2.2.1 == 0 && (bt1101.2.2.2.2.2.2.2.2.2.2.1 == 0 && (bt1101.2.2.2.2.2.2.2.2.2.2.2.1 == 0 && (bt1101.2.2.2.2.2.2.2.2.2.2.2.2.1 == 0 && (bt1101.2.2.2.2.2.2.2.2.2.2.2.2.2.1 == 0 && (bt1101.2.2.2.2.2.2.2.2.2.2.2.2.2.2.1 == 0 && (bt1101.2.2.2.2.2.2.2.2.2.2.2.2.2.2.2.1 == 0 && (bt1101.2.2.2.2.2.2.2.2.2.2.2.2.2.2.2.2.1 == 0 && (bt1101.2.2.2.2.2.2.2.2.2.2.2.2.2.2.2.2.2.1 == 0 && (bt1101.2.2.2.2.2.2.2.2.2.2.2.2.2.2.2.2.2.2.1 == 0 && (bt1101.2.2.2.2.2.2.2.2.2.2.2.2.2.2.2.2.2.2.2.1 == 0 && (bt1101.2.2.2.2.2.2.2.2.2.2.2.2.2.2.2.2.2.2.2.2.1 == 0))))))))))))))))))) = true then ((attestorlaw28_lives.f k).bind fun t1125 => (some t1125)) else (none)) else (none))))))
theorem attestorlaw28_MachineChanges.mono_l : ∀ k, (∀ y0 y1 y2 y3 y4 y5 y6 y7 y8 y9 y10 y11 y12 y13 y14 y15 y16 y17 y18 y19 y20 y21 y22 y23 y24 y25 y26 y27 y28 y29 y30 y31 y32 y33 y34 y35 y36 y37 y38 y39 y40 y41 y42 y43 y44 y45 y46 y47 y48 y49 y50, LeO (attestorlaw28_MachineChanges.l0 k y0 y1 y2 y3 y4 y5 y6 y7 y8 y9 y10 y11 y12 y13 y14 y15 y16 y17 y18 y19 y20 y21 y22 y23 y24 y25 y26 y27 y28 y29 y30 y31 y32 y33 y34 y35 y36 y37 y38 y39 y40 y41 y42 y43 y44 y45 y46 y47 y48 y49 y50) (attestorlaw28_MachineChanges.l0 (k + 1) y0 y1 y2 y3 y4 y5 y6 y7 y8 y9 y10 y11 y12 y13 y14 y15 y16 y17 y18 y19 y20 y21 y22 y23 y24 y25 y26 y27 y28 y29 y30 y31 y32 y33 y34 y35 y36 y37 y38 y39 y40 y41 y42 y43 y44 y45 y46 y47 y48 y49 y50)) ∧ (∀ y0 y1 y2 y3 y4 y5 y6 y7 y8 y9 y10 y11 y12 y13 y14 y15 y16 y17 y18 y19 y20 y21 y22 y23 y24 y25 y26 y27 y28 y29 y30 y31 y32 y33 y34 y35 y36 y37 y38 y39 y40 y41 y42 y43 y44 y45 y46, LeO (attestorlaw28_MachineChanges.j1 k y0 y1 y2 y3 y4 y5 y6 y7 y8 y9 y10 y11 y12 y13 y14 y15 y16 y17 y18 y19 y20 y21 y22 y23 y24 y25 y26 y27 y28 y29 y30 y31 y32 y33 y34 y35 y36 y37 y38 y39 y40 y41 y42 y43 y44 y45 y46) (attestorlaw28_MachineChanges.j1 (k + 1) y0 y1 y2 y3 y4 y5 y6 y7 y8 y9 y10 y11 y12 y13 y14 y15 y16 y17 y18 y19 y20 y21 y22 y23 y24 y25 y26 y27 y28 y29 y30 y31 y32 y33 y34 y35 y36 y37 y38 y39 y40 y41 y42 y43 y44 y45 y46)) ∧ (∀ y0 y1 y2 y3 y4 y5 y6 y7 y8 y9 y10 y11 y12 y13 y14 y15 y16 y17 y18 y19 y20 y21 y22 y23 y24 y25 y26 y27 y28 y29 y30 y31 y32 y33 y34 y35 y36 y37 y38 y39 y40 y41 y42 y43 y44 y45 y46, LeO (attestorlaw28_MachineChanges.l1 k y0 y1 y2 y3 y4 y5 y6 y7 y8 y9 y10 y11 y12 y13 y14 y15 y16 y17 y18 y19 y20 y21 y22 y23 y24 y25 y26 y27 y28 y29 y30 y31 y32 y33 y34 y35 y36 y37 y38 y39 y40 y41 y42 y43 y44 y45 y46) (attestorlaw28_MachineChanges.l1 (k + 1) y0 y1 y2 y3 y4 y5 y6 y7 y8 y9 y10 y11 y12 y13 y14 y15 y16 y17 y18 y19 y20 y21 y22 y23 y24 y25 y26 y27 y28 y29 y30 y31 y32 y33 y34 y35 y36 y37 y38 y39 y40 y41 y42 y43 y44 y45 y46)) ∧ (∀ y0 y1 y2 y3 y4 y5 y6 y7 y8 y9 y10 y11 y12 y13 y14 y15 y16 y17 y18 y19 y20 y21 y22 y23 y24 y25 y26 y27 y28 y29 y30 y31 y32 y33 y34 y35 y36 y37 y38 y39 y40 y41 y42 y43 y44 y45 y46, LeO (attestorlaw28_MachineChanges.l2 k y0 y1 y2 y3 y4 y5 y6 y7 y8 y9 y10 y11 y12 y13 y14 y15 y16 y17 y18 y19 y20 y21 y22 y23 y24 y25 y26 y27 y28 y29 y30 y31 y32 y33 y34 y35 y36 y37 y38 y39 y40 y41 y42 y43 y44 y45 y46) (attestorlaw28_MachineChanges.l2 (k + 1) y0 y1 y2 y3 y4 y5 y6 y7 y8 y9 y10 y11 y12 y13 y14 y15 y16 y17 y18 y19 y20 y21 y22 y23 y24 y25 y26 y27 y28 y29 y30 y31 y32 y33 y34 y35 y36 y37 y38 y39 y40 y41 y42 y43 y44 y45 y46))
  | 0 => ⟨fun _ _ _ _ _ _ _ _ _ _ _ _ _ _ _ _ _ _ _ _ _ _ _ _ _ _ _ _ _ _ _ _ _ _ _ _ _ _ _ _ _ _ _ _ _ _ _ _ _ _ _ r h => by simp [attestorlaw28_MachineChanges.l0] at h, fun _ _ _ _ _ _ _ _ _ _ _ _ _ _ _ _ _ _ _ _ _ _ _ _ _ _ _ _ _ _ _ _ _ _ _ _ _ _ _ _ _ _ _ _ _ _ _ r h => by simp [attestorlaw28_MachineChanges.j1] at h, fun _ _ _ _ _ _ _ _ _ _ _ _ _ _ _ _ _ _ _ _ _ _ _ _ _ _ _ _ _ _ _ _ _ _ _ _ _ _ _ _ _ _ _ _ _ _ _ r h => by simp [attestorlaw28_MachineChanges.l1] at h, fun _ _ _ _ _ _ _ _ _ _ _ _ _ _ _ _ _ _ _ _ _ _ _ _ _ _ _ _ _ _ _ _ _ _ _ _ _ _ _ _ _ _ _ _ _ _ _ r h => by simp [attestorlaw28_MachineChanges.l2] at h⟩
  | k + 1 => by
    obtain ⟨ih0, ih1, ih2, ih3⟩ := attestorlaw28_MachineChanges.mono_l k
    refine ⟨?_, ?_, ?_, ?_⟩
    · intro y0 y1 y2 y3 y4 y5 y6 y7 y8 y9 y10 y11 y12 y13 y14 y15 y16 y17 y18 y19 y20 y21 y22 y23 y24 y25 y26 y27 y28 y29 y30 y31 y32 y33 y34 y35 y36 y37 y38 y39 y40 y41 y42 y43 y44 y45 y46 y47 y48 y49 y50
      unfold attestorlaw28_MachineChanges.l0
      repeat' first
      | (with_reducible exact ih0 _ _ _ _ _ _ _ _ _ _ _ _ _ _ _ _ _ _ _ _ _ _ _ _ _ _ _ _ _ _ _ _ _ _ _ _ _ _ _ _ _ _ _ _ _ _ _ _ _ _ _)
      | (with_reducible exact ih1 _ _ _ _ _ _ _ _ _ _ _ _ _ _ _ _ _ _ _ _ _ _ _ _ _ _ _ _ _ _ _ _ _ _ _ _ _ _ _ _ _ _ _ _ _ _ _)
      | (with_reducible exact ih2 _ _ _ _ _ _ _ _ _ _ _ _ _ _ _ _ _ _ _ _ _ _ _ _ _ _ _ _ _ _ _ _ _ _ _ _ _ _ _ _ _ _ _ _ _ _ _)
      | (with_reducible exact ih3 _ _ _ _ _ _ _ _ _ _ _ _ _ _ _ _ _ _ _ _ _ _ _ _ _ _ _ _ _ _ _ _ _ _ _ _ _ _ _ _ _ _ _ _ _ _ _)
      | (with_reducible exact attestorlaw28_lives.mono _)
      | (with_reducible exact isa_Next.mono _ _ _)
      | (with_reducible exact isa_Valid.mono _ _)
      | (with_reducible exact machine_Halted.mono _ _ _ _ _ _ _ _ _ _ _ _ _ _ _ _ _ _ _ _ _ _ _)
      | (with_reducible exact machine_Step.mono _ _ _ _ _ _ _ _ _ _ _ _ _ _ _ _ _ _ _ _ _ _ _)
      | (with_reducible exact LeO.refl _)
      | (with_reducible exact LeO.none _)
      | (with_reducible refine LeO.ite ?_ ?_)
      | (with_reducible refine LeO.bind ?_ (fun _ => ?_))
      | exact ih0 _ _ _ _ _ _ _ _ _ _ _ _ _ _ _ _ _ _ _ _ _ _ _ _ _ _ _ _ _ _ _ _ _ _ _ _ _ _ _ _ _ _ _ _ _ _ _ _ _ _ _
      | exact ih1 _ _ _ _ _ _ _ _ _ _ _ _ _ _ _ _ _ _ _ _ _ _ _ _ _ _ _ _ _ _ _ _ _ _ _ _ _ _ _ _ _ _ _ _ _ _ _
      | exact ih2 _ _ _ _ _ _ _ _ _ _ _ _ _ _ _ _ _ _ _ _ _ _ _ _ _ _ _ _ _ _ _ _ _ _ _ _ _ _ _ _ _ _ _ _ _ _ _
      | exact ih3 _ _ _ _ _ _ _ _ _ _ _ _ _ _ _ _ _ _ _ _ _ _ _ _ _ _ _ _ _ _ _ _ _ _ _ _ _ _ _ _ _ _ _ _ _ _ _
      | exact attestorlaw28_lives.mono _
      | exact isa_Next.mono _ _ _
      | exact isa_Valid.mono _ _
      | exact machine_Halted.mono _ _ _ _ _ _ _ _ _ _ _ _ _ _ _ _ _ _ _ _ _ _ _
      | exact machine_Step.mono _ _ _ _ _ _ _ _ _ _ _ _ _ _ _ _ _ _ _ _ _ _ _
      | exact LeO.none _
      | refine LeO.ite ?_ ?_
      | refine LeO.bind ?_ (fun _ => ?_)
    · intro y0 y1 y2 y3 y4 y5 y6 y7 y8 y9 y10 y11 y12 y13 y14 y15 y16 y17 y18 y19 y20 y21 y22 y23 y24 y25 y26 y27 y28 y29 y30 y31 y32 y33 y34 y35 y36 y37 y38 y39 y40 y41 y42 y43 y44 y45 y46
      unfold attestorlaw28_MachineChanges.j1
      repeat' first
      | (with_reducible exact ih0 _ _ _ _ _ _ _ _ _ _ _ _ _ _ _ _ _ _ _ _ _ _ _ _ _ _ _ _ _ _ _ _ _ _ _ _ _ _ _ _ _ _ _ _ _ _ _ _ _ _ _)
      | (with_reducible exact ih1 _ _ _ _ _ _ _ _ _ _ _ _ _ _ _ _ _ _ _ _ _ _ _ _ _ _ _ _ _ _ _ _ _ _ _ _ _ _ _ _ _ _ _ _ _ _ _)
      | (with_reducible exact ih2 _ _ _ _ _ _ _ _ _ _ _ _ _ _ _ _ _ _ _ _ _ _ _ _ _ _ _ _ _ _ _ _ _ _ _ _ _ _ _ _ _ _ _ _ _ _ _)
      | (with_reducible exact ih3 _ _ _ _ _ _ _ _ _ _ _ _ _ _ _ _ _ _ _ _ _ _ _ _ _ _ _ _ _ _ _ _ _ _ _ _ _ _ _ _ _ _ _ _ _ _ _)
      | (with_reducible exact attestorlaw28_lives.mono _)
      | (with_reducible exact isa_Next.mono _ _ _)
      | (with_reducible exact isa_Valid.mono _ _)
      | (with_reducible exact machine_Halted.mono _ _ _ _ _ _ _ _ _ _ _ _ _ _ _ _ _ _ _ _ _ _ _)
      | (with_reducible exact machine_Step.mono _ _ _ _ _ _ _ _ _ _ _ _ _ _ _ _ _ _ _ _ _ _ _)
      | (with_reducible exact LeO.refl _)
      | (with_reducible exact LeO.none _)
      | (with_reducible refine LeO.ite ?_ ?_)
      | (with_reducible refine LeO.bind ?_ (fun _ => ?_))
      | exact ih0 _ _ _ _ _ _ _ _ _ _ _ _ _ _ _ _ _ _ _ _ _ _ _ _ _ _ _ _ _ _ _ _ _ _ _ _ _ _ _ _ _ _ _ _ _ _ _ _ _ _ _
      | exact ih1 _ _ _ _ _ _ _ _ _ _ _ _ _ _ _ _ _ _ _ _ _ _ _ _ _ _ _ _ _ _ _ _ _ _ _ _ _ _ _ _ _ _ _ _ _ _ _
      | exact ih2 _ _ _ _ _ _ _ _ _ _ _ _ _ _ _ _ _ _ _ _ _ _ _ _ _ _ _ _ _ _ _ _ _ _ _ _ _ _ _ _ _ _ _ _ _ _ _
      | exact ih3 _ _ _ _ _ _ _ _ _ _ _ _ _ _ _ _ _ _ _ _ _ _ _ _ _ _ _ _ _ _ _ _ _ _ _ _ _ _ _ _ _ _ _ _ _ _ _
      | exact attestorlaw28_lives.mono _
      | exact isa_Next.mono _ _ _
      | exact isa_Valid.mono _ _
      | exact machine_Halted.mono _ _ _ _ _ _ _ _ _ _ _ _ _ _ _ _ _ _ _ _ _ _ _
      | exact machine_Step.mono _ _ _ _ _ _ _ _ _ _ _ _ _ _ _ _ _ _ _ _ _ _ _
      | exact LeO.none _
      | refine LeO.ite ?_ ?_
      | refine LeO.bind ?_ (fun _ => ?_)
    · intro y0 y1 y2 y3 y4 y5 y6 y7 y8 y9 y10 y11 y12 y13 y14 y15 y16 y17 y18 y19 y20 y21 y22 y23 y24 y25 y26 y27 y28 y29 y30 y31 y32 y33 y34 y35 y36 y37 y38 y39 y40 y41 y42 y43 y44 y45 y46
      unfold attestorlaw28_MachineChanges.l1
      repeat' first
      | (with_reducible exact ih0 _ _ _ _ _ _ _ _ _ _ _ _ _ _ _ _ _ _ _ _ _ _ _ _ _ _ _ _ _ _ _ _ _ _ _ _ _ _ _ _ _ _ _ _ _ _ _ _ _ _ _)
      | (with_reducible exact ih1 _ _ _ _ _ _ _ _ _ _ _ _ _ _ _ _ _ _ _ _ _ _ _ _ _ _ _ _ _ _ _ _ _ _ _ _ _ _ _ _ _ _ _ _ _ _ _)
      | (with_reducible exact ih2 _ _ _ _ _ _ _ _ _ _ _ _ _ _ _ _ _ _ _ _ _ _ _ _ _ _ _ _ _ _ _ _ _ _ _ _ _ _ _ _ _ _ _ _ _ _ _)
      | (with_reducible exact ih3 _ _ _ _ _ _ _ _ _ _ _ _ _ _ _ _ _ _ _ _ _ _ _ _ _ _ _ _ _ _ _ _ _ _ _ _ _ _ _ _ _ _ _ _ _ _ _)
      | (with_reducible exact attestorlaw28_lives.mono _)
      | (with_reducible exact isa_Next.mono _ _ _)
      | (with_reducible exact isa_Valid.mono _ _)
      | (with_reducible exact machine_Halted.mono _ _ _ _ _ _ _ _ _ _ _ _ _ _ _ _ _ _ _ _ _ _ _)
      | (with_reducible exact machine_Step.mono _ _ _ _ _ _ _ _ _ _ _ _ _ _ _ _ _ _ _ _ _ _ _)
      | (with_reducible exact LeO.refl _)
      | (with_reducible exact LeO.none _)
      | (with_reducible refine LeO.ite ?_ ?_)
      | (with_reducible refine LeO.bind ?_ (fun _ => ?_))
      | exact ih0 _ _ _ _ _ _ _ _ _ _ _ _ _ _ _ _ _ _ _ _ _ _ _ _ _ _ _ _ _ _ _ _ _ _ _ _ _ _ _ _ _ _ _ _ _ _ _ _ _ _ _
      | exact ih1 _ _ _ _ _ _ _ _ _ _ _ _ _ _ _ _ _ _ _ _ _ _ _ _ _ _ _ _ _ _ _ _ _ _ _ _ _ _ _ _ _ _ _ _ _ _ _
      | exact ih2 _ _ _ _ _ _ _ _ _ _ _ _ _ _ _ _ _ _ _ _ _ _ _ _ _ _ _ _ _ _ _ _ _ _ _ _ _ _ _ _ _ _ _ _ _ _ _
      | exact ih3 _ _ _ _ _ _ _ _ _ _ _ _ _ _ _ _ _ _ _ _ _ _ _ _ _ _ _ _ _ _ _ _ _ _ _ _ _ _ _ _ _ _ _ _ _ _ _
      | exact attestorlaw28_lives.mono _
      | exact isa_Next.mono _ _ _
      | exact isa_Valid.mono _ _
      | exact machine_Halted.mono _ _ _ _ _ _ _ _ _ _ _ _ _ _ _ _ _ _ _ _ _ _ _
      | exact machine_Step.mono _ _ _ _ _ _ _ _ _ _ _ _ _ _ _ _ _ _ _ _ _ _ _
      | exact LeO.none _
      | refine LeO.ite ?_ ?_
      | refine LeO.bind ?_ (fun _ => ?_)
    · intro y0 y1 y2 y3 y4 y5 y6 y7 y8 y9 y10 y11 y12 y13 y14 y15 y16 y17 y18 y19 y20 y21 y22 y23 y24 y25 y26 y27 y28 y29 y30 y31 y32 y33 y34 y35 y36 y37 y38 y39 y40 y41 y42 y43 y44 y45 y46
      unfold attestorlaw28_MachineChanges.l2
      repeat' first
      | (with_reducible exact ih0 _ _ _ _ _ _ _ _ _ _ _ _ _ _ _ _ _ _ _ _ _ _ _ _ _ _ _ _ _ _ _ _ _ _ _ _ _ _ _ _ _ _ _ _ _ _ _ _ _ _ _)
      | (with_reducible exact ih1 _ _ _ _ _ _ _ _ _ _ _ _ _ _ _ _ _ _ _ _ _ _ _ _ _ _ _ _ _ _ _ _ _ _ _ _ _ _ _ _ _ _ _ _ _ _ _)
      | (with_reducible exact ih2 _ _ _ _ _ _ _ _ _ _ _ _ _ _ _ _ _ _ _ _ _ _ _ _ _ _ _ _ _ _ _ _ _ _ _ _ _ _ _ _ _ _ _ _ _ _ _)
      | (with_reducible exact ih3 _ _ _ _ _ _ _ _ _ _ _ _ _ _ _ _ _ _ _ _ _ _ _ _ _ _ _ _ _ _ _ _ _ _ _ _ _ _ _ _ _ _ _ _ _ _ _)
      | (with_reducible exact attestorlaw28_lives.mono _)
      | (with_reducible exact isa_Next.mono _ _ _)
      | (with_reducible exact isa_Valid.mono _ _)
      | (with_reducible exact machine_Halted.mono _ _ _ _ _ _ _ _ _ _ _ _ _ _ _ _ _ _ _ _ _ _ _)
      | (with_reducible exact machine_Step.mono _ _ _ _ _ _ _ _ _ _ _ _ _ _ _ _ _ _ _ _ _ _ _)
      | (with_reducible exact LeO.refl _)
      | (with_reducible exact LeO.none _)
      | (with_reducible refine LeO.ite ?_ ?_)
      | (with_reducible refine LeO.bind ?_ (fun _ => ?_))
      | exact ih0 _ _ _ _ _ _ _ _ _ _ _ _ _ _ _ _ _ _ _ _ _ _ _ _ _ _ _ _ _ _ _ _ _ _ _ _ _ _ _ _ _ _ _ _ _ _ _ _ _ _ _
      | exact ih1 _ _ _ _ _ _ _ _ _ _ _ _ _ _ _ _ _ _ _ _ _ _ _ _ _ _ _ _ _ _ _ _ _ _ _ _ _ _ _ _ _ _ _ _ _ _ _
      | exact ih2 _ _ _ _ _ _ _ _ _ _ _ _ _ _ _ _ _ _ _ _ _ _ _ _ _ _ _ _ _ _ _ _ _ _ _ _ _ _ _ _ _ _ _ _ _ _ _
      | exact ih3 _ _ _ _ _ _ _ _ _ _ _ _ _ _ _ _ _ _ _ _ _ _ _ _ _ _ _ _ _ _ _ _ _ _ _ _ _ _ _ _ _ _ _ _ _ _ _
      | exact attestorlaw28_lives.mono _
      | exact isa_Next.mono _ _ _
      | exact isa_Valid.mono _ _
      | exact machine_Halted.mono _ _ _ _ _ _ _ _ _ _ _ _ _ _ _ _ _ _ _ _ _ _ _
      | exact machine_Step.mono _ _ _ _ _ _ _ _ _ _ _ _ _ _ _ _ _ _ _ _ _ _ _
      | exact LeO.none _
      | refine LeO.ite ?_ ?_
      | refine LeO.bind ?_ (fun _ => ?_)
theorem attestorlaw28_MachineChanges.mono : ∀ a0 a1 a2 a3 a4 a5 a6 a7 a8 a9 a10 a11 a12 a13 a14 a15 a16 a17 a18 a19 a20 a21 k, LeO (attestorlaw28_MachineChanges.f k a0 a1 a2 a3 a4 a5 a6 a7 a8 a9 a10 a11 a12 a13 a14 a15 a16 a17 a18 a19 a20 a21) (attestorlaw28_MachineChanges.f (k + 1) a0 a1 a2 a3 a4 a5 a6 a7 a8 a9 a10 a11 a12 a13 a14 a15 a16 a17 a18 a19 a20 a21) := by
  intro a0 a1 a2 a3 a4 a5 a6 a7 a8 a9 a10 a11 a12 a13 a14 a15 a16 a17 a18 a19 a20 a21 k
  obtain ⟨ih0, ih1, ih2, ih3⟩ := attestorlaw28_MachineChanges.mono_l k
  unfold attestorlaw28_MachineChanges.f
  repeat' first
      | (with_reducible exact ih0 _ _ _ _ _ _ _ _ _ _ _ _ _ _ _ _ _ _ _ _ _ _ _ _ _ _ _ _ _ _ _ _ _ _ _ _ _ _ _ _ _ _ _ _ _ _ _ _ _ _ _)
      | (with_reducible exact ih1 _ _ _ _ _ _ _ _ _ _ _ _ _ _ _ _ _ _ _ _ _ _ _ _ _ _ _ _ _ _ _ _ _ _ _ _ _ _ _ _ _ _ _ _ _ _ _)
      | (with_reducible exact ih2 _ _ _ _ _ _ _ _ _ _ _ _ _ _ _ _ _ _ _ _ _ _ _ _ _ _ _ _ _ _ _ _ _ _ _ _ _ _ _ _ _ _ _ _ _ _ _)
      | (with_reducible exact ih3 _ _ _ _ _ _ _ _ _ _ _ _ _ _ _ _ _ _ _ _ _ _ _ _ _ _ _ _ _ _ _ _ _ _ _ _ _ _ _ _ _ _ _ _ _ _ _)
      | (with_reducible exact attestorlaw28_lives.mono _)
      | (with_reducible exact isa_Next.mono _ _ _)
      | (with_reducible exact isa_Valid.mono _ _)
      | (with_reducible exact machine_Halted.mono _ _ _ _ _ _ _ _ _ _ _ _ _ _ _ _ _ _ _ _ _ _ _)
      | (with_reducible exact machine_Step.mono _ _ _ _ _ _ _ _ _ _ _ _ _ _ _ _ _ _ _ _ _ _ _)
      | (with_reducible exact LeO.refl _)
      | (with_reducible exact LeO.none _)
      | (with_reducible refine LeO.ite ?_ ?_)
      | (with_reducible refine LeO.bind ?_ (fun _ => ?_))
      | exact ih0 _ _ _ _ _ _ _ _ _ _ _ _ _ _ _ _ _ _ _ _ _ _ _ _ _ _ _ _ _ _ _ _ _ _ _ _ _ _ _ _ _ _ _ _ _ _ _ _ _ _ _
      | exact ih1 _ _ _ _ _ _ _ _ _ _ _ _ _ _ _ _ _ _ _ _ _ _ _ _ _ _ _ _ _ _ _ _ _ _ _ _ _ _ _ _ _ _ _ _ _ _ _
      | exact ih2 _ _ _ _ _ _ _ _ _ _ _ _ _ _ _ _ _ _ _ _ _ _ _ _ _ _ _ _ _ _ _ _ _ _ _ _ _ _ _ _ _ _ _ _ _ _ _
      | exact ih3 _ _ _ _ _ _ _ _ _ _ _ _ _ _ _ _ _ _ _ _ _ _ _ _ _ _ _ _ _ _ _ _ _ _ _ _ _ _ _ _ _ _ _ _ _ _ _
      | exact attestorlaw28_lives.mono _
      | exact isa_Next.mono _ _ _
      | exact isa_Valid.mono _ _
      | exact machine_Halted.mono _ _ _ _ _ _ _ _ _ _ _ _ _ _ _ _ _ _ _ _ _ _ _
      | exact machine_Step.mono _ _ _ _ _ _ _ _ _ _ _ _ _ _ _ _ _ _ _ _ _ _ _
      | exact LeO.none _
      | refine LeO.ite ?_ ?_
      | refine LeO.bind ?_ (fun _ => ?_)
def attestorlaw28_MachineChanges.T12 : Bool × List (List Nat × List Nat) := (true, [([], []), ([0], [0]), ([1], [1]), ([1], [1]), ([2, 3, 1], [1, 2, 3]), ([4, 1], [1, 4]), ([1], [1]), ([6, 1], [1, 6]), ([5, 7, 1], [1, 5, 7]), ([1, 8], [1, 8]), ([9, 1, 0, 1, 2, 3, 4, 5, 6, 7, 8, 9], [0, 9])])
def attestorlaw28_MachineChanges.B12 : List Nat := [0, 1, 3, 3, 15, 31, 3, 67, 255, 511, 1023]
theorem attestorlaw28_MachineChanges.tab12 : rtab .any (opsOf Tryd.f8 12) = attestorlaw28_MachineChanges.T12 := by kernel_rfl
theorem attestorlaw28_MachineChanges.bits12 : waitsOk attestorlaw28_MachineChanges.T12.2 attestorlaw28_MachineChanges.B12 = true := by kernel_rfl
def attestorlaw28_MachineChanges.T13 : Bool × List (List Nat × List Nat) := (true, [([], []), ([0], [0]), ([1], [1]), ([2], [2]), ([3, 2], [2, 3]), ([2, 4], [2, 4]), ([5, 2], [5]), ([6], [6]), ([6], [6]), ([7, 8, 6, 6], [6, 7, 8]), ([6], [6]), ([10, 6], [6, 10]), ([11, 6], [6, 11]), ([9, 12, 6], [6, 9, 12]), ([6, 13], [6, 13]), ([14, 9], [14]), ([15], [15]), ([16, 15], [15, 16]), ([17, 15], [15, 17]), ([18, 15, 15], [15, 18]), ([19], [19]), ([19], [19]), ([20, 21, 19], [19, 20, 21]), ([19, 22, 15], [15, 19, 22]), ([15, 23], [15, 23])])
def attestorlaw28_MachineChanges.B13 : List Nat := [0, 1, 3, 7, 15, 31, 63, 127, 127, 511, 127, 1151, 3199, 8191, 16383, 32767, 65535, 131071, 262143, 524287, 1048575, 1048575, 4194303, 8388607, 16777215]
theorem attestorlaw28_MachineChanges.tab13 : rtab .any (opsOf Tryd.f8 13) = attestorlaw28_MachineChanges.T13 := by kernel_rfl
theorem attestorlaw28_MachineChanges.bits13 : waitsOk attestorlaw28_MachineChanges.T13.2 attestorlaw28_MachineChanges.B13 = true := by kernel_rfl
def attestorlaw28_MachineChanges.T18 : Bool × List (List Nat × List Nat) := (true, [([], []), ([], []), ([1, 0], [0, 1]), ([2], [2]), ([], []), ([], []), ([5, 4], [4, 5]), ([6], [6]), ([3, 7], [3, 7]), ([8], [8]), ([9], [9]), ([9], [9]), ([11, 9], [9, 11]), ([12, 9], [9, 12]), ([10, 13, 9], [9, 10, 13]), ([14, 9, 9], [9, 14]), ([15], [15]), ([16, 15], [15, 16]), ([17, 15], [15, 17]), ([15, 18, 9], [9, 15, 18]), ([19, 15, 9], [9, 19]), ([20], [20]), ([21, 20], [20, 21]), ([22, 20], [20, 22]), ([20, 23, 9], [9, 20, 23]), ([9, 24], [9, 24])])
def attestorlaw28_MachineChanges.B18 : List Nat := [0, 0, 3, 7, 0, 0, 48, 112, 255, 511, 1023, 1023, 3071, 7167, 16383, 32767, 65535, 131071, 262143, 524287, 1048575, 2097151, 4194303, 8388607, 16777215, 33554431]
theorem attestorlaw28_MachineChanges.tab18 : rtab .any (opsOf Tryd.f8 18) = attestorlaw28_MachineChanges.T18 := by kernel_rfl
theorem attestorlaw28_MachineChanges.bits18 : waitsOk attestorlaw28_MachineChanges.T18.2 attestorlaw28_MachineChanges.B18 = true := by kernel_rfl
def attestorlaw28_MachineChanges.T23 : Bool × List (List Nat × List Nat) := (true, [([], []), ([], []), ([1, 0], [0, 1]), ([2], [2]), ([], []), ([], []), ([5, 4], [4, 5]), ([6], [6]), ([3, 7], [3, 7]), ([8], [8]), ([9], [9]), ([10, 9], [9, 10]), ([11, 9], [9, 11]), ([12, 9, 9], [9, 12]), ([13], [13]), ([13], [13]), ([15, 13], [13, 15]), ([13], [13]), ([17, 16, 13], [13, 16, 17]), ([18, 13], [13, 18]), ([19, 13], [13, 19]), ([20, 13], [13, 20]), ([14, 21, 13], [13, 14, 21]), ([13, 22, 9], [9, 13, 22]), ([9, 23], [9, 23])])
def attestorlaw28_MachineChanges.B23 : List Nat := [0, 0, 3, 7, 0, 0, 48, 112, 255, 511, 1023, 2047, 4095, 8191, 16383, 16383, 49151, 16383, 245759, 507903, 1032191, 2080767, 4194303, 8388607, 16777215]
theorem attestorlaw28_MachineChanges.tab23 : rtab .any (opsOf Tryd.f8 23) = attestorlaw28_MachineChanges.T23 := by kernel_rfl
theorem attestorlaw28_MachineChanges.bits23 : waitsOk attestorlaw28_MachineChanges.T23.2 attestorlaw28_MachineChanges.B23 = true := by kernel_rfl
set_option maxHeartbeats 8000000 in
set_option maxRecDepth 100000 in
theorem attestorlaw28_MachineChanges.calls (k : Nat) (A0 : Option Addr) (c0 : Nat) (l0 : List (S47)) (a1_0 : Int) (a1_1 : Int) (a1_2 : Int) (a1_3 : Int) (a1_4 : Int) (a1_5 : Int) (a1_6 : Int) (a1_7 : Int) (a1_8 : Int) (a1_9 : Int) (a1_10 : Int) (a1_11 : Int) (a1_12 : Int) (a1_13 : Int) (a1_14 : Int) (a1_15 : Int) (a1_16 : Int) (a1_17 : Int) (a1_18 : Int) (a1_19 : Int) (a1_20 : Int) (r : Bool) (w : World) (hr0 : Kd.C k47 w A0 l0.length l0) (hc0 : l0.length ≤ c0) (hrG : GL w) (h : attestorlaw28_MachineChanges.f k l0 a1_0 a1_1 a1_2 a1_3 a1_4 a1_5 a1_6 a1_7 a1_8 a1_9 a1_10 a1_11 a1_12 a1_13 a1_14 a1_15 a1_16 a1_17 a1_18 a1_19 a1_20 = some r) :
  Calls Tryd.prog 8 #[.slice A0 l0.length c0, .agg #[.int .i64 a1_0, .int .u8 a1_1, .int .u8 a1_2, .int .u8 a1_3, .int .u8 a1_4, .int .u8 a1_5, .int .u8 a1_6, .int .u8 a1_7, .int .u8 a1_8, .int .u8 a1_9, .int .u8 a1_10, .int .u8 a1_11, .int .u8 a1_12, .int .u8 a1_13, .int .u8 a1_14, .int .u8 a1_15, .int .u8 a1_16, .int .u8 a1_17, .int .u8 a1_18, .int .u8 a1_19, .int .u8 a1_20]] w fun e w' => e = .returned (.bool r) ∧ Below w.heap.size w w' := by
 have hu26 := Tryd.underlying26
 have hu47 := Tryd.underlying47
 have hu23 := Tryd.underlying23
 have hu24 := Tryd.underlying24
 have HRG := Aside0.mk hrG
 clear hrG
 have HR0 := Aside0.mk hr0
 have HC0 := Aside0.mk hc0
 clear hr0 hc0
 have HB := Aside0.mk (Below.refl w.heap.size w)
 have H : ((attestorlaw28_cut.f l0).bind fun t1077 => ((attestorlaw28_valid.f t1077 a1_0 a1_1 a1_2 a1_3 a1_4 a1_5 a1_6 a1_7 a1_8 a1_9 a1_10 a1_11 a1_12 a1_13 a1_14 a1_15 a1_16 a1_17 a1_18 a1_19 a1_20).bind fun bt1080 => ((machine_Step.f k t1077 bt1080.1 bt1080.2.1 bt1080.2.2.1 bt1080.2.2.2.1 bt1080.2.2.2.2.1 bt1080.2.2.2.2.2.1 bt1080.2.2.2.2.2.2.1 bt1080.2.2.2.2.2.2.2.1 bt1080.2.2.2.2.2.2.2.2.1 bt1080.2.2.2.2.2.2.2.2.2.1 bt1080.2.2.2.2.2.2.2.2.2.2.1 bt1080.2.2.2.2.2.2.2.2.2.2.2.1 bt1080.2.2.2.2.2.2.2.2.2.2.2.2.1 bt1080.2.2.2.2.2.2.2.2.2.2.2.2.2.1 bt1080.2.2.2.2.2.2.2.2.2.2.2.2.2.2.1 bt1080.2.2.2.2.2.2.2.2.2.2.2.2.2.2.2.1 bt1080.2.2.2.2.2.2.2.2.2.2.2.2.2.2.2.2.1 bt1080.2.2.2.2.2.2.2.2.2.2.2.2.2.2.2.2.2.1 bt1080.2.2.2.2.2.2.2.2.2.2.2.2.2.2.2.2.2.2.1 bt1080.2.2.2.2.2.2.2.2.2.2.2.2.2.2.2.2.2.2.2.1 bt1080.2.2.2.2.2.2.2.2.2.2.2.2.2.2.2.2.2.2.2.2).bind fun bt1101 => ((isa_Valid.f k t1077).bind fun t1124 => (if t1124 = 0 then ((isa_Fetch.f t1077 bt1080.1).bind fun bt1126 => ((isa_Next.f k t1077 bt1080.1).bind fun t1131 => (attestorlaw28_MachineChanges.l0 k t1077 bt1101.2.2.2.2.2.2.2.2.2.2.2.2.2.2.2.2.2.2.2.2.2 false t1131 0 bt1080.1 bt1080.2.1 bt1080.2.2.1 bt1080.2.2.2.1 bt1080.2.2.2.2.1 bt1080.2.2.2.2.2.1 bt1080.2.2.2.2.2.2.1 bt1080.2.2.2.2.2.2.2.1 bt1080.2.2.2.2.2.2.2.2.1 bt1080.2.2.2.2.2.2.2.2.2.1 bt1080.2.2.2.2.2.2.2.2.2.2.1 bt1080.2.2.2.2.2.2.2.2.2.2.2.1 bt1080.2.2.2.2.2.2.2.2.2.2.2.2.1 bt1080.2.2.2.2.2.2.2.2.2.2.2.2.2.1 bt1080.2.2.2.2.2.2.2.2.2.2.2.2.2.2.1 bt1080.2.2.2.2.2.2.2.2.2.2.2.2.2.2.2.1 bt1080.2.2.2.2.2.2.2.2.2.2.2.2.2.2.2.2.1 bt1080.2.2.2.2.2.2.2.2.2.2.2.2.2.2.2.2.2.1 bt1080.2.2.2.2.2.2.2.2.2.2.2.2.2.2.2.2.2.2.1 bt1080.2.2.2.2.2.2.2.2.2.2.2.2.2.2.2.2.2.2.2.1 bt1080.2.2.2.2.2.2.2.2.2.2.2.2.2.2.2.2.2.2.2.2 bt1101.1 bt1101.2.1 bt1101.2.2.1 bt1101.2.2.2.1 bt1101.2.2.2.2.1 bt1101.2.2.2.2.2.1 bt1101.2.2.2.2.2.2.1 bt1101.2.2.2.2.2.2.2.1 bt1101.2.2.2.2.2.2.2.2.1 bt1101.2.2.2.2.2.2.2.2.2.1 bt1101.2.2.2.2.2.2.2.2.2.2.1 bt1101.2.2.2.2.2.2.2.2.2.2.2.1 bt1101.2.2.2.2.2.2.2.2.2.2.2.2.1 bt1101.2.2.2.2.2.2.2.2.2.2.2.2.2.1 bt1101.2.2.2.2.2.2.2.2.2.2.2.2.2.2.1 bt1101.2.2.2.2.2.2.2.2.2.2.2.2.2.2.2.1 bt1101.2.2.2.2.2.2.2.2.2.2.2.2.2.2.2.2.1 bt1101.2.2.2.2.2.2.2.2.2.2.2.2.2.2.2.2.2.1 bt1101.2.2.2.2.2.2.2.2.2.2.2.2.2.2.2.2.2.2.1 bt1101.2.2.2.2.2.2.2.2.2.2.2.2.2.2.2.2.2.2.2.1 bt1101.2.2.2.2.2.2.2.2.2.2.2.2.2.2.2.2.2.2.2.2.1 bt1126.1 bt1126.2.1 bt1126.2.2.1 bt1126.2.2.2))) else (if bt1101.2.2.2.2.2.2.2.2.2.2.2.2.2.2.2.2.2.2.2.2.2 = 1 then (if (bt1101.1 == 0 && ((bt1101.2.1 == 0 && (bt1101.2.2.1 == 0 && (bt1101.2.2.2.1 == 0 && (bt1101.2.2.2.2.1 == 0)))) && ((bt1101.2.2.2.2.2.1 == 0 && (bt1101.2.2.2.2.2.2.1 == 0 && (bt1101.2.2.2.2.2.2.2.1 == 0 && (bt1101.2.2.2.2.2.2.2.2.1 == 0 && (bt1101.2.2.2.2.2.2.2.2.2.1 == 0 && (bt1101.2.2.2.2.2.2.2.2.2.2.1 == 0 && (bt1101.2.2.2.2.2.2.2.2.2.2.2.1 == 0 && (bt1101.2.2.2.2.2.2.2.2.2.2.2.2.1 == 0 && (bt1101.2.2.2.2.2.2.2.2.2.2.2.2.2.1 == 0 && (bt1101.2.2.2.2.2.2.2.2.2.2.2.2.2.2.1 == 0 && (bt1101.2.2.2.2.2.2.2.2.2.2.2.2.2.2.2.1 == 0 && (bt1101.2.2.2.2.2.2.2.2.2.2.2.2.2.2.2.2.1 == 0 && (bt1101.2.2.2.2.2.2.2.2.2.2.2.2.2.2.2.2.2.1 == 0 && (bt1101.2.2.2.2.2.2.2.2.2.2.2.2.2.2.2.2.2.2.1 == 0 && (bt1101.2.2.2.2.2.2.2.2.2.2.2.2.2.2.2.2.2.2.2.1 == 0 && (bt1101.2.2.2.2.2.2.2.2.2.2.2.2.2.2.2.2.2.2.2.2.1 == 0))))))))))))))))))) = true then ((attestorlaw28_lives.f k).bind fun t1125 => (some t1125)) else (none)) else (none))))))) = some r := h
 clear h
 replace H := Option.bind_eq_some_iff.mp H
 obtain ⟨t1077, A30, H⟩ := H
 (try dsimp only at H)
 have A3 := Aside0.mk A30
 clear A30
 replace H := Option.bind_eq_some_iff.mp H
 obtain ⟨⟨t1080, t1081, t1082, t1083, t1084, t1085, t1086, t1087, t1088, t1089, t1090, t1091, t1092, t1093, t1094, t1095, t1096, t1097, t1098, t1099, t1100⟩, A40, H⟩ := H
 (try dsimp only at H)
 have A4 := Aside0.mk A40
 clear A40
 replace H := Option.bind_eq_some_iff.mp H
 obtain ⟨⟨t1101, t1102, t1103, t1104, t1105, t1106, t1107, t1108, t1109, t1110, t1111, t1112, t1113, t1114, t1115, t1116, t1117, t1118, t1119, t1120, t1121, t1122⟩, A50, H⟩ := H
 replace H : ((isa_Valid.f k t1077).bind fun t1124 => (if t1124 = 0 then ((isa_Fetch.f t1077 t1080).bind fun bt1126 => ((isa_Next.f k t1077 t1080).bind fun t1131 => (attestorlaw28_MachineChanges.l0 k t1077 t1122 false t1131 0 t1080 t1081 t1082 t1083 t1084 t1085 t1086 t1087 t1088 t1089 t1090 t1091 t1092 t1093 t1094 t1095 t1096 t1097 t1098 t1099 t1100 t1101 t1102 t1103 t1104 t1105 t1106 t1107 t1108 t1109 t1110 t1111 t1112 t1113 t1114 t1115 t1116 t1117 t1118 t1119 t1120 t1121 bt1126.1 bt1126.2.1 bt1126.2.2.1 bt1126.2.2.2))) else (if t1122 = 1 then (if (t1101 == 0 && ((t1102 == 0 && (t1103 == 0 && (t1104 == 0 && (t1105 == 0)))) && ((t1106 == 0 && (t1107 == 0 && (t1108 == 0 && (t1109 == 0 && (t1110 == 0 && (t1111 == 0 && (t1112 == 0 && (t1113 == 0 && (t1114 == 0 && (t1115 == 0 && (t1116 == 0 && (t1117 == 0 && (t1118 == 0 && (t1119 == 0 && (t1120 == 0 && (t1121 == 0))))))))))))))))))) = true then ((attestorlaw28_lives.f k).bind fun t1125 => (some t1125)) else (none)) else (none)))) = some r := H
 have A5 := Aside0.mk A50
 clear A50
 replace H := Option.bind_eq_some_iff.mp H
 obtain ⟨t1124, A60, H⟩ := H
 have A6 := Aside0.mk A60
 clear A60
 by_cases c7 : t1124 = 0
 ·rw [if_pos c7] at H
  have c7b0 : (t1124 == 0) = true := beq_iff_eq.mpr c7
  have c7b1 : (t1124 != 0) = false := bne_eq_false_iff_eq.mpr c7
  clear c7
  replace H := Option.bind_eq_some_iff.mp H
  obtain ⟨⟨t1126, t1127, t1128, t1129⟩, A80, H⟩ := H
  replace H : ((isa_Next.f k t1077 t1080).bind fun t1131 => (attestorlaw28_MachineChanges.l0 k t1077 t1122 false t1131 0 t1080 t1081 t1082 t1083 t1084 t1085 t1086 t1087 t1088 t1089 t1090 t1091 t1092 t1093 t1094 t1095 t1096 t1097 t1098 t1099 t1100 t1101 t1102 t1103 t1104 t1105 t1106 t1107 t1108 t1109 t1110 t1111 t1112 t1113 t1114 t1115 t1116 t1117 t1118 t1119 t1120 t1121 t1126 t1127 t1128 t1129)) = some r := H
  have A8 := Aside0.mk A80
  clear A80
  replace H := Option.bind_eq_some_iff.mp H
  obtain ⟨t1131, A90, H⟩ := H
  have A9 := Aside0.mk A90
  clear A90
  have H' := Aside0.mk H
  clear H
  go_enter Tryd.func8, Tryd.ntmps8
  go_wp2_with (first | ((with_reducible refine gate_dst (N := 3) rfl ?_); refine box_event ?hg (N := 3) ?hd (cs := #[.int .i64 a1_0, .int .u8 a1_1, .int .u8 a1_2, .int .u8 a1_3, .int .u8 a1_4, .int .u8 a1_5, .int .u8 a1_6, .int .u8 a1_7, .int .u8 a1_8, .int .u8 a1_9, .int .u8 a1_10, .int .u8 a1_11, .int .u8 a1_12, .int .u8 a1_13, .int .u8 a1_14, .int .u8 a1_15, .int .u8 a1_16, .int .u8 a1_17, .int .u8 a1_18, .int .u8 a1_19, .int .u8 a1_20]) (t := 26) ?hr ?_; (case hd => rfl); (case hg => rfl); (case hr => first | (go_simp; done) | (go_simp; rfl)); intro g1076 hg w10 hbox hb; have n0_ := Aside0.mk (below_step (by repeat (first | (with_reducible first | exact HB.out | apply below_alloc | apply pw_below_drewN | apply below_drew1) | exact HB.out)) hb); have n1_ := Aside0.mk (hbox); have n2_ := Aside0.mk ((by rw [hg]; exact (below_size (by repeat (first | (with_reducible first | exact HB.out | apply below_alloc | apply pw_below_drewN | apply below_drew1) | exact HB.out))) : w.heap.size ≤ g1076)); have n3_ := Aside0.mk ((by rw [hg]; exact (below_size (by repeat (first | (with_reducible first | exact HB.out | apply below_alloc | apply pw_below_drewN | apply below_drew1) | exact HB.out))) : w.heap.size ≤ g1076)); clear HB; have HB := n0_; have B1076 := n1_; have GW1076 := n2_; have GE1076 := n3_; clear n0_ n1_ n2_ n3_; clear hb hbox hg) | ((with_reducible refine gate_callee (f := 9) rfl ?_); refine goesL_ (some 14) rfl rfl Tryd.func9 (by kernel_rfl) rfl #[.slice A0 l0.length c0] rfl (by (try simp only [List.map_toArray, List.map_cons, List.map_nil]); first | done | rfl | (go_simp; done)) ?_; (with_reducible refine (attestorlaw28_cut.calls _ _ l0 t1077 _ ?side1 ?side2 A3.out).mono ?_); (case side1 => repeat (first | exact (Kd.C_below HR0.out HB.out) | (with_reducible refine Kd.C_alloc ?_ _) | (with_reducible refine Kd.C_drewN ?_ _) | (with_reducible refine Kd.C_drew ?_))); (case side2 => exact HC0.out); rintro e w11 ⟨v1078, rfl, ho0, hb⟩; refine ⟨_, rfl, ?_⟩; have n0_ := Aside0.mk (Kd.R_lower ho0 (below_size (by repeat (first | (with_reducible first | exact HB.out | apply below_alloc | apply pw_below_drewN | apply below_drew1 | refine below_set ?_ GE1076.out) | exact HB.out)))); have n1_ := Aside0.mk (blk_below (g := g1076) (o := .cells #[.int .i64 a1_0, .int .u8 a1_1, .int .u8 a1_2, .int .u8 a1_3, .int .u8 a1_4, .int .u8 a1_5, .int .u8 a1_6, .int .u8 a1_7, .int .u8 a1_8, .int .u8 a1_9, .int .u8 a1_10, .int .u8 a1_11, .int .u8 a1_12, .int .u8 a1_13, .int .u8 a1_14, .int .u8 a1_15, .int .u8 a1_16, .int .u8 a1_17, .int .u8 a1_18, .int .u8 a1_19, .int .u8 a1_20] 26 (0, 0)) (by exact B1076.out) hb); have n2_ := Aside0.mk (below_step (by repeat (first | (with_reducible first | exact HB.out | apply below_alloc | apply pw_below_drewN | apply below_drew1 | refine below_set ?_ GE1076.out) | exact HB.out)) hb); clear B1076; clear HB; have HO1079 := n0_; have B1076 := n1_; have HB := n2_; clear n0_ n1_ n2_; (try clear hb); (try clear hb2); (try clear hk); (try clear hi); (try clear ho0)) | ((with_reducible refine gate_dst (N := 16) rfl ?_); refine wpList_load_row rfl 26 (.tmp 3) rfl g1076 rfl 26 #[.int .i64 a1_0, .int .u8 a1_1, .int .u8 a1_2, .int .u8 a1_3, .int .u8 a1_4, .int .u8 a1_5, .int .u8 a1_6, .int .u8 a1_7, .int .u8 a1_8, .int .u8 a1_9, .int .u8 a1_10, .int .u8 a1_11, .int .u8 a1_12, .int .u8 a1_13, .int .u8 a1_14, .int .u8 a1_15, .int .u8 a1_16, .int .u8 a1_17, .int .u8 a1_18, .int .u8 a1_19, .int .u8 a1_20] (0, 0) _ (by exact B1076.out) Tryd.underlying26 rfl (by kernel_rfl) ?_; obtain ⟨Ao12, co12, eo12⟩ := Kd.R_slice HO1079.out; subst eo12) | ((with_reducible refine gate_callee (f := 24) rfl ?_); refine goesL_ (some 17) rfl rfl Tryd.func24 (by kernel_rfl) rfl #[.slice Ao12 t1077.length co12, .agg #[.int .i64 a1_0, .int .u8 a1_1, .int .u8 a1_2, .int .u8 a1_3, .int .u8 a1_4, .int .u8 a1_5, .int .u8 a1_6, .int .u8 a1_7, .int .u8 a1_8, .int .u8 a1_9, .int .u8 a1_10, .int .u8 a1_11, .int .u8 a1_12, .int .u8 a1_13, .int .u8 a1_14, .int .u8 a1_15, .int .u8 a1_16, .int .u8 a1_17, .int .u8 a1_18, .int .u8 a1_19, .int .u8 a1_20]] rfl (by (try simp only [List.map_toArray, List.map_cons, List.map_nil]); first | done | rfl | (go_simp; done)) ?_; (with_reducible refine (attestorlaw28_valid.calls _ _ t1077 a1_0 a1_1 a1_2 a1_3 a1_4 a1_5 a1_6 a1_7 a1_8 a1_9 a1_10 a1_11 a1_12 a1_13 a1_14 a1_15 a1_16 a1_17 a1_18 a1_19 a1_20 t1080 t1081 t1082 t1083 t1084 t1085 t1086 t1087 t1088 t1089 t1090 t1091 t1092 t1093 t1094 t1095 t1096 t1097 t1098 t1099 t1100 _ ?side1 ?side2 A4.out).mono ?_); (case side1 => repeat (first | exact (Kd.R_reads' HO1079.out).2.2 | (with_reducible refine Kd.C_alloc ?_ _) | (with_reducible refine Kd.C_drewN ?_ _) | (with_reducible refine Kd.C_drew ?_))); (case side2 => exact (Kd.R_reads' HO1079.out).2.1); rintro e w13 ⟨rfl, hb⟩; refine ⟨_, rfl, ?_⟩; have n0_ := Aside0.mk (Kd.R_below (by (with_reducible repeat (first | apply Kd.R_alloc | apply Kd.R_drewN | apply Kd.R_drew)); exact HO1079.out) hb); have n1_ := Aside0.mk (blk_below (g := g1076) (o := .cells #[.int .i64 a1_0, .int .u8 a1_1, .int .u8 a1_2, .int .u8 a1_3, .int .u8 a1_4, .int .u8 a1_5, .int .u8 a1_6, .int .u8 a1_7, .int .u8 a1_8, .int .u8 a1_9, .int .u8 a1_10, .int .u8 a1_11, .int .u8 a1_12, .int .u8 a1_13, .int .u8 a1_14, .int .u8 a1_15, .int .u8 a1_16, .int .u8 a1_17, .int .u8 a1_18, .int .u8 a1_19, .int .u8 a1_20] 26 (0, 0)) (by exact B1076.out) hb); have n2_ := Aside0.mk (below_step (by repeat (first | (with_reducible first | exact HB.out | apply below_alloc | apply pw_below_drewN | apply below_drew1 | refine below_set ?_ GE1076.out) | exact HB.out)) hb); clear HO1079; clear B1076; clear HB; have HO1079 := n0_; have B1076 := n1_; have HB := n2_; clear n0_ n1_ n2_; (try clear hb); (try clear hb2); (try clear hk); (try clear hi)) | ((with_reducible refine gate_store (t := 26) (p := 3) rfl ?_); refine store_wide rfl 26 3 _ rfl rfl g1076 #[.int .i64 t1080, .int .u8 t1081, .int .u8 t1082, .int .u8 t1083, .int .u8 t1084, .int .u8 t1085, .int .u8 t1086, .int .u8 t1087, .int .u8 t1088, .int .u8 t1089, .int .u8 t1090, .int .u8 t1091, .int .u8 t1092, .int .u8 t1093, .int .u8 t1094, .int .u8 t1095, .int .u8 t1096, .int .u8 t1097, .int .u8 t1098, .int .u8 t1099, .int .u8 t1100] rfl rfl 26 #[.int .i64 a1_0, .int .u8 a1_1, .int .u8 a1_2, .int .u8 a1_3, .int .u8 a1_4, .int .u8 a1_5, .int .u8 a1_6, .int .u8 a1_7, .int .u8 a1_8, .int .u8 a1_9, .int .u8 a1_10, .int .u8 a1_11, .int .u8 a1_12, .int .u8 a1_13, .int .u8 a1_14, .int .u8 a1_15, .int .u8 a1_16, .int .u8 a1_17, .int .u8 a1_18, .int .u8 a1_19, .int .u8 a1_20] B1076.out (by kernel_rfl) rfl (by simp [Value.oneCell']) ?_; intro w14 hnew hoth hbel; have n0_ := Aside0.mk (Kd.R_mono (Kd.R_step (Kd.R_types HO1079.out B1076.out (by decide)) (fun k_ hk _ => hoth k_ hk.2)) (fun _ hk => hk.1)); have n1_ := Aside0.mk (hnew); have n2_ := Aside0.mk (Below.trans (by repeat (first | (with_reducible first | exact HB.out | apply below_alloc | apply pw_below_drewN | apply below_drew1 | refine below_set ?_ GE1076.out) | exact HB.out)) (hbel.mono GE1076.out)); clear HO1079; clear B1076; clear HB; have HO1079 := n0_; have B1076 := n1_; have HB := n2_; clear n0_ n1_ n2_; clear hnew hoth hbel) | ((with_reducible refine gate_dst (N := 20) rfl ?_); refine wpList_load_row rfl 26 (.tmp 3) rfl g1076 rfl 26 #[.int .i64 t1080, .int .u8 t1081, .int .u8 t1082, .int .u8 t1083, .int .u8 t1084, .int .u8 t1085, .int .u8 t1086, .int .u8 t1087, .int .u8 t1088, .int .u8 t1089, .int .u8 t1090, .int .u8 t1091, .int .u8 t1092, .int .u8 t1093, .int .u8 t1094, .int .u8 t1095, .int .u8 t1096, .int .u8 t1097, .int .u8 t1098, .int .u8 t1099, .int .u8 t1100] (0, 0) _ (by exact B1076.out) Tryd.underlying26 rfl (by kernel_rfl) ?_) | ((with_reducible refine gate_callee (f := 10) rfl ?_); refine goesL_ (some 21) rfl rfl Tryd.func10 (by kernel_rfl) rfl #[.slice Ao12 t1077.length co12, .agg #[.int .i64 t1080, .int .u8 t1081, .int .u8 t1082, .int .u8 t1083, .int .u8 t1084, .int .u8 t1085, .int .u8 t1086, .int .u8 t1087, .int .u8 t1088, .int .u8 t1089, .int .u8 t1090, .int .u8 t1091, .int .u8 t1092, .int .u8 t1093, .int .u8 t1094, .int .u8 t1095, .int .u8 t1096, .int .u8 t1097, .int .u8 t1098, .int .u8 t1099, .int .u8 t1100]] rfl (by (try simp only [List.map_toArray, List.map_cons, List.map_nil]); first | done | rfl | (go_simp; done)) ?_; (with_reducible refine (machine_Step.calls k _ _ t1077 t1080 t1081 t1082 t1083 t1084 t1085 t1086 t1087 t1088 t1089 t1090 t1091 t1092 t1093 t1094 t1095 t1096 t1097 t1098 t1099 t1100 t1101 t1102 t1103 t1104 t1105 t1106 t1107 t1108 t1109 t1110 t1111 t1112 t1113 t1114 t1115 t1116 t1117 t1118 t1119 t1120 t1121 t1122 _ ?side1 ?side2 ?side3 A5.out).mono ?_); (case side1 => repeat (first | exact (Kd.R_reads' HO1079.out).2.2 | (with_reducible refine Kd.C_alloc ?_ _) | (with_reducible refine Kd.C_drewN ?_ _) | (with_reducible refine Kd.C_drew ?_))); (case side2 => exact (Kd.R_reads' HO1079.out).2.1); (case side3 => repeat (first | exact (GL.below HRG.out HB.out) | (with_reducible refine GL.alloc ?_ _) | (with_reducible refine GL.drewN ?_ _) | (with_reducible refine GL.drew ?_))); rintro e w15 ⟨rfl, hb⟩; refine ⟨_, rfl, ?_⟩; have n0_ := Aside0.mk (Kd.R_below (by (with_reducible repeat (first | apply Kd.R_alloc | apply Kd.R_drewN | apply Kd.R_drew)); exact HO1079.out) hb); have n1_ := Aside0.mk (blk_below (g := g1076) (o := .cells #[.int .i64 t1080, .int .u8 t1081, .int .u8 t1082, .int .u8 t1083, .int .u8 t1084, .int .u8 t1085, .int .u8 t1086, .int .u8 t1087, .int .u8 t1088, .int .u8 t1089, .int .u8 t1090, .int .u8 t1091, .int .u8 t1092, .int .u8 t1093, .int .u8 t1094, .int .u8 t1095, .int .u8 t1096, .int .u8 t1097, .int .u8 t1098, .int .u8 t1099, .int .u8 t1100] 26 (0, 0)) (by exact B1076.out) hb); have n2_ := Aside0.mk (below_step (by repeat (first | (with_reducible first | exact HB.out | apply below_alloc | apply pw_below_drewN | apply below_drew1 | refine below_set ?_ GE1076.out) | exact HB.out)) hb); clear HO1079; clear B1076; clear HB; have HO1079 := n0_; have B1076 := n1_; have HB := n2_; clear n0_ n1_ n2_; (try clear hb); (try clear hb2); (try clear hk); (try clear hi)) | ((with_reducible refine gate_dst (N := 5) rfl ?_); refine box_event ?hg (N := 5) ?hd (cs := #[.int .i64 0, .int .u8 0, .int .u8 0, .int .u8 0, .int .u8 0, .int .u8 0, .int .u8 0, .int .u8 0, .int .u8 0, .int .u8 0, .int .u8 0, .int .u8 0, .int .u8 0, .int .u8 0, .int .u8 0, .int .u8 0, .int .u8 0, .int .u8 0, .int .u8 0, .int .u8 0, .int .u8 0]) (t := 26) ?hr ?_; (case hd => rfl); (case hg => rfl); (case hr => first | (go_simp; done) | (go_simp; rfl)); intro g1123 hg w16 hbox hb; have n0_ := Aside0.mk (Kd.R_below (by (with_reducible repeat (first | apply Kd.R_alloc | apply Kd.R_drewN | apply Kd.R_drew)); exact HO1079.out) hb); have n1_ := Aside0.mk (blk_below (g := g1076) (o := .cells #[.int .i64 t1080, .int .u8 t1081, .int .u8 t1082, .int .u8 t1083, .int .u8 t1084, .int .u8 t1085, .int .u8 t1086, .int .u8 t1087, .int .u8 t1088, .int .u8 t1089, .int .u8 t1090, .int .u8 t1091, .int .u8 t1092, .int .u8 t1093, .int .u8 t1094, .int .u8 t1095, .int .u8 t1096, .int .u8 t1097, .int .u8 t1098, .int .u8 t1099, .int .u8 t1100] 26 (0, 0)) (by exact B1076.out) hb); have n2_ := Aside0.mk (below_step (by repeat (first | (with_reducible first | exact HB.out | apply below_alloc | apply pw_below_drewN | apply below_drew1 | refine below_set ?_ GE1076.out) | exact HB.out)) hb); have n3_ := Aside0.mk (hbox); have n4_ := Aside0.mk ((by rw [hg]; exact (below_size (by repeat (first | (with_reducible first | exact HB.out | apply below_alloc | apply pw_below_drewN | apply below_drew1 | refine below_set ?_ GE1076.out) | exact HB.out))) : w.heap.size ≤ g1123)); have n5_ := Aside0.mk ((by rw [hg]; exact (below_size (by repeat (first | (with_reducible first | exact HB.out | apply below_alloc | apply pw_below_drewN | apply below_drew1 | refine below_set ?_ GE1076.out) | exact HB.out))) : w.heap.size ≤ g1123)); have n6_ := Aside0.mk ((by rw [hg]; exact Nat.ne_of_lt (blk_lt (g := g1076) (o := .cells #[.int .i64 t1080, .int .u8 t1081, .int .u8 t1082, .int .u8 t1083, .int .u8 t1084, .int .u8 t1085, .int .u8 t1086, .int .u8 t1087, .int .u8 t1088, .int .u8 t1089, .int .u8 t1090, .int .u8 t1091, .int .u8 t1092, .int .u8 t1093, .int .u8 t1094, .int .u8 t1095, .int .u8 t1096, .int .u8 t1097, .int .u8 t1098, .int .u8 t1099, .int .u8 t1100] 26 (0, 0)) (by exact B1076.out)) : g1076 ≠ g1123)); have n7_ := Aside0.mk ((by rw [hg]; exact Nat.ne_of_gt (blk_lt (g := g1076) (o := .cells #[.int .i64 t1080, .int .u8 t1081, .int .u8 t1082, .int .u8 t1083, .int .u8 t1084, .int .u8 t1085, .int .u8 t1086, .int .u8 t1087, .int .u8 t1088, .int .u8 t1089, .int .u8 t1090, .int .u8 t1091, .int .u8 t1092, .int .u8 t1093, .int .u8 t1094, .int .u8 t1095, .int .u8 t1096, .int .u8 t1097, .int .u8 t1098, .int .u8 t1099, .int .u8 t1100] 26 (0, 0)) (by exact B1076.out)) : g1123 ≠ g1076)); clear HO1079; clear B1076; clear HB; have HO1079 := n0_; have B1076 := n1_; have HB := n2_; have B1123 := n3_; have GW1123 := n4_; have GE1123 := n5_; have NB1076_1123 := n6_; have NB1123_1076 := n7_; clear n0_ n1_ n2_ n3_ n4_ n5_ n6_ n7_; clear hb hbox hg) | ((with_reducible refine gate_store (t := 26) (p := 5) rfl ?_); refine store_wide rfl 26 5 _ rfl rfl g1123 #[.int .i64 t1101, .int .u8 t1102, .int .u8 t1103, .int .u8 t1104, .int .u8 t1105, .int .u8 t1106, .int .u8 t1107, .int .u8 t1108, .int .u8 t1109, .int .u8 t1110, .int .u8 t1111, .int .u8 t1112, .int .u8 t1113, .int .u8 t1114, .int .u8 t1115, .int .u8 t1116, .int .u8 t1117, .int .u8 t1118, .int .u8 t1119, .int .u8 t1120, .int .u8 t1121] rfl rfl 26 #[.int .i64 0, .int .u8 0, .int .u8 0, .int .u8 0, .int .u8 0, .int .u8 0, .int .u8 0, .int .u8 0, .int .u8 0, .int .u8 0, .int .u8 0, .int .u8 0, .int .u8 0, .int .u8 0, .int .u8 0, .int .u8 0, .int .u8 0, .int .u8 0, .int .u8 0, .int .u8 0, .int .u8 0] B1123.out (by kernel_rfl) rfl (by simp [Value.oneCell']) ?_; intro w17 hnew hoth hbel; have n0_ := Aside0.mk (Kd.R_mono (Kd.R_step (Kd.R_types HO1079.out B1123.out (by decide)) (fun k_ hk _ => hoth k_ hk.2)) (fun _ hk => hk.1)); have n1_ := Aside0.mk ((hoth _ NB1076_1123.out).trans B1076.out); have n2_ := Aside0.mk (hnew); have n3_ := Aside0.mk (Below.trans (by repeat (first | (with_reducible first | exact HB.out | apply below_alloc | apply pw_below_drewN | apply below_drew1 | refine below_set ?_ GE1076.out | refine below_set ?_ GE1123.out) | exact HB.out)) (hbel.mono GE1123.out)); clear HO1079; clear B1076; clear B1123; clear HB; have HO1079 := n0_; have B1076 := n1_; have B1123 := n2_; have HB := n3_; clear n0_ n1_ n2_ n3_; clear hnew hoth hbel) | ((with_reducible refine gate_callee (f := 25) rfl ?_); refine goesL_ (some 25) rfl rfl Tryd.func25 (by kernel_rfl) rfl #[.slice Ao12 t1077.length co12] rfl (by (try simp only [List.map_toArray, List.map_cons, List.map_nil]); first | done | rfl | (go_simp; done)) ?_; (with_reducible refine (isa_Valid.calls k _ _ t1077 t1124 _ ?side1 ?side2 ?side3 A6.out).mono ?_); (case side1 => repeat (first | exact (Kd.R_reads' HO1079.out).2.2 | (with_reducible refine Kd.C_alloc ?_ _) | (with_reducible refine Kd.C_drewN ?_ _) | (with_reducible refine Kd.C_drew ?_))); (case side2 => exact (Kd.R_reads' HO1079.out).2.1); (case side3 => repeat (first | exact (GL.below HRG.out HB.out) | (with_reducible refine GL.alloc ?_ _) | (with_reducible refine GL.drewN ?_ _) | (with_reducible refine GL.drew ?_))); rintro e w18 ⟨rfl, hb⟩; refine ⟨_, rfl, ?_⟩; have n0_ := Aside0.mk (Kd.R_below (by (with_reducible repeat (first | apply Kd.R_alloc | apply Kd.R_drewN | apply Kd.R_drew)); exact HO1079.out) hb); have n1_ := Aside0.mk (blk_below (g := g1076) (o := .cells #[.int .i64 t1080, .int .u8 t1081, .int .u8 t1082, .int .u8 t1083, .int .u8 t1084, .int .u8 t1085, .int .u8 t1086, .int .u8 t1087, .int .u8 t1088, .int .u8 t1089, .int .u8 t1090, .int .u8 t1091, .int .u8 t1092, .int .u8 t1093, .int .u8 t1094, .int .u8 t1095, .int .u8 t1096, .int .u8 t1097, .int .u8 t1098, .int .u8 t1099, .int .u8 t1100] 26 (0, 0)) (by exact B1076.out) hb); have n2_ := Aside0.mk (blk_below (g := g1123) (o := .cells #[.int .i64 t1101, .int .u8 t1102, .int .u8 t1103, .int .u8 t1104, .int .u8 t1105, .int .u8 t1106, .int .u8 t1107, .int .u8 t1108, .int .u8 t1109, .int .u8 t1110, .int .u8 t1111, .int .u8 t1112, .int .u8 t1113, .int .u8 t1114, .int .u8 t1115, .int .u8 t1116, .int .u8 t1117, .int .u8 t1118, .int .u8 t1119, .int .u8 t1120, .int .u8 t1121] 26 (0, 0)) (by exact B1123.out) hb); have n3_ := Aside0.mk (below_step (by repeat (first | (with_reducible first | exact HB.out | apply below_alloc | apply pw_below_drewN | apply below_drew1 | refine below_set ?_ GE1076.out | refine below_set ?_ GE1123.out) | exact HB.out)) hb); clear HO1079; clear B1076; clear B1123; clear HB; have HO1079 := n0_; have B1076 := n1_; have B1123 := n2_; have HB := n3_; clear n0_ n1_ n2_ n3_; (try clear hb); (try clear hb2); (try clear hk); (try clear hi); have hnb19 := NB1076_1123.out; have hnc19 := NB1123_1076.out; have hcz20_0 : w18.cell? ⟨g1076, 0, none⟩ = some (.int .i64 t1080) := bq_ B1076 0; have hcz20_1 : w18.cell? ⟨g1076, 1, none⟩ = some (.int .u8 t1081) := bq_ B1076 1; have hcz20_2 : w18.cell? ⟨g1076, 2, none⟩ = some (.int .u8 t1082) := bq_ B1076 2; have hcz20_3 : w18.cell? ⟨g1076, 3, none⟩ = some (.int .u8 t1083) := bq_ B1076 3; have hcz20_4 : w18.cell? ⟨g1076, 4, none⟩ = some (.int .u8 t1084) := bq_ B1076 4; have hcz20_5 : w18.cell? ⟨g1076, 5, none⟩ = some (.int .u8 t1085) := bq_ B1076 5; have hcz20_6 : w18.cell? ⟨g1076, 6, none⟩ = some (.int .u8 t1086) := bq_ B1076 6; have hcz20_7 : w18.cell? ⟨g1076, 7, none⟩ = some (.int .u8 t1087) := bq_ B1076 7; have hcz20_8 : w18.cell? ⟨g1076, 8, none⟩ = some (.int .u8 t1088) := bq_ B1076 8; have hcz20_9 : w18.cell? ⟨g1076, 9, none⟩ = some (.int .u8 t1089) := bq_ B1076 9; have hcz20_10 : w18.cell? ⟨g1076, 10, none⟩ = some (.int .u8 t1090) := bq_ B1076 10; have hcz20_11 : w18.cell? ⟨g1076, 11, none⟩ = some (.int .u8 t1091) := bq_ B1076 11; have hcz20_12 : w18.cell? ⟨g1076, 12, none⟩ = some (.int .u8 t1092) := bq_ B1076 12; have hcz20_13 : w18.cell? ⟨g1076, 13, none⟩ = some (.int .u8 t1093) := bq_ B1076 13; have hcz20_14 : w18.cell? ⟨g1076, 14, none⟩ = some (.int .u8 t1094) := bq_ B1076 14; have hcz20_15 : w18.cell? ⟨g1076, 15, none⟩ = some (.int .u8 t1095) := bq_ B1076 15; have hcz20_16 : w18.cell? ⟨g1076, 16, none⟩ = some (.int .u8 t1096) := bq_ B1076 16; have hcz20_17 : w18.cell? ⟨g1076, 17, none⟩ = some (.int .u8 t1097) := bq_ B1076 17; have hcz20_18 : w18.cell? ⟨g1076, 18, none⟩ = some (.int .u8 t1098) := bq_ B1076 18; have hcz20_19 : w18.cell? ⟨g1076, 19, none⟩ = some (.int .u8 t1099) := bq_ B1076 19; have hcz20_20 : w18.cell? ⟨g1076, 20, none⟩ = some (.int .u8 t1100) := bq_ B1076 20; have hfz20_0 := blk_frozen B1076.out 0; have hfz20_1 := blk_frozen B1076.out 1; have hfz20_2 := blk_frozen B1076.out 2; have hfz20_3 := blk_frozen B1076.out 3; have hfz20_4 := blk_frozen B1076.out 4; have hfz20_5 := blk_frozen B1076.out 5; have hfz20_6 := blk_frozen B1076.out 6; have hfz20_7 := blk_frozen B1076.out 7; have hfz20_8 := blk_frozen B1076.out 8; have hfz20_9 := blk_frozen B1076.out 9; have hfz20_10 := blk_frozen B1076.out 10; have hfz20_11 := blk_frozen B1076.out 11; have hfz20_12 := blk_frozen B1076.out 12; have hfz20_13 := blk_frozen B1076.out 13; have hfz20_14 := blk_frozen B1076.out 14; have hfz20_15 := blk_frozen B1076.out 15; have hfz20_16 := blk_frozen B1076.out 16; have hfz20_17 := blk_frozen B1076.out 17; have hfz20_18 := blk_frozen B1076.out 18; have hfz20_19 := blk_frozen B1076.out 19; have hfz20_20 := blk_frozen B1076.out 20) | ((with_reducible refine gate_callee (f := 27) rfl ?_); refine goesL_ (some 40) rfl rfl Tryd.func27 (by kernel_rfl) rfl #[.slice Ao12 t1077.length co12, .int .i64 t1080] rfl (by (try simp only [List.map_toArray, List.map_cons, List.map_nil]); first | done | rfl | (go_simp; done)) ?_; (with_reducible refine (isa_Fetch.calls _ _ t1077 t1080 t1126 t1127 t1128 t1129 _ ?side1 ?side2 A8.out).mono ?_); (case side1 => repeat (first | exact (Kd.R_reads' HO1079.out).2.2 | (with_reducible refine Kd.C_alloc ?_ _) | (with_reducible refine Kd.C_drewN ?_ _) | (with_reducible refine Kd.C_drew ?_))); (case side2 => exact (Kd.R_reads' HO1079.out).2.1); rintro e w21 ⟨rfl, hb⟩; refine ⟨_, rfl, ?_⟩; have n0_ := Aside0.mk (Kd.R_below (by (with_reducible repeat (first | apply Kd.R_alloc | apply Kd.R_drewN | apply Kd.R_drew)); exact HO1079.out) hb); have n1_ := Aside0.mk (blk_below (g := g1076) (o := .cells #[.int .i64 t1080, .int .u8 t1081, .int .u8 t1082, .int .u8 t1083, .int .u8 t1084, .int .u8 t1085, .int .u8 t1086, .int .u8 t1087, .int .u8 t1088, .int .u8 t1089, .int .u8 t1090, .int .u8 t1091, .int .u8 t1092, .int .u8 t1093, .int .u8 t1094, .int .u8 t1095, .int .u8 t1096, .int .u8 t1097, .int .u8 t1098, .int .u8 t1099, .int .u8 t1100] 26 (0, 0)) (by exact B1076.out) hb); have n2_ := Aside0.mk (blk_below (g := g1123) (o := .cells #[.int .i64 t1101, .int .u8 t1102, .int .u8 t1103, .int .u8 t1104, .int .u8 t1105, .int .u8 t1106, .int .u8 t1107, .int .u8 t1108, .int .u8 t1109, .int .u8 t1110, .int .u8 t1111, .int .u8 t1112, .int .u8 t1113, .int .u8 t1114, .int .u8 t1115, .int .u8 t1116, .int .u8 t1117, .int .u8 t1118, .int .u8 t1119, .int .u8 t1120, .int .u8 t1121] 26 (0, 0)) (by exact B1123.out) hb); have n3_ := Aside0.mk (below_step (by repeat (first | (with_reducible first | exact HB.out | apply below_alloc | apply pw_below_drewN | apply below_drew1 | refine below_set ?_ GE1076.out | refine below_set ?_ GE1123.out) | exact HB.out)) hb); clear HO1079; clear B1076; clear B1123; clear HB; have HO1079 := n0_; have B1076 := n1_; have B1123 := n2_; have HB := n3_; clear n0_ n1_ n2_ n3_; (try clear hb); (try clear hb2); (try clear hk); (try clear hi)) | ((with_reducible refine gate_dst (N := 7) rfl ?_); refine box_event ?hg (N := 7) ?hd (cs := #[.int .u8 0, .int .u8 0, .int .u8 0, .int .u8 0]) (t := 47) ?hr ?_; (case hd => rfl); (case hg => rfl); (case hr => first | (go_simp; done) | (go_simp; rfl)); intro g1130 hg w22 hbox hb; have n0_ := Aside0.mk (Kd.R_below (Kd.R_elderB (by (with_reducible repeat (first | apply Kd.R_alloc | apply Kd.R_drewN | apply Kd.R_drew)); exact HO1079.out) g1130 (Nat.le_of_eq hg.symm)) hb); have n1_ := Aside0.mk (blk_below (g := g1076) (o := .cells #[.int .i64 t1080, .int .u8 t1081, .int .u8 t1082, .int .u8 t1083, .int .u8 t1084, .int .u8 t1085, .int .u8 t1086, .int .u8 t1087, .int .u8 t1088, .int .u8 t1089, .int .u8 t1090, .int .u8 t1091, .int .u8 t1092, .int .u8 t1093, .int .u8 t1094, .int .u8 t1095, .int .u8 t1096, .int .u8 t1097, .int .u8 t1098, .int .u8 t1099, .int .u8 t1100] 26 (0, 0)) (by exact B1076.out) hb); have n2_ := Aside0.mk (blk_below (g := g1123) (o := .cells #[.int .i64 t1101, .int .u8 t1102, .int .u8 t1103, .int .u8 t1104, .int .u8 t1105, .int .u8 t1106, .int .u8 t1107, .int .u8 t1108, .int .u8 t1109, .int .u8 t1110, .int .u8 t1111, .int .u8 t1112, .int .u8 t1113, .int .u8 t1114, .int .u8 t1115, .int .u8 t1116, .int .u8 t1117, .int .u8 t1118, .int .u8 t1119, .int .u8 t1120, .int .u8 t1121] 26 (0, 0)) (by exact B1123.out) hb); have n3_ := Aside0.mk (below_step (by repeat (first | (with_reducible first | exact HB.out | apply below_alloc | apply pw_below_drewN | apply below_drew1 | refine below_set ?_ GE1076.out | refine below_set ?_ GE1123.out) | exact HB.out)) hb); have n4_ := Aside0.mk (hbox); have n5_ := Aside0.mk ((by rw [hg]; exact (below_size (by repeat (first | (with_reducible first | exact HB.out | apply below_alloc | apply pw_below_drewN | apply below_drew1 | refine below_set ?_ GE1076.out | refine below_set ?_ GE1123.out) | exact HB.out))) : w.heap.size ≤ g1130)); have n6_ := Aside0.mk ((by rw [hg]; exact (below_size (by repeat (first | (with_reducible first | exact HB.out | apply below_alloc | apply pw_below_drewN | apply below_drew1 | refine below_set ?_ GE1076.out | refine below_set ?_ GE1123.out) | exact HB.out))) : w.heap.size ≤ g1130)); have n7_ := Aside0.mk ((by rw [hg]; exact Nat.ne_of_lt (blk_lt (g := g1076) (o := .cells #[.int .i64 t1080, .int .u8 t1081, .int .u8 t1082, .int .u8 t1083, .int .u8 t1084, .int .u8 t1085, .int .u8 t1086, .int .u8 t1087, .int .u8 t1088, .int .u8 t1089, .int .u8 t1090, .int .u8 t1091, .int .u8 t1092, .int .u8 t1093, .int .u8 t1094, .int .u8 t1095, .int .u8 t1096, .int .u8 t1097, .int .u8 t1098, .int .u8 t1099, .int .u8 t1100] 26 (0, 0)) (by exact B1076.out)) : g1076 ≠ g1130)); have n8_ := Aside0.mk ((by rw [hg]; exact Nat.ne_of_gt (blk_lt (g := g1076) (o := .cells #[.int .i64 t1080, .int .u8 t1081, .int .u8 t1082, .int .u8 t1083, .int .u8 t1084, .int .u8 t1085, .int .u8 t1086, .int .u8 t1087, .int .u8 t1088, .int .u8 t1089, .int .u8 t1090, .int .u8 t1091, .int .u8 t1092, .int .u8 t1093, .int .u8 t1094, .int .u8 t1095, .int .u8 t1096, .int .u8 t1097, .int .u8 t1098, .int .u8 t1099, .int .u8 t1100] 26 (0, 0)) (by exact B1076.out)) : g1130 ≠ g1076)); have n9_ := Aside0.mk ((by rw [hg]; exact Nat.ne_of_lt (blk_lt (g := g1123) (o := .cells #[.int .i64 t1101, .int .u8 t1102, .int .u8 t1103, .int .u8 t1104, .int .u8 t1105, .int .u8 t1106, .int .u8 t1107, .int .u8 t1108, .int .u8 t1109, .int .u8 t1110, .int .u8 t1111, .int .u8 t1112, .int .u8 t1113, .int .u8 t1114, .int .u8 t1115, .int .u8 t1116, .int .u8 t1117, .int .u8 t1118, .int .u8 t1119, .int .u8 t1120, .int .u8 t1121] 26 (0, 0)) (by exact B1123.out)) : g1123 ≠ g1130)); have n10_ := Aside0.mk ((by rw [hg]; exact Nat.ne_of_gt (blk_lt (g := g1123) (o := .cells #[.int .i64 t1101, .int .u8 t1102, .int .u8 t1103, .int .u8 t1104, .int .u8 t1105, .int .u8 t1106, .int .u8 t1107, .int .u8 t1108, .int .u8 t1109, .int .u8 t1110, .int .u8 t1111, .int .u8 t1112, .int .u8 t1113, .int .u8 t1114, .int .u8 t1115, .int .u8 t1116, .int .u8 t1117, .int .u8 t1118, .int .u8 t1119, .int .u8 t1120, .int .u8 t1121] 26 (0, 0)) (by exact B1123.out)) : g1130 ≠ g1123)); clear HO1079; clear B1076; clear B1123; clear HB; have HO1079 := n0_; have B1076 := n1_; have B1123 := n2_; have HB := n3_; have B1130 := n4_; have GW1130 := n5_; have GE1130 := n6_; have NB1076_1130 := n7_; have NB1130_1076 := n8_; have NB1123_1130 := n9_; have NB1130_1123 := n10_; clear n0_ n1_ n2_ n3_ n4_ n5_ n6_ n7_ n8_ n9_ n10_; clear hb hbox hg; have hnb23 := NB1130_1076.out; have hnc23 := NB1076_1130.out; have hnb24 := NB1130_1123.out; have hnc24 := NB1123_1130.out; have hcz25_0 : w22.cell? ⟨g1130, 0, none⟩ = some (.int .u8 0) := bq_ B1130 0; have hcz25_1 : w22.cell? ⟨g1130, 1, none⟩ = some (.int .u8 0) := bq_ B1130 1; have hcz25_2 : w22.cell? ⟨g1130, 2, none⟩ = some (.int .u8 0) := bq_ B1130 2; have hcz25_3 : w22.cell? ⟨g1130, 3, none⟩ = some (.int .u8 0) := bq_ B1130 3; have hfz25_0 := blk_frozen B1130.out 0; have hfz25_1 := blk_frozen B1130.out 1; have hfz25_2 := blk_frozen B1130.out 2; have hfz25_3 := blk_frozen B1130.out 3; have hcz26_0 : w22.cell? ⟨g1076, 0, none⟩ = some (.int .i64 t1080) := bq_ B1076 0; have hcz26_1 : w22.cell? ⟨g1076, 1, none⟩ = some (.int .u8 t1081) := bq_ B1076 1; have hcz26_2 : w22.cell? ⟨g1076, 2, none⟩ = some (.int .u8 t1082) := bq_ B1076 2; have hcz26_3 : w22.cell? ⟨g1076, 3, none⟩ = some (.int .u8 t1083) := bq_ B1076 3; have hcz26_4 : w22.cell? ⟨g1076, 4, none⟩ = some (.int .u8 t1084) := bq_ B1076 4; have hcz26_5 : w22.cell? ⟨g1076, 5, none⟩ = some (.int .u8 t1085) := bq_ B1076 5; have hcz26_6 : w22.cell? ⟨g1076, 6, none⟩ = some (.int .u8 t1086) := bq_ B1076 6; have hcz26_7 : w22.cell? ⟨g1076, 7, none⟩ = some (.int .u8 t1087) := bq_ B1076 7; have hcz26_8 : w22.cell? ⟨g1076, 8, none⟩ = some (.int .u8 t1088) := bq_ B1076 8; have hcz26_9 : w22.cell? ⟨g1076, 9, none⟩ = some (.int .u8 t1089) := bq_ B1076 9; have hcz26_10 : w22.cell? ⟨g1076, 10, none⟩ = some (.int .u8 t1090) := bq_ B1076 10; have hcz26_11 : w22.cell? ⟨g1076, 11, none⟩ = some (.int .u8 t1091) := bq_ B1076 11; have hcz26_12 : w22.cell? ⟨g1076, 12, none⟩ = some (.int .u8 t1092) := bq_ B1076 12; have hcz26_13 : w22.cell? ⟨g1076, 13, none⟩ = some (.int .u8 t1093) := bq_ B1076 13; have hcz26_14 : w22.cell? ⟨g1076, 14, none⟩ = some (.int .u8 t1094) := bq_ B1076 14; have hcz26_15 : w22.cell? ⟨g1076, 15, none⟩ = some (.int .u8 t1095) := bq_ B1076 15; have hcz26_16 : w22.cell? ⟨g1076, 16, none⟩ = some (.int .u8 t1096) := bq_ B1076 16; have hcz26_17 : w22.cell? ⟨g1076, 17, none⟩ = some (.int .u8 t1097) := bq_ B1076 17; have hcz26_18 : w22.cell? ⟨g1076, 18, none⟩ = some (.int .u8 t1098) := bq_ B1076 18; have hcz26_19 : w22.cell? ⟨g1076, 19, none⟩ = some (.int .u8 t1099) := bq_ B1076 19; have hcz26_20 : w22.cell? ⟨g1076, 20, none⟩ = some (.int .u8 t1100) := bq_ B1076 20; have hfz26_0 := blk_frozen B1076.out 0; have hfz26_1 := blk_frozen B1076.out 1; have hfz26_2 := blk_frozen B1076.out 2; have hfz26_3 := blk_frozen B1076.out 3; have hfz26_4 := blk_frozen B1076.out 4; have hfz26_5 := blk_frozen B1076.out 5; have hfz26_6 := blk_frozen B1076.out 6; have hfz26_7 := blk_frozen B1076.out 7; have hfz26_8 := blk_frozen B1076.out 8; have hfz26_9 := blk_frozen B1076.out 9; have hfz26_10 := blk_frozen B1076.out 10; have hfz26_11 := blk_frozen B1076.out 11; have hfz26_12 := blk_frozen B1076.out 12; have hfz26_13 := blk_frozen B1076.out 13; have hfz26_14 := blk_frozen B1076.out 14; have hfz26_15 := blk_frozen B1076.out 15; have hfz26_16 := blk_frozen B1076.out 16; have hfz26_17 := blk_frozen B1076.out 17; have hfz26_18 := blk_frozen B1076.out 18; have hfz26_19 := blk_frozen B1076.out 19; have hfz26_20 := blk_frozen B1076.out 20) | ((with_reducible refine gate_callee (f := 28) rfl ?_); refine goesL_ (some 44) rfl rfl Tryd.func28 (by kernel_rfl) rfl #[.slice Ao12 t1077.length co12, .int .i64 t1080] rfl (by (try simp only [List.map_toArray, List.map_cons, List.map_nil]); first | done | rfl | (go_simp; done)) ?_; (with_reducible refine (isa_Next.calls k _ _ t1077 t1080 t1131 _ ?side1 ?side2 ?side3 A9.out).mono ?_); (case side1 => refine (Kd.R_reads' (e := 47) (base := w.heap.size) (ok := fun k_ => (True ∧ k_ ≠ g1130)) (n := t1077.length) (c := co12) ?_).2.2; exact (by (with_reducible repeat (first | apply Kd.R_alloc | apply Kd.R_drewN | apply Kd.R_drew)); exact (Kd.R_mono (Kd.R_far (p := ⟨g1130, 3, none⟩) (Kd.R_far (p := ⟨g1130, 2, none⟩) (Kd.R_far (p := ⟨g1130, 1, none⟩) (Kd.R_far (p := ⟨g1130, 0, none⟩) (Kd.R_mono HO1079.out (fun k_ hk => (⟨hk, hk.2⟩ : _ ∧ k_ ≠ g1130))) (fun _ hk => hk.2) (.int .u8 t1126)) (fun _ hk => hk.2) (.int .u8 t1127)) (fun _ hk => hk.2) (.int .u8 t1128)) (fun _ hk => hk.2) (.int .u8 t1129)) (fun _ h_ => h_.1)))); (case side2 => exact (Kd.R_reads' HO1079.out).2.1); (case side3 => exact GL.below HRG.out (by repeat (first | (with_reducible first | exact HB.out | apply below_alloc | apply pw_below_drewN | apply below_drew1 | refine below_set ?_ GE1076.out | refine below_set ?_ GE1123.out | refine below_set ?_ GE1130.out) | exact HB.out))); rintro e w27 ⟨v1132, rfl, ho0, hb⟩; refine ⟨_, rfl, ?_⟩; have n0_ := Aside0.mk (Kd.R_below (by (with_reducible repeat (first | apply Kd.R_alloc | apply Kd.R_drewN | apply Kd.R_drew)); exact (Kd.R_mono (Kd.R_far (p := ⟨g1130, 3, none⟩) (Kd.R_far (p := ⟨g1130, 2, none⟩) (Kd.R_far (p := ⟨g1130, 1, none⟩) (Kd.R_far (p := ⟨g1130, 0, none⟩) (Kd.R_mono HO1079.out (fun k_ hk => (⟨hk, hk.2⟩ : _ ∧ k_ ≠ g1130))) (fun _ hk => hk.2) (.int .u8 t1126)) (fun _ hk => hk.2) (.int .u8 t1127)) (fun _ hk => hk.2) (.int .u8 t1128)) (fun _ hk => hk.2) (.int .u8 t1129)) (fun _ h_ => h_.1))) hb); have n1_ := Aside0.mk (Kd.R_lower ho0 (below_size (by repeat (first | (with_reducible first | exact HB.out | apply below_alloc | apply pw_below_drewN | apply below_drew1 | refine below_set ?_ GE1076.out | refine below_set ?_ GE1123.out | refine below_set ?_ GE1130.out) | exact HB.out)))); have n2_ := Aside0.mk (blk_below (g := g1076) (o := .cells #[.int .i64 t1080, .int .u8 t1081, .int .u8 t1082, .int .u8 t1083, .int .u8 t1084, .int .u8 t1085, .int .u8 t1086, .int .u8 t1087, .int .u8 t1088, .int .u8 t1089, .int .u8 t1090, .int .u8 t1091, .int .u8 t1092, .int .u8 t1093, .int .u8 t1094, .int .u8 t1095, .int .u8 t1096, .int .u8 t1097, .int .u8 t1098, .int .u8 t1099, .int .u8 t1100] 26 (0, 0)) (by refine blk_far ?_ NB1076_1130.out _; refine blk_far ?_ NB1076_1130.out _; refine blk_far ?_ NB1076_1130.out _; refine blk_far ?_ NB1076_1130.out _; exact B1076.out) hb); have n3_ := Aside0.mk (blk_below (g := g1123) (o := .cells #[.int .i64 t1101, .int .u8 t1102, .int .u8 t1103, .int .u8 t1104, .int .u8 t1105, .int .u8 t1106, .int .u8 t1107, .int .u8 t1108, .int .u8 t1109, .int .u8 t1110, .int .u8 t1111, .int .u8 t1112, .int .u8 t1113, .int .u8 t1114, .int .u8 t1115, .int .u8 t1116, .int .u8 t1117, .int .u8 t1118, .int .u8 t1119, .int .u8 t1120, .int .u8 t1121] 26 (0, 0)) (by refine blk_far ?_ NB1123_1130.out _; refine blk_far ?_ NB1123_1130.out _; refine blk_far ?_ NB1123_1130.out _; refine blk_far ?_ NB1123_1130.out _; exact B1123.out) hb); have n4_ := Aside0.mk (blk_below (g := g1130) (o := .cells #[.int .u8 t1126, .int .u8 t1127, .int .u8 t1128, .int .u8 t1129] 47 (0, 0)) (by refine blk_put (cs := #[.int .u8 t1126, .int .u8 t1127, .int .u8 t1128, .int .u8 0]) ?_ 3 _ rfl; refine blk_put (cs := #[.int .u8 t1126, .int .u8 t1127, .int .u8 0, .int .u8 0]) ?_ 2 _ rfl; refine blk_put (cs := #[.int .u8 t1126, .int .u8 0, .int .u8 0, .int .u8 0]) ?_ 1 _ rfl; refine blk_put (cs := #[.int .u8 0, .int .u8 0, .int .u8 0, .int .u8 0]) ?_ 0 _ rfl; exact B1130.out) hb); have n5_ := Aside0.mk (below_step (by repeat (first | (with_reducible first | exact HB.out | apply below_alloc | apply pw_below_drewN | apply below_drew1 | refine below_set ?_ GE1076.out | refine below_set ?_ GE1123.out | refine below_set ?_ GE1130.out) | exact HB.out)) hb); clear HO1079; clear B1076; clear B1123; clear B1130; clear HB; have HO1079 := n0_; have HO1133 := n1_; have B1076 := n2_; have B1123 := n3_; have B1130 := n4_; have HB := n5_; clear n0_ n1_ n2_ n3_ n4_ n5_; (try clear hb); (try clear hb2); (try clear hk); (try clear hi); (try clear ho0)))
  go_loopg [8, 10] k (fun kq v8 v10 w' => ∃ (x8_1 : Bool) (x10_1 : Int), v8 = .bool x8_1 ∧ v10 = .int .i64 x10_1 ∧ Aside0 (attestorlaw28_MachineChanges.l0 kq t1077 t1122 x8_1 t1131 x10_1 t1080 t1081 t1082 t1083 t1084 t1085 t1086 t1087 t1088 t1089 t1090 t1091 t1092 t1093 t1094 t1095 t1096 t1097 t1098 t1099 t1100 t1101 t1102 t1103 t1104 t1105 t1106 t1107 t1108 t1109 t1110 t1111 t1112 t1113 t1114 t1115 t1116 t1117 t1118 t1119 t1120 t1121 t1126 t1127 t1128 t1129 = some r) ∧ Aside0 (kq ≤ k) ∧ Aside0 (Kd.R k47 47 w' w.heap.size (fun k_ => k_ ≠ g1130) (.slice Ao12 t1077.length co12) t1077) ∧ Aside0 (Kd.R (Kd.int .i64) 3 w' w.heap.size (fun _ => True) v1132 t1131) ∧ Aside0 (w'.heap[g1076]? = some (.cells #[.int .i64 t1080, .int .u8 t1081, .int .u8 t1082, .int .u8 t1083, .int .u8 t1084, .int .u8 t1085, .int .u8 t1086, .int .u8 t1087, .int .u8 t1088, .int .u8 t1089, .int .u8 t1090, .int .u8 t1091, .int .u8 t1092, .int .u8 t1093, .int .u8 t1094, .int .u8 t1095, .int .u8 t1096, .int .u8 t1097, .int .u8 t1098, .int .u8 t1099, .int .u8 t1100] 26 (0, 0))) ∧ Aside0 (w'.heap[g1123]? = some (.cells #[.int .i64 t1101, .int .u8 t1102, .int .u8 t1103, .int .u8 t1104, .int .u8 t1105, .int .u8 t1106, .int .u8 t1107, .int .u8 t1108, .int .u8 t1109, .int .u8 t1110, .int .u8 t1111, .int .u8 t1112, .int .u8 t1113, .int .u8 t1114, .int .u8 t1115, .int .u8 t1116, .int .u8 t1117, .int .u8 t1118, .int .u8 t1119, .int .u8 t1120, .int .u8 t1121] 26 (0, 0))) ∧ Aside0 (w'.heap[g1130]? = some (.cells #[.int .u8 t1126, .int .u8 t1127, .int .u8 t1128, .int .u8 t1129] 47 (0, 0))) ∧ Aside0 (Below w.heap.size w w'))
  case atStart => exact ⟨(false), (0), (by first | rfl | (simp; done) | (simp [*]; done) | (simp; rfl) | (simp; decide +kernel)), (by first | rfl | (simp; done) | (simp [*]; done) | (simp; rfl) | (simp; decide +kernel)), H', ⟨Nat.le_refl _⟩, ⟨by (with_reducible repeat (first | apply Kd.R_alloc | apply Kd.R_drewN | apply Kd.R_drew)); exact Kd.R_mono HO1079.out (fun _ hk => hk.2)⟩, ⟨by (with_reducible repeat (first | apply Kd.R_alloc | apply Kd.R_drewN | apply Kd.R_drew)); exact HO1133.out⟩, ⟨by exact B1076.out⟩, ⟨by exact B1123.out⟩, ⟨by exact B1130.out⟩, ⟨by repeat (first | (with_reducible first | exact HB.out | apply below_alloc | apply pw_below_drewN | apply below_drew1 | refine below_set ?_ GE1076.out | refine below_set ?_ GE1123.out | refine below_set ?_ GE1130.out) | exact HB.out)⟩⟩
  case round =>
   clear H'
   try clear c1
   try clear c2
   try clear p2
   try clear c7
   try clear c7b0
   try clear c7b1
   try clear c8
   try clear c9
   try clear c10
   try clear c19
   try clear c23
   try clear c24
   try clear c25
   try clear c27
   try clear hcz20_0
   try clear hcz20_1
   try clear hcz20_10
   try clear hcz20_11
   try clear hcz20_12
   try clear hcz20_13
   try clear hcz20_14
   try clear hcz20_15
   try clear hcz20_16
   try clear hcz20_17
   try clear hcz20_18
   try clear hcz20_19
   try clear hcz20_2
   try clear hcz20_20
   try clear hcz20_3
   try clear hcz20_4
   try clear hcz20_5
   try clear hcz20_6
   try clear hcz20_7
   try clear hcz20_8
   try clear hcz20_9
   try clear hcz25_0
   try clear hcz25_1
   try clear hcz25_2
   try clear hcz25_3
   try clear hcz26_0
   try clear hcz26_1
   try clear hcz26_10
   try clear hcz26_11
   try clear hcz26_12
   try clear hcz26_13
   try clear hcz26_14
   try clear hcz26_15
   try clear hcz26_16
   try clear hcz26_17
   try clear hcz26_18
   try clear hcz26_19
   try clear hcz26_2
   try clear hcz26_20
   try clear hcz26_3
   try clear hcz26_4
   try clear hcz26_5
   try clear hcz26_6
   try clear hcz26_7
   try clear hcz26_8
   try clear hcz26_9
   try clear hfz20_0
   try clear hfz20_1
   try clear hfz20_10
   try clear hfz20_11
   try clear hfz20_12
   try clear hfz20_13
   try clear hfz20_14
   try clear hfz20_15
   try clear hfz20_16
   try clear hfz20_17
   try clear hfz20_18
   try clear hfz20_19
   try clear hfz20_2
   try clear hfz20_20
   try clear hfz20_3
   try clear hfz20_4
   try clear hfz20_5
   try clear hfz20_6
   try clear hfz20_7
   try clear hfz20_8
   try clear hfz20_9
   try clear hfz25_0
   try clear hfz25_1
   try clear hfz25_2
   try clear hfz25_3
   try clear hfz26_0
   try clear hfz26_1
   try clear hfz26_10
   try clear hfz26_11
   try clear hfz26_12
   try clear hfz26_13
   try clear hfz26_14
   try clear hfz26_15
   try clear hfz26_16
   try clear hfz26_17
   try clear hfz26_18
   try clear hfz26_19
   try clear hfz26_2
   try clear hfz26_20
   try clear hfz26_3
   try clear hfz26_4
   try clear hfz26_5
   try clear hfz26_6
   try clear hfz26_7
   try clear hfz26_8
   try clear hfz26_9
   obtain ⟨x8_1, x10_1, rfl, rfl, HA, HK1, HO_0, HO_9, B1076, B1123, B1130, HB⟩ := hrel
   cases gk with
   | zero => exact absurd HA.out (by simp [attestorlaw28_MachineChanges.l0])
   | succ k1 =>
    have H := HA.out
    clear HA
    simp only [attestorlaw28_MachineChanges.l0] at H
    by_cases c28 : x10_1 < (t1131.length : Int)
    ·rw [if_pos c28] at H
     have c28b0 : decide (x10_1 < (t1131.length : Int)) = true := decide_eq_true c28
     clear c28
     by_cases c29 : x8_1 = true
     ·subst c29
      have H1 : (attestorlaw28_MachineChanges.l0 k1 t1077 t1122 true t1131 (wrap64 (x10_1 + 1)) t1080 t1081 t1082 t1083 t1084 t1085 t1086 t1087 t1088 t1089 t1090 t1091 t1092 t1093 t1094 t1095 t1096 t1097 t1098 t1099 t1100 t1101 t1102 t1103 t1104 t1105 t1106 t1107 t1108 t1109 t1110 t1111 t1112 t1113 t1114 t1115 t1116 t1117 t1118 t1119 t1120 t1121 t1126 t1127 t1128 t1129) = some r := by rw [if_pos rfl] at H; exact H
      clear H
      have H := H1
      clear H1
      have H' := Aside0.mk H
      clear H
      obtain ⟨Ao30, co30, eo30⟩ := Kd.R_slice HO_9.out
      subst eo30
      try go_wp2
      have n0_ := Aside0.mk (Kd.R_drew HO_0.out)
      have n1_ := Aside0.mk (Kd.R_drew HO_9.out)
      have n2_ := Aside0.mk (blk_drew B1076.out)
      have n3_ := Aside0.mk (blk_drew B1123.out)
      have n4_ := Aside0.mk (blk_drew B1130.out)
      have n5_ := Aside0.mk (below_drew1 HB.out)
      clear HO_0
      clear HO_9
      clear B1076
      clear B1123
      clear B1130
      clear HB
      have HO_0 := n0_
      have HO_9 := n1_
      have B1076 := n2_
      have B1123 := n3_
      have B1130 := n4_
      have HB := n5_
      clear n0_ n1_ n2_ n3_ n4_ n5_
      refine start_ (n := 11) (S := fun w' => True) (ds := []) z8_0_ (by kernel_rfl) rfl rfl trivial (fun hL => ?_); refine with_tabW attestorlaw28_MachineChanges.tab12 attestorlaw28_MachineChanges.bits12 (fun T_ W_ => ?_)
      generalize wr.drew = w31 at HO_0 HO_9 B1076 B1123 B1130 HB hL ⊢
      refine pure_ (i := 0) (N := some 51) (v := ?_) (a' := ?_) z8_1_ rfl rfl (an_ T_) (fun _ _ _ h => h) (Or.inl ⟨by rfl, ?_⟩) ?_ ?_
      rotate_left; · intro w'; go_simp; with_reducible rfl
      rotate_left; · simp only [Act.put, sa_, sb_, sc_, i64_w, i32_w]; rfl
      refine pure_ (i := 1) (N := some 52) (v := ?_) (a' := ?_) z8_2_ rfl rfl (an_ T_) (fun _ _ _ h => h) (Or.inl ⟨by rfl, ?_⟩) ?_ ?_
      rotate_left; · intro w'; go_simp; with_reducible rfl
      rotate_left; · simp only [Act.put, sa_, sb_, sc_, i64_w, i32_w]; rfl
      refine pure_ (i := 2) (N := some 53) (v := undef) (a' := ?_) z8_3_ rfl rfl (an_ T_) (fun _ _ _ h => h) (Or.inr ⟨by rfl, rfl⟩) ?_ ?_
      rotate_left
      ·simp only [Act.put, sa_, sb_, sc_, i64_w, i32_w]
       rfl
      refine pure_ (i := 3) (N := some 54) (v := undef) (a' := ?_) z8_4_ rfl rfl (an_ T_) (fun _ _ _ h => h) (Or.inr ⟨by rfl, rfl⟩) ?_ ?_
      rotate_left
      ·simp only [Act.put, sa_, sb_, sc_, i64_w, i32_w]
       rfl
      refine pure_ (i := 4) (N := some 55) (v := undef) (a' := ?_) z8_5_ rfl rfl (an_ T_) (fun _ _ _ h => h) (Or.inr ⟨by rfl, rfl⟩) ?_ ?_
      rotate_left
      ·simp only [Act.put, sa_, sb_, sc_, i64_w, i32_w]
       rfl
      refine pure_ (i := 5) (N := some 56) (v := undef) (a' := ?_) z8_6_ rfl rfl (an_ T_) (fun _ _ _ h => h) (Or.inr ⟨by rfl, rfl⟩) ?_ ?_
      rotate_left
      ·simp only [Act.put, sa_, sb_, sc_, i64_w, i32_w]
       rfl
      refine pure_ (i := 6) (N := some 57) (v := undef) (a' := ?_) z8_7_ rfl rfl (an_ T_) (fun _ _ _ h => h) (Or.inr ⟨by rfl, rfl⟩) ?_ ?_
      rotate_left
      ·simp only [Act.put, sa_, sb_, sc_, i64_w, i32_w]
       rfl
      refine pure_ (i := 7) (N := some 58) (v := undef) (a' := ?_) z8_8_ rfl rfl (an_ T_) (fun _ _ _ h => h) (Or.inr ⟨by rfl, rfl⟩) ?_ ?_
      rotate_left
      ·simp only [Act.put, sa_, sb_, sc_, i64_w, i32_w]
       rfl
      refine pure_ (i := 8) (N := some 59) (v := undef) (a' := ?_) z8_9_ rfl rfl (an_ T_) (fun _ _ _ h => h) (Or.inr ⟨by rfl, rfl⟩) ?_ ?_
      rotate_left
      ·simp only [Act.put, sa_, sb_, sc_, i64_w, i32_w]
       rfl
      refine pure_ (i := 9) (N := some 60) (v := ?_) (a' := ?_) z8_10_ rfl rfl (an_ T_) (fun _ _ _ h => h) (Or.inl ⟨by rfl, ?_⟩) ?_ ?_
      rotate_left; · intro w'; go_simp; with_reducible rfl
      rotate_left; · simp only [Act.put, sa_, sb_, sc_, i64_w, i32_w]; rfl
      refine pure_ (i := 10) (N := some 8) (v := ?_) (a' := ?_) z8_11_ rfl rfl (an_ T_) (fun _ _ _ h => h) (Or.inl ⟨by rfl, ?_⟩) ?_ ?_
      rotate_left; · intro w'; go_simp; with_reducible rfl
      rotate_left; · simp only [Act.put, sa_, sb_, sc_, i64_w, i32_w]; rfl
      refine done_ (done_of T_.out (by kernel_rfl)) ?_
      try go_wp2
      go_roundg k1
      case measure => have := HK1.out; omega
      case rel => exact ⟨(true), (wrap64 (x10_1 + 1)), (by first | rfl | (simp; done) | (simp [*]; done) | (simp; rfl) | (simp; decide +kernel)), (by first | rfl | (simp; done) | (simp [*]; done) | (simp; rfl) | (simp; decide +kernel)), H', ⟨by have := HK1.out; omega⟩, ⟨by (with_reducible repeat (first | apply Kd.R_alloc | apply Kd.R_drewN | apply Kd.R_drew)); exact HO_0.out⟩, ⟨by (with_reducible repeat (first | apply Kd.R_alloc | apply Kd.R_drewN | apply Kd.R_drew)); exact HO_9.out⟩, ⟨by exact B1076.out⟩, ⟨by exact B1123.out⟩, ⟨by exact B1130.out⟩, ⟨by repeat (first | (with_reducible first | exact HB.out | apply below_alloc | apply pw_below_drewN | apply below_drew1 | refine below_set ?_ GE1076.out | refine below_set ?_ GE1123.out | refine below_set ?_ GE1130.out) | exact HB.out)⟩⟩
     ·replace c29 := Bool.eq_false_iff.mpr c29
      subst c29
      have H1 : (if 0 ≤ x10_1 then (attestorlaw28_MachineChanges.l0 k1 t1077 t1122 ((rd t1131 x10_1) == t1101) t1131 (wrap64 (x10_1 + 1)) t1080 t1081 t1082 t1083 t1084 t1085 t1086 t1087 t1088 t1089 t1090 t1091 t1092 t1093 t1094 t1095 t1096 t1097 t1098 t1099 t1100 t1101 t1102 t1103 t1104 t1105 t1106 t1107 t1108 t1109 t1110 t1111 t1112 t1113 t1114 t1115 t1116 t1117 t1118 t1119 t1120 t1121 t1126 t1127 t1128 t1129) else (none)) = some r := by rw [if_neg (show ¬ (false = true) by decide)] at H; exact H
      clear H
      have H := H1
      clear H1
      by_cases c32 : 0 ≤ x10_1
      ·rw [if_pos c32] at H
       have c32b0 : decide (0 ≤ x10_1) = true := decide_eq_true c32
       clear c32
       have H' := Aside0.mk H
       clear H
       obtain ⟨Ao33, co33, eo33⟩ := Kd.R_slice HO_9.out
       subst eo33
       try go_wp2
       have n0_ := Aside0.mk (Kd.R_drew HO_0.out)
       have n1_ := Aside0.mk (Kd.R_drew HO_9.out)
       have n2_ := Aside0.mk (blk_drew B1076.out)
       have n3_ := Aside0.mk (blk_drew B1123.out)
       have n4_ := Aside0.mk (blk_drew B1130.out)
       have n5_ := Aside0.mk (below_drew1 HB.out)
       clear HO_0
       clear HO_9
       clear B1076
       clear B1123
       clear B1130
       clear HB
       have HO_0 := n0_
       have HO_9 := n1_
       have B1076 := n2_
       have B1123 := n3_
       have B1130 := n4_
       have HB := n5_
       clear n0_ n1_ n2_ n3_ n4_ n5_
       have p1134 : 0 ≤ (x10_1 : Int) := of_decide_eq_true (by first | (with_reducible assumption) | assumption)
       have q1134 : x10_1 < (t1131.length : Int) := of_decide_eq_true (by first | (with_reducible assumption) | assumption)
       obtain ⟨ad1134, e1134, hx1134_0⟩ := Kd.at_int (Kd.R_reads' HO_9.out).2.2 x10_1 p1134 q1134
       cases e1134
       replace p1134 := eq_true p1134
       replace q1134 := eq_true q1134
       refine start_ (n := 11) (S := fun w' => w'.cell? ⟨g1123, 0, none⟩ = some (.int .i64 t1101) ∧ w'.cell? ⟨g1123, 1, none⟩ = some (.int .u8 t1102) ∧ w'.cell? ⟨g1123, 2, none⟩ = some (.int .u8 t1103) ∧ w'.cell? ⟨g1123, 3, none⟩ = some (.int .u8 t1104) ∧ w'.cell? ⟨g1123, 4, none⟩ = some (.int .u8 t1105) ∧ w'.cell? ⟨g1123, 5, none⟩ = some (.int .u8 t1106) ∧ w'.cell? ⟨g1123, 6, none⟩ = some (.int .u8 t1107) ∧ w'.cell? ⟨g1123, 7, none⟩ = some (.int .u8 t1108) ∧ w'.cell? ⟨g1123, 8, none⟩ = some (.int .u8 t1109) ∧ w'.cell? ⟨g1123, 9, none⟩ = some (.int .u8 t1110) ∧ w'.cell? ⟨g1123, 10, none⟩ = some (.int .u8 t1111) ∧ w'.cell? ⟨g1123, 11, none⟩ = some (.int .u8 t1112) ∧ w'.cell? ⟨g1123, 12, none⟩ = some (.int .u8 t1113) ∧ w'.cell? ⟨g1123, 13, none⟩ = some (.int .u8 t1114) ∧ w'.cell? ⟨g1123, 14, none⟩ = some (.int .u8 t1115) ∧ w'.cell? ⟨g1123, 15, none⟩ = some (.int .u8 t1116) ∧ w'.cell? ⟨g1123, 16, none⟩ = some (.int .u8 t1117) ∧ w'.cell? ⟨g1123, 17, none⟩ = some (.int .u8 t1118) ∧ w'.cell? ⟨g1123, 18, none⟩ = some (.int .u8 t1119) ∧ w'.cell? ⟨g1123, 19, none⟩ = some (.int .u8 t1120) ∧ w'.cell? ⟨g1123, 20, none⟩ = some (.int .u8 t1121) ∧ w'.cell? (ad1134.add (x10_1).toNat) = some (.int .i64 (rd t1131 x10_1))) (ds := []) z8_0_ (by kernel_rfl) rfl rfl ⟨bq_ B1123 0, bq_ B1123 1, bq_ B1123 2, bq_ B1123 3, bq_ B1123 4, bq_ B1123 5, bq_ B1123 6, bq_ B1123 7, bq_ B1123 8, bq_ B1123 9, bq_ B1123 10, bq_ B1123 11, bq_ B1123 12, bq_ B1123 13, bq_ B1123 14, bq_ B1123 15, bq_ B1123 16, bq_ B1123 17, bq_ B1123 18, bq_ B1123 19, bq_ B1123 20, hx1134_0⟩ (fun hL => ?_); refine with_tabW attestorlaw28_MachineChanges.tab12 attestorlaw28_MachineChanges.bits12 (fun T_ W_ => ?_)
       generalize wr.drew = w34 at HO_0 HO_9 B1076 B1123 B1130 HB hx1134_0 hL ⊢
       refine pure_ (i := 0) (N := some 51) (v := ?_) (a' := ?_) z8_1_ rfl rfl (an_ T_) (fun _ _ _ h => h) (Or.inl ⟨by rfl, ?_⟩) ?_ ?_
       rotate_left; · intro w'; go_simp; with_reducible rfl
       rotate_left; · simp only [Act.put, sa_, sb_, sc_, i64_w, i32_w]; rfl
       refine pure_ (i := 1) (N := some 52) (v := ?_) (a' := ?_) z8_2_ rfl rfl (an_ T_) (fun _ _ _ h => h) (Or.inl ⟨by rfl, ?_⟩) ?_ ?_
       rotate_left; · intro w'; go_simp; with_reducible rfl
       rotate_left; · simp only [Act.put, sa_, sb_, sc_, i64_w, i32_w]; rfl
       refine pure_ (i := 2) (N := some 53) (v := ?_) (a' := ?_) z8_3_ rfl rfl (an_ T_) (fun _ _ _ h => h) (Or.inl ⟨by rfl, ?_⟩) ?_ ?_
       rotate_left; · intro w'; go_simp; with_reducible rfl
       rotate_left; · simp only [Act.put, sa_, sb_, sc_, i64_w, i32_w]; rfl
       refine pure_ (i := 3) (N := some 54) (v := ?_) (a' := ?_) z8_4_ rfl rfl (an_ T_) (fun _ _ _ h => h) (Or.inl ⟨by rfl, ?_⟩) ?_ ?_
       rotate_left; · intro w'; go_simp; with_reducible rfl
       rotate_left; · simp only [Act.put, sa_, sb_, sc_, i64_w, i32_w]; rfl
       refine pure_ (i := 4) (N := some 55) (v := ?_) (a' := ?_) z8_5_ rfl rfl (an_ T_) (fun _ _ _ h => h) (Or.inl ⟨by rfl, ?_⟩) ?_ ?_
       rotate_left; · intro w'; go_simp; with_reducible rfl
       rotate_left; · simp only [Act.put, sa_, sb_, sc_, i64_w, i32_w]; rfl
       refine pure_ (i := 6) (N := some 57) (v := ?_) (a' := ?_) z8_12_ rfl rfl (an_ T_) (fun _ _ _ h => h) (Or.inl ⟨by rfl, ?_⟩) ?_ ?_
       rotate_left; · intro w'; go_simp; with_reducible rfl
       rotate_left; · simp only [Act.put, sa_, sb_, sc_, i64_w, i32_w]; rfl
       refine take_ (i := 5) (N := some 56) (v := ?_) (a' := ?_) z8_7_ rfl rfl (tk_ T_ W_) (fun _ _ _ h => h) (Or.inl ⟨by rfl, ?_⟩) hL ?_ ?_
       rotate_left
       ·rintro w' ⟨s0, s1, s2, s3, s4, s5, s6, s7, s8, s9, s10, s11, s12, s13, s14, s15, s16, s17, s18, s19, s20, s21⟩
        go_simp
        with_reducible rfl
       rotate_left
       ·simp only [Act.put, sa_, sb_, sc_, i64_w, i32_w]
        rfl
       refine take_ (i := 7) (N := some 58) (v := ?_) (a' := ?_) z8_8_ rfl rfl (tk_ T_ W_) (fun _ _ _ h => h) (Or.inl ⟨by rfl, ?_⟩) hL ?_ ?_
       rotate_left
       ·rintro w' ⟨s0, s1, s2, s3, s4, s5, s6, s7, s8, s9, s10, s11, s12, s13, s14, s15, s16, s17, s18, s19, s20, s21⟩
        go_simp
        with_reducible rfl
       rotate_left
       ·simp only [Act.put, sa_, sb_, sc_, i64_w, i32_w]
        rfl
       refine pure_ (i := 8) (N := some 59) (v := ?_) (a' := ?_) z8_9_ rfl rfl (an_ T_) (fun _ _ _ h => h) (Or.inl ⟨by rfl, ?_⟩) ?_ ?_
       rotate_left; · intro w'; go_simp; with_reducible rfl
       rotate_left; · simp only [Act.put, sa_, sb_, sc_, i64_w, i32_w]; rfl
       refine pure_ (i := 9) (N := some 60) (v := ?_) (a' := ?_) z8_10_ rfl rfl (an_ T_) (fun _ _ _ h => h) (Or.inl ⟨by rfl, ?_⟩) ?_ ?_
       rotate_left; · intro w'; go_simp; with_reducible rfl
       rotate_left; · simp only [Act.put, sa_, sb_, sc_, i64_w, i32_w]; rfl
       refine pure_ (i := 10) (N := some 8) (v := ?_) (a' := ?_) z8_11_ rfl rfl (an_ T_) (fun _ _ _ h => h) (Or.inl ⟨by rfl, ?_⟩) ?_ ?_
       rotate_left; · intro w'; go_simp; with_reducible rfl
       rotate_left; · simp only [Act.put, sa_, sb_, sc_, i64_w, i32_w]; rfl
       refine done_ (done_of T_.out (by kernel_rfl)) ?_
       try go_wp2
       go_roundg k1
       case measure => have := HK1.out; omega
       case rel => exact ⟨(((rd t1131 x10_1) == t1101)), (wrap64 (x10_1 + 1)), (by first | rfl | (simp; done) | (simp [*]; done) | (simp; rfl) | (simp; decide +kernel)), (by first | rfl | (simp; done) | (simp [*]; done) | (simp; rfl) | (simp; decide +kernel)), H', ⟨by have := HK1.out; omega⟩, ⟨by (with_reducible repeat (first | apply Kd.R_alloc | apply Kd.R_drewN | apply Kd.R_drew)); exact HO_0.out⟩, ⟨by (with_reducible repeat (first | apply Kd.R_alloc | apply Kd.R_drewN | apply Kd.R_drew)); exact HO_9.out⟩, ⟨by exact B1076.out⟩, ⟨by exact B1123.out⟩, ⟨by exact B1130.out⟩, ⟨by repeat (first | (with_reducible first | exact HB.out | apply below_alloc | apply pw_below_drewN | apply below_drew1 | refine below_set ?_ GE1076.out | refine below_set ?_ GE1123.out | refine below_set ?_ GE1130.out) | exact HB.out)⟩⟩
      ·rw [if_neg c32] at H
       exact absurd H (by simp)
    ·rw [if_neg c28] at H
     have c28b0 : decide (x10_1 < (t1131.length : Int)) = false := decide_eq_false c28
     clear c28
     have HC35 := Aside0.mk H
     clear H
     obtain ⟨Ao36, co36, eo36⟩ := Kd.R_slice HO_9.out
     subst eo36
     go_upto_region 13 with (fail)
     go_cut [85] (fun v85 wc => ∃ (kq : Nat) (x85_34 : Bool), v85 = .bool x85_34 ∧ Aside0 (attestorlaw28_MachineChanges.j1 kq x85_34 t1080 t1081 t1082 t1083 t1084 t1085 t1086 t1087 t1088 t1089 t1090 t1091 t1092 t1093 t1094 t1095 t1096 t1097 t1098 t1099 t1100 t1101 t1102 t1103 t1104 t1105 t1106 t1107 t1108 t1109 t1110 t1111 t1112 t1113 t1114 t1115 t1116 t1117 t1118 t1119 t1120 t1121 t1126 t1127 t1128 t1129 = some r) ∧ Aside0 (kq ≤ k1) ∧ Aside0 (wc.heap[g1076]? = some (.cells #[.int .i64 t1080, .int .u8 t1081, .int .u8 t1082, .int .u8 t1083, .int .u8 t1084, .int .u8 t1085, .int .u8 t1086, .int .u8 t1087, .int .u8 t1088, .int .u8 t1089, .int .u8 t1090, .int .u8 t1091, .int .u8 t1092, .int .u8 t1093, .int .u8 t1094, .int .u8 t1095, .int .u8 t1096, .int .u8 t1097, .int .u8 t1098, .int .u8 t1099, .int .u8 t1100] 26 (0, 0))) ∧ Aside0 (wc.heap[g1123]? = some (.cells #[.int .i64 t1101, .int .u8 t1102, .int .u8 t1103, .int .u8 t1104, .int .u8 t1105, .int .u8 t1106, .int .u8 t1107, .int .u8 t1108, .int .u8 t1109, .int .u8 t1110, .int .u8 t1111, .int .u8 t1112, .int .u8 t1113, .int .u8 t1114, .int .u8 t1115, .int .u8 t1116, .int .u8 t1117, .int .u8 t1118, .int .u8 t1119, .int .u8 t1120, .int .u8 t1121] 26 (0, 0))) ∧ Aside0 (wc.heap[g1130]? = some (.cells #[.int .u8 t1126, .int .u8 t1127, .int .u8 t1128, .int .u8 t1129] 47 (0, 0))) ∧ Aside0 (Below w.heap.size w wc))
     case first =>
      have H := HC35.out
      clear HC35
      by_cases c37 : t1122 = 0
      ·rw [if_pos c37] at H
       have c37b0 : (t1122 == 0) = true := beq_iff_eq.mpr c37
       have c37b1 : (t1122 != 0) = false := bne_eq_false_iff_eq.mpr c37
       clear c37
       (first | rw [c37b0] | (simp only [i64_w, i32_w]; rw [c37b0]) | skip)
       by_cases c38 : x8_1 = true
       ·subst c38
        have H1 : ((machine_Halted.f k1 t1077 t1080 t1081 t1082 t1083 t1084 t1085 t1086 t1087 t1088 t1089 t1090 t1091 t1092 t1093 t1094 t1095 t1096 t1097 t1098 t1099 t1100).bind fun t1135 => (if (t1135 != (t1126 == 0)) = true then (none) else (if t1126 = 0 then (attestorlaw28_MachineChanges.j1 k1 (!(t1101 == t1080) || ((!(t1102 == t1081) || (!(t1103 == t1082) || (!(t1104 == t1083) || (!(t1105 == t1084))))) || ((!(t1106 == t1085) || (!(t1107 == t1086) || (!(t1108 == t1087) || (!(t1109 == t1088) || (!(t1110 == t1089) || (!(t1111 == t1090) || (!(t1112 == t1091) || (!(t1113 == t1092) || (!(t1114 == t1093) || (!(t1115 == t1094) || (!(t1116 == t1095) || (!(t1117 == t1096) || (!(t1118 == t1097) || (!(t1119 == t1098) || (!(t1120 == t1099) || (!(t1121 == t1100)))))))))))))))))))) t1080 t1081 t1082 t1083 t1084 t1085 t1086 t1087 t1088 t1089 t1090 t1091 t1092 t1093 t1094 t1095 t1096 t1097 t1098 t1099 t1100 t1101 t1102 t1103 t1104 t1105 t1106 t1107 t1108 t1109 t1110 t1111 t1112 t1113 t1114 t1115 t1116 t1117 t1118 t1119 t1120 t1121 t1126 t1127 t1128 t1129) else (attestorlaw28_MachineChanges.j1 k1 false t1080 t1081 t1082 t1083 t1084 t1085 t1086 t1087 t1088 t1089 t1090 t1091 t1092 t1093 t1094 t1095 t1096 t1097 t1098 t1099 t1100 t1101 t1102 t1103 t1104 t1105 t1106 t1107 t1108 t1109 t1110 t1111 t1112 t1113 t1114 t1115 t1116 t1117 t1118 t1119 t1120 t1121 t1126 t1127 t1128 t1129)))) = some r := by rw [if_pos rfl] at H; exact H
        clear H
        have H := H1
        clear H1
        replace H := Option.bind_eq_some_iff.mp H
        obtain ⟨t1135, A390, H⟩ := H
        have A39 := Aside0.mk A390
        clear A390
        by_cases c40 : (t1135 != (t1126 == 0)) = true
        ·rw [if_pos c40] at H
         exact absurd H (by simp)
        ·rw [if_neg c40] at H
         have c40b0 : (t1135 != (t1126 == 0)) = false := by simpa using c40
         (try (have c40b1 : decide (t1135 = (t1126 == 0)) = true := by simpa using c40))
         (try (have c40b2 : (t1135 == (t1126 == 0)) = true := by simpa using c40))
         clear c40
         by_cases c41 : t1126 = 0
         ·rw [if_pos c41] at H
          have c41b0 : (t1126 == 0) = true := beq_iff_eq.mpr c41
          have c41_settled : t1135 = true := by rw [c41b0] at c40b0; cases t1135 <;> first | rfl | exact absurd c40b0 (by decide)
          have c41b1 : (t1126 != 0) = false := bne_eq_false_iff_eq.mpr c41
          clear c41
          have H' := Aside0.mk H
          clear H
          try go_wp2
          have n0_ := Aside0.mk (Kd.R_drew HO_0.out)
          have n1_ := Aside0.mk (Kd.R_drew HO_9.out)
          have n2_ := Aside0.mk (blk_drew B1076.out)
          have n3_ := Aside0.mk (blk_drew B1123.out)
          have n4_ := Aside0.mk (blk_drew B1130.out)
          have n5_ := Aside0.mk (below_drew1 HB.out)
          clear HO_0
          clear HO_9
          clear B1076
          clear B1123
          clear B1130
          clear HB
          have HO_0 := n0_
          have HO_9 := n1_
          have B1076 := n2_
          have B1123 := n3_
          have B1130 := n4_
          have HB := n5_
          clear n0_ n1_ n2_ n3_ n4_ n5_
          refine start_ (n := 25) (S := fun w' => w'.cell? ⟨g1076, 0, none⟩ = some (.int .i64 t1080) ∧ w'.cell? ⟨g1076, 1, none⟩ = some (.int .u8 t1081) ∧ w'.cell? ⟨g1076, 2, none⟩ = some (.int .u8 t1082) ∧ w'.cell? ⟨g1076, 3, none⟩ = some (.int .u8 t1083) ∧ w'.cell? ⟨g1076, 4, none⟩ = some (.int .u8 t1084) ∧ w'.cell? ⟨g1076, 5, none⟩ = some (.int .u8 t1085) ∧ w'.cell? ⟨g1076, 6, none⟩ = some (.int .u8 t1086) ∧ w'.cell? ⟨g1076, 7, none⟩ = some (.int .u8 t1087) ∧ w'.cell? ⟨g1076, 8, none⟩ = some (.int .u8 t1088) ∧ w'.cell? ⟨g1076, 9, none⟩ = some (.int .u8 t1089) ∧ w'.cell? ⟨g1076, 10, none⟩ = some (.int .u8 t1090) ∧ w'.cell? ⟨g1076, 11, none⟩ = some (.int .u8 t1091) ∧ w'.cell? ⟨g1076, 12, none⟩ = some (.int .u8 t1092) ∧ w'.cell? ⟨g1076, 13, none⟩ = some (.int .u8 t1093) ∧ w'.cell? ⟨g1076, 14, none⟩ = some (.int .u8 t1094) ∧ w'.cell? ⟨g1076, 15, none⟩ = some (.int .u8 t1095) ∧ w'.cell? ⟨g1076, 16, none⟩ = some (.int .u8 t1096) ∧ w'.cell? ⟨g1076, 17, none⟩ = some (.int .u8 t1097) ∧ w'.cell? ⟨g1076, 18, none⟩ = some (.int .u8 t1098) ∧ w'.cell? ⟨g1076, 19, none⟩ = some (.int .u8 t1099) ∧ w'.cell? ⟨g1076, 20, none⟩ = some (.int .u8 t1100) ∧ w'.cell? ⟨g1130, 0, none⟩ = some (.int .u8 t1126) ∧ w'.cell? ⟨g1130, 1, none⟩ = some (.int .u8 t1127) ∧ w'.cell? ⟨g1130, 2, none⟩ = some (.int .u8 t1128) ∧ w'.cell? ⟨g1130, 3, none⟩ = some (.int .u8 t1129) ∧ w'.cell? ⟨g1123, 0, none⟩ = some (.int .i64 t1101) ∧ w'.cell? ⟨g1123, 1, none⟩ = some (.int .u8 t1102) ∧ w'.cell? ⟨g1123, 2, none⟩ = some (.int .u8 t1103) ∧ w'.cell? ⟨g1123, 3, none⟩ = some (.int .u8 t1104) ∧ w'.cell? ⟨g1123, 4, none⟩ = some (.int .u8 t1105) ∧ w'.cell? ⟨g1123, 5, none⟩ = some (.int .u8 t1106) ∧ w'.cell? ⟨g1123, 6, none⟩ = some (.int .u8 t1107) ∧ w'.cell? ⟨g1123, 7, none⟩ = some (.int .u8 t1108) ∧ w'.cell? ⟨g1123, 8, none⟩ = some (.int .u8 t1109) ∧ w'.cell? ⟨g1123, 9, none⟩ = some (.int .u8 t1110) ∧ w'.cell? ⟨g1123, 10, none⟩ = some (.int .u8 t1111) ∧ w'.cell? ⟨g1123, 11, none⟩ = some (.int .u8 t1112) ∧ w'.cell? ⟨g1123, 12, none⟩ = some (.int .u8 t1113) ∧ w'.cell? ⟨g1123, 13, none⟩ = some (.int .u8 t1114) ∧ w'.cell? ⟨g1123, 14, none⟩ = some (.int .u8 t1115) ∧ w'.cell? ⟨g1123, 15, none⟩ = some (.int .u8 t1116) ∧ w'.cell? ⟨g1123, 16, none⟩ = some (.int .u8 t1117) ∧ w'.cell? ⟨g1123, 17, none⟩ = some (.int .u8 t1118) ∧ w'.cell? ⟨g1123, 18, none⟩ = some (.int .u8 t1119) ∧ w'.cell? ⟨g1123, 19, none⟩ = some (.int .u8 t1120) ∧ w'.cell? ⟨g1123, 20, none⟩ = some (.int .u8 t1121)) (ds := []) z8_13_ (by kernel_rfl) rfl rfl ⟨bq_ B1076 0, bq_ B1076 1, bq_ B1076 2, bq_ B1076 3, bq_ B1076 4, bq_ B1076 5, bq_ B1076 6, bq_ B1076 7, bq_ B1076 8, bq_ B1076 9, bq_ B1076 10, bq_ B1076 11, bq_ B1076 12, bq_ B1076 13, bq_ B1076 14, bq_ B1076 15, bq_ B1076 16, bq_ B1076 17, bq_ B1076 18, bq_ B1076 19, bq_ B1076 20, bq_ B1130 0, bq_ B1130 1, bq_ B1130 2, bq_ B1130 3, bq_ B1123 0, bq_ B1123 1, bq_ B1123 2, bq_ B1123 3, bq_ B1123 4, bq_ B1123 5, bq_ B1123 6, bq_ B1123 7, bq_ B1123 8, bq_ B1123 9, bq_ B1123 10, bq_ B1123 11, bq_ B1123 12, bq_ B1123 13, bq_ B1123 14, bq_ B1123 15, bq_ B1123 16, bq_ B1123 17, bq_ B1123 18, bq_ B1123 19, bq_ B1123 20⟩ (fun hL => ?_); refine with_tabW attestorlaw28_MachineChanges.tab13 attestorlaw28_MachineChanges.bits13 (fun T_ W_ => ?_)
          generalize wr.drew = w42 at HO_0 HO_9 B1076 B1123 B1130 HB hL ⊢
          refine pure_ (i := 0) (N := some 61) (v := ?_) (a' := ?_) z8_14_ rfl rfl (an_ T_) (fun _ _ _ h => h) (Or.inl ⟨by rfl, ?_⟩) ?_ ?_
          rotate_left; · intro w'; go_simp; with_reducible rfl
          rotate_left; · simp only [Act.put, sa_, sb_, sc_, i64_w, i32_w]; rfl
          refine pure_ (i := 1) (N := some 62) (v := ?_) (a' := ?_) z8_15_ rfl rfl (an_ T_) (fun _ _ _ h => h) (Or.inl ⟨by rfl, ?_⟩) ?_ ?_
          rotate_left; · intro w'; go_simp; with_reducible rfl
          rotate_left; · simp only [Act.put, sa_, sb_, sc_, i64_w, i32_w]; rfl
          refine pure_ (i := 2) (N := some 63) (v := ?_) (a' := ?_) z8_16_ rfl rfl (an_ T_) (fun _ _ _ h => h) (Or.inl ⟨by rfl, ?_⟩) ?_ ?_
          rotate_left; · intro w'; go_simp; with_reducible rfl
          rotate_left; · simp only [Act.put, sa_, sb_, sc_, i64_w, i32_w]; rfl
          refine pure_ (i := 3) (N := some 64) (v := ?_) (a' := ?_) z8_17_ rfl rfl (an_ T_) (fun _ _ _ h => h) (Or.inl ⟨by rfl, ?_⟩) ?_ ?_
          rotate_left; · intro w'; go_simp; with_reducible rfl
          rotate_left; · simp only [Act.put, sa_, sb_, sc_, i64_w, i32_w]; rfl
          refine pure_ (i := 4) (N := some 65) (v := ?_) (a' := ?_) z8_18_ rfl rfl (an_ T_) (fun _ _ _ h => h) (Or.inl ⟨by rfl, ?_⟩) ?_ ?_
          rotate_left; · intro w'; go_simp; with_reducible rfl
          rotate_left; · simp only [Act.put, sa_, sb_, sc_, i64_w, i32_w]; rfl
          refine pure_ (i := 5) (N := some 66) (v := ?_) (a' := ?_) z8_19_ rfl rfl (an_ T_) (fun _ _ _ h => h) (Or.inl ⟨by rfl, ?_⟩) ?_ ?_
          rotate_left; · intro w'; go_simp; with_reducible rfl
          rotate_left; · simp only [Act.put, sa_, sb_, sc_, i64_w, i32_w]; rfl
          refine pure_ (i := 6) (N := some 67) (v := ?_) (a' := ?_) z8_20_ rfl rfl (an_ T_) (fun _ _ _ h => h) (Or.inl ⟨by rfl, ?_⟩) ?_ ?_
          rotate_left; · intro w'; go_simp; with_reducible rfl
          rotate_left; · simp only [Act.put, sa_, sb_, sc_, i64_w, i32_w]; rfl
          refine pure_ (i := 7) (N := some 68) (v := ?_) (a' := ?_) z8_21_ rfl rfl (an_ T_) (fun _ _ _ h => h) (Or.inl ⟨by rfl, ?_⟩) ?_ ?_
          rotate_left; · intro w'; go_simp; with_reducible rfl
          rotate_left; · simp only [Act.put, sa_, sb_, sc_, i64_w, i32_w]; rfl
          refine pure_ (i := 10) (N := some 71) (v := ?_) (a' := ?_) z8_22_ rfl rfl (an_ T_) (fun _ _ _ h => h) (Or.inl ⟨by rfl, ?_⟩) ?_ ?_
          rotate_left; · intro w'; go_simp; with_reducible rfl
          rotate_left; · simp only [Act.put, sa_, sb_, sc_, i64_w, i32_w]; rfl
          refine take_ (i := 8) (N := some 69) (v := ?_) (a' := ?_) z8_23_ rfl rfl (tk_ T_ W_) (fun _ _ _ h => h) (Or.inl ⟨by rfl, ?_⟩) hL ?_ ?_
          rotate_left
          ·rintro w' ⟨s0, s1, s2, s3, s4, s5, s6, s7, s8, s9, s10, s11, s12, s13, s14, s15, s16, s17, s18, s19, s20, s21, s22, s23, s24, s25, s26, s27, s28, s29, s30, s31, s32, s33, s34, s35, s36, s37, s38, s39, s40, s41, s42, s43, s44, s45⟩
           refine Eq.trans (load_cells_run (ty := 26) (p := .tmp 3) (g := g1076) (cs := #[.int .i64 t1080, .int .u8 t1081, .int .u8 t1082, .int .u8 t1083, .int .u8 t1084, .int .u8 t1085, .int .u8 t1086, .int .u8 t1087, .int .u8 t1088, .int .u8 t1089, .int .u8 t1090, .int .u8 t1091, .int .u8 t1092, .int .u8 t1093, .int .u8 t1094, .int .u8 t1095, .int .u8 t1096, .int .u8 t1097, .int .u8 t1098, .int .u8 t1099, .int .u8 t1100]) (by rfl) (by rfl) Tryd.underlying26 rfl (by kernel_rfl) (cl_cons s0 (cl_cons s1 (cl_cons s2 (cl_cons s3 (cl_cons s4 (cl_cons s5 (cl_cons s6 (cl_cons s7 (cl_cons s8 (cl_cons s9 (cl_cons s10 (cl_cons s11 (cl_cons s12 (cl_cons s13 (cl_cons s14 (cl_cons s15 (cl_cons s16 (cl_cons s17 (cl_cons s18 (cl_cons s19 (cl_cons s20 (cl_nil _ _ _))))))))))))))))))))))) ?_
           with_reducible rfl
          rotate_left
          ·simp only [Act.put, sa_, sb_, sc_, i64_w, i32_w]
           rfl
          refine take_ (i := 11) (N := some 72) (v := ?_) (a' := ?_) z8_24_ rfl rfl (tk_ T_ W_) (fun _ _ _ h => h) (Or.inl ⟨by rfl, ?_⟩) hL ?_ ?_
          rotate_left
          ·rintro w' ⟨s0, s1, s2, s3, s4, s5, s6, s7, s8, s9, s10, s11, s12, s13, s14, s15, s16, s17, s18, s19, s20, s21, s22, s23, s24, s25, s26, s27, s28, s29, s30, s31, s32, s33, s34, s35, s36, s37, s38, s39, s40, s41, s42, s43, s44, s45⟩
           go_simp
           with_reducible rfl
          rotate_left
          ·simp only [Act.put, sa_, sb_, sc_, i64_w, i32_w]
           rfl
          refine pure_ (i := 12) (N := some 73) (v := ?_) (a' := ?_) z8_25_ rfl rfl (an_ T_) (fun _ _ _ h => h) (Or.inl ⟨by rfl, ?_⟩) ?_ ?_
          rotate_left; · intro w'; go_simp; with_reducible rfl
          rotate_left; · simp only [Act.put, sa_, sb_, sc_, i64_w, i32_w]; rfl
          refine one_ (i := 9) (N := some 70) z8_26_ rfl rfl (on_ T_) (by decide) (fun K hK => ?_)
          refine goes_ Tryd.func16 (by kernel_rfl) rfl #[.slice Ao12 t1077.length co12, .agg #[.int .i64 t1080, .int .u8 t1081, .int .u8 t1082, .int .u8 t1083, .int .u8 t1084, .int .u8 t1085, .int .u8 t1086, .int .u8 t1087, .int .u8 t1088, .int .u8 t1089, .int .u8 t1090, .int .u8 t1091, .int .u8 t1092, .int .u8 t1093, .int .u8 t1094, .int .u8 t1095, .int .u8 t1096, .int .u8 t1097, .int .u8 t1098, .int .u8 t1099, .int .u8 t1100]] (by rfl) rfl rfl (by (try simp only [List.map_toArray, List.map_cons, List.map_nil]); first | done | rfl | (go_simp; done)) ?_
          with_reducible refine (machine_Halted.calls k1 _ _ t1077 t1080 t1081 t1082 t1083 t1084 t1085 t1086 t1087 t1088 t1089 t1090 t1091 t1092 t1093 t1094 t1095 t1096 t1097 t1098 t1099 t1100 t1135 _ ?side1 ?side2 ?side3 A39.out).mono ?_
          (case side1 => repeat (first | exact (Kd.R_reads' HO_0.out).2.2 | (with_reducible refine Kd.C_alloc ?_ _) | (with_reducible refine Kd.C_drewN ?_ _) | (with_reducible refine Kd.C_drew ?_)))
          (case side2 => exact (Kd.R_reads' HO_0.out).2.1)
          (case side3 => repeat (first | exact (GL.below HRG.out HB.out) | (with_reducible refine GL.alloc ?_ _) | (with_reducible refine GL.drewN ?_ _) | (with_reducible refine GL.drew ?_)))
          rintro e w43 ⟨rfl, hb⟩
          refine ⟨_, rfl, ?_⟩
          have n0_ := Aside0.mk (Kd.R_below (by (with_reducible repeat (first | apply Kd.R_alloc | apply Kd.R_drewN | apply Kd.R_drew)); exact HO_0.out) hb)
          have n1_ := Aside0.mk (Kd.R_below (by (with_reducible repeat (first | apply Kd.R_alloc | apply Kd.R_drewN | apply Kd.R_drew)); exact HO_9.out) hb)
          have n2_ := Aside0.mk (blk_below (g := g1076) (o := .cells #[.int .i64 t1080, .int .u8 t1081, .int .u8 t1082, .int .u8 t1083, .int .u8 t1084, .int .u8 t1085, .int .u8 t1086, .int .u8 t1087, .int .u8 t1088, .int .u8 t1089, .int .u8 t1090, .int .u8 t1091, .int .u8 t1092, .int .u8 t1093, .int .u8 t1094, .int .u8 t1095, .int .u8 t1096, .int .u8 t1097, .int .u8 t1098, .int .u8 t1099, .int .u8 t1100] 26 (0, 0)) (by exact B1076.out) hb)
          have n3_ := Aside0.mk (blk_below (g := g1123) (o := .cells #[.int .i64 t1101, .int .u8 t1102, .int .u8 t1103, .int .u8 t1104, .int .u8 t1105, .int .u8 t1106, .int .u8 t1107, .int .u8 t1108, .int .u8 t1109, .int .u8 t1110, .int .u8 t1111, .int .u8 t1112, .int .u8 t1113, .int .u8 t1114, .int .u8 t1115, .int .u8 t1116, .int .u8 t1117, .int .u8 t1118, .int .u8 t1119, .int .u8 t1120, .int .u8 t1121] 26 (0, 0)) (by exact B1123.out) hb)
          have n4_ := Aside0.mk (blk_below (g := g1130) (o := .cells #[.int .u8 t1126, .int .u8 t1127, .int .u8 t1128, .int .u8 t1129] 47 (0, 0)) (by exact B1130.out) hb)
          have n5_ := Aside0.mk (below_step (by repeat (first | (with_reducible first | exact HB.out | apply below_alloc | apply pw_below_drewN | apply below_drew1 | refine below_set ?_ GE1076.out | refine below_set ?_ GE1123.out | refine below_set ?_ GE1130.out) | exact HB.out)) hb)
          clear HO_0
          clear HO_9
          clear B1076
          clear B1123
          clear B1130
          clear HB
          have HO_0 := n0_
          have HO_9 := n1_
          have B1076 := n2_
          have B1123 := n3_
          have B1130 := n4_
          have HB := n5_
          clear n0_ n1_ n2_ n3_ n4_ n5_
          (try clear hb)
          (try clear hb2)
          (try clear hk)
          (try clear hi)
          refine hK.out _ _ ⟨bq_ B1076 0, bq_ B1076 1, bq_ B1076 2, bq_ B1076 3, bq_ B1076 4, bq_ B1076 5, bq_ B1076 6, bq_ B1076 7, bq_ B1076 8, bq_ B1076 9, bq_ B1076 10, bq_ B1076 11, bq_ B1076 12, bq_ B1076 13, bq_ B1076 14, bq_ B1076 15, bq_ B1076 16, bq_ B1076 17, bq_ B1076 18, bq_ B1076 19, bq_ B1076 20, bq_ B1130 0, bq_ B1130 1, bq_ B1130 2, bq_ B1130 3, bq_ B1123 0, bq_ B1123 1, bq_ B1123 2, bq_ B1123 3, bq_ B1123 4, bq_ B1123 5, bq_ B1123 6, bq_ B1123 7, bq_ B1123 8, bq_ B1123 9, bq_ B1123 10, bq_ B1123 11, bq_ B1123 12, bq_ B1123 13, bq_ B1123 14, bq_ B1123 15, bq_ B1123 16, bq_ B1123 17, bq_ B1123 18, bq_ B1123 19, bq_ B1123 20⟩ (fun hL => ?_)
          clear hK K
          refine norm_ (a' := ?_) ?_ ?_
          rotate_left
          ·show Act.put _ (some 70) _ = _
           simp only [Act.put, sa_, sb_, sc_, i64_w, i32_w]
           rfl
          refine pure_ (i := 13) (N := some 74) (v := ?_) (a' := ?_) z8_27_ rfl rfl (an_ T_) (fun _ _ _ h => h) (Or.inl ⟨by rfl, ?_⟩) ?_ ?_
          rotate_left; · intro w'; go_simp; with_reducible rfl
          rotate_left; · simp only [Act.put, sa_, sb_, sc_, i64_w, i32_w]; rfl
          refine pure_ (i := 14) (N := some 75) (v := ?_) (a' := ?_) z8_28_ rfl rfl (an_ T_) (fun _ _ _ h => h) (Or.inl ⟨by rfl, ?_⟩) ?_ ?_
          rotate_left; · intro w'; go_simp; with_reducible rfl
          rotate_left; · simp only [Act.put, sa_, sb_, sc_, i64_w, i32_w]; rfl
          refine pure_ (i := 15) (N := some 76) (v := ?_) (a' := ?_) z8_29_ rfl rfl (an_ T_) (fun _ _ _ h => h) (Or.inl ⟨by rfl, ?_⟩) ?_ ?_
          rotate_left; · intro w'; go_simp; with_reducible rfl
          rotate_left; · simp only [Act.put, sa_, sb_, sc_, i64_w, i32_w]; rfl
          refine pure_ (i := 16) (N := some 77) (v := ?_) (a' := ?_) z8_30_ rfl rfl (an_ T_) (fun _ _ _ h => h) (Or.inl ⟨by rfl, ?_⟩) ?_ ?_
          rotate_left; · intro w'; go_simp; with_reducible rfl
          rotate_left; · simp only [Act.put, sa_, sb_, sc_, i64_w, i32_w]; rfl
          refine take_ (i := 17) (N := some 78) (v := ?_) (a' := ?_) z8_31_ rfl rfl (tk_ T_ W_) (fun _ _ _ h => h) (Or.inl ⟨by rfl, ?_⟩) hL ?_ ?_
          rotate_left
          ·rintro w' ⟨s0, s1, s2, s3, s4, s5, s6, s7, s8, s9, s10, s11, s12, s13, s14, s15, s16, s17, s18, s19, s20, s21, s22, s23, s24, s25, s26, s27, s28, s29, s30, s31, s32, s33, s34, s35, s36, s37, s38, s39, s40, s41, s42, s43, s44, s45⟩
           go_simp
           with_reducible rfl
          rotate_left
          ·simp only [Act.put, sa_, sb_, sc_, i64_w, i32_w]
           rfl
          refine pure_ (i := 18) (N := some 79) (v := ?_) (a' := ?_) z8_32_ rfl rfl (an_ T_) (fun _ _ _ h => h) (Or.inl ⟨by rfl, ?_⟩) ?_ ?_
          rotate_left; · intro w'; go_simp; with_reducible rfl
          rotate_left; · simp only [Act.put, sa_, sb_, sc_, i64_w, i32_w]; rfl
          refine pure_ (i := 19) (N := some 80) (v := ?_) (a' := ?_) z8_33_ rfl rfl (an_ T_) (fun _ _ _ h => h) (Or.inl ⟨by rfl, ?_⟩) ?_ ?_
          rotate_left; · intro w'; go_simp; with_reducible rfl
          rotate_left; · simp only [Act.put, sa_, sb_, sc_, i64_w, i32_w]; rfl
          refine take_ (i := 20) (N := some 81) (v := ?_) (a' := ?_) z8_34_ rfl rfl (tk_ T_ W_) (fun _ _ _ h => h) (Or.inl ⟨by rfl, ?_⟩) hL ?_ ?_
          rotate_left
          ·rintro w' ⟨s0, s1, s2, s3, s4, s5, s6, s7, s8, s9, s10, s11, s12, s13, s14, s15, s16, s17, s18, s19, s20, s21, s22, s23, s24, s25, s26, s27, s28, s29, s30, s31, s32, s33, s34, s35, s36, s37, s38, s39, s40, s41, s42, s43, s44, s45⟩
           refine Eq.trans (load_cells_run (ty := 26) (p := .tmp 5) (g := g1123) (cs := #[.int .i64 t1101, .int .u8 t1102, .int .u8 t1103, .int .u8 t1104, .int .u8 t1105, .int .u8 t1106, .int .u8 t1107, .int .u8 t1108, .int .u8 t1109, .int .u8 t1110, .int .u8 t1111, .int .u8 t1112, .int .u8 t1113, .int .u8 t1114, .int .u8 t1115, .int .u8 t1116, .int .u8 t1117, .int .u8 t1118, .int .u8 t1119, .int .u8 t1120, .int .u8 t1121]) (by rfl) (by rfl) Tryd.underlying26 rfl (by kernel_rfl) (cl_cons s25 (cl_cons s26 (cl_cons s27 (cl_cons s28 (cl_cons s29 (cl_cons s30 (cl_cons s31 (cl_cons s32 (cl_cons s33 (cl_cons s34 (cl_cons s35 (cl_cons s36 (cl_cons s37 (cl_cons s38 (cl_cons s39 (cl_cons s40 (cl_cons s41 (cl_cons s42 (cl_cons s43 (cl_cons s44 (cl_cons s45 (cl_nil _ _ _))))))))))))))))))))))) ?_
           with_reducible rfl
          rotate_left
          ·simp only [Act.put, sa_, sb_, sc_, i64_w, i32_w]
           rfl
          refine take_ (i := 21) (N := some 82) (v := ?_) (a' := ?_) z8_35_ rfl rfl (tk_ T_ W_) (fun _ _ _ h => h) (Or.inl ⟨by rfl, ?_⟩) hL ?_ ?_
          rotate_left
          ·rintro w' ⟨s0, s1, s2, s3, s4, s5, s6, s7, s8, s9, s10, s11, s12, s13, s14, s15, s16, s17, s18, s19, s20, s21, s22, s23, s24, s25, s26, s27, s28, s29, s30, s31, s32, s33, s34, s35, s36, s37, s38, s39, s40, s41, s42, s43, s44, s45⟩
           refine Eq.trans (load_cells_run (ty := 26) (p := .tmp 3) (g := g1076) (cs := #[.int .i64 t1080, .int .u8 t1081, .int .u8 t1082, .int .u8 t1083, .int .u8 t1084, .int .u8 t1085, .int .u8 t1086, .int .u8 t1087, .int .u8 t1088, .int .u8 t1089, .int .u8 t1090, .int .u8 t1091, .int .u8 t1092, .int .u8 t1093, .int .u8 t1094, .int .u8 t1095, .int .u8 t1096, .int .u8 t1097, .int .u8 t1098, .int .u8 t1099, .int .u8 t1100]) (by rfl) (by rfl) Tryd.underlying26 rfl (by kernel_rfl) (cl_cons s0 (cl_cons s1 (cl_cons s2 (cl_cons s3 (cl_cons s4 (cl_cons s5 (cl_cons s6 (cl_cons s7 (cl_cons s8 (cl_cons s9 (cl_cons s10 (cl_cons s11 (cl_cons s12 (cl_cons s13 (cl_cons s14 (cl_cons s15 (cl_cons s16 (cl_cons s17 (cl_cons s18 (cl_cons s19 (cl_cons s20 (cl_nil _ _ _))))))))))))))))))))))) ?_
           with_reducible rfl
          rotate_left
          ·simp only [Act.put, sa_, sb_, sc_, i64_w, i32_w]
           rfl
          refine pure_ (i := 22) (N := some 83) (v := ?_) (a' := ?_) z8_36_ rfl rfl (an_ T_) (fun _ _ _ h => h) (Or.inl ⟨by rfl, ?_⟩) ?_ ?_
          rotate_left; · intro w'; go_simp; with_reducible rfl
          rotate_left; · simp only [Act.put, sa_, sb_, sc_, i64_w, i32_w]; rfl
          refine pure_ (i := 23) (N := some 84) (v := ?_) (a' := ?_) z8_37_ rfl rfl (an_ T_) (fun _ _ _ h => h) (Or.inl ⟨by rfl, ?_⟩) ?_ ?_
          rotate_left; · intro w'; go_simp; with_reducible rfl
          rotate_left; · simp only [Act.put, sa_, sb_, sc_, i64_w, i32_w]; rfl
          refine pure_ (i := 24) (N := some 85) (v := ?_) (a' := ?_) z8_38_ rfl rfl (an_ T_) (fun _ _ _ h => h) (Or.inl ⟨by rfl, ?_⟩) ?_ ?_
          rotate_left; · intro w'; go_simp; with_reducible rfl
          rotate_left; · simp only [Act.put, sa_, sb_, sc_, i64_w, i32_w]; rfl
          refine done_ (done_of T_.out (by kernel_rfl)) ?_
          try go_wp2
          go_meet
          case rel => exact ⟨_, ((!(t1101 == t1080) || ((!(t1102 == t1081) || (!(t1103 == t1082) || (!(t1104 == t1083) || (!(t1105 == t1084))))) || ((!(t1106 == t1085) || (!(t1107 == t1086) || (!(t1108 == t1087) || (!(t1109 == t1088) || (!(t1110 == t1089) || (!(t1111 == t1090) || (!(t1112 == t1091) || (!(t1113 == t1092) || (!(t1114 == t1093) || (!(t1115 == t1094) || (!(t1116 == t1095) || (!(t1117 == t1096) || (!(t1118 == t1097) || (!(t1119 == t1098) || (!(t1120 == t1099) || (!(t1121 == t1100))))))))))))))))))))), (by first | rfl | (simp; done) | (simp [*]; done) | (simp; rfl) | (simp; decide +kernel)), H', ⟨by have := HK1.out; first | omega | exact Nat.le_refl _⟩, ⟨by exact B1076.out⟩, ⟨by exact B1123.out⟩, ⟨by exact B1130.out⟩, ⟨by repeat (first | (with_reducible first | exact HB.out | apply below_alloc | apply pw_below_drewN | apply below_drew1 | refine below_set ?_ GE1076.out | refine below_set ?_ GE1123.out | refine below_set ?_ GE1130.out) | exact HB.out)⟩⟩
         ·rw [if_neg c41] at H
          have c41b0 : (t1126 == 0) = false := beq_eq_false_iff_ne.mpr c41
          have c41_settled : t1135 = false := by rw [c41b0] at c40b0; cases t1135 <;> first | rfl | exact absurd c40b0 (by decide)
          have c41b1 : (t1126 != 0) = true := bne_iff_ne.mpr c41
          have H' := Aside0.mk H
          clear H
          try go_wp2
          have n0_ := Aside0.mk (Kd.R_drew HO_0.out)
          have n1_ := Aside0.mk (Kd.R_drew HO_9.out)
          have n2_ := Aside0.mk (blk_drew B1076.out)
          have n3_ := Aside0.mk (blk_drew B1123.out)
          have n4_ := Aside0.mk (blk_drew B1130.out)
          have n5_ := Aside0.mk (below_drew1 HB.out)
          clear HO_0
          clear HO_9
          clear B1076
          clear B1123
          clear B1130
          clear HB
          have HO_0 := n0_
          have HO_9 := n1_
          have B1076 := n2_
          have B1123 := n3_
          have B1130 := n4_
          have HB := n5_
          clear n0_ n1_ n2_ n3_ n4_ n5_
          refine start_ (n := 25) (S := fun w' => w'.cell? ⟨g1076, 0, none⟩ = some (.int .i64 t1080) ∧ w'.cell? ⟨g1076, 1, none⟩ = some (.int .u8 t1081) ∧ w'.cell? ⟨g1076, 2, none⟩ = some (.int .u8 t1082) ∧ w'.cell? ⟨g1076, 3, none⟩ = some (.int .u8 t1083) ∧ w'.cell? ⟨g1076, 4, none⟩ = some (.int .u8 t1084) ∧ w'.cell? ⟨g1076, 5, none⟩ = some (.int .u8 t1085) ∧ w'.cell? ⟨g1076, 6, none⟩ = some (.int .u8 t1086) ∧ w'.cell? ⟨g1076, 7, none⟩ = some (.int .u8 t1087) ∧ w'.cell? ⟨g1076, 8, none⟩ = some (.int .u8 t1088) ∧ w'.cell? ⟨g1076, 9, none⟩ = some (.int .u8 t1089) ∧ w'.cell? ⟨g1076, 10, none⟩ = some (.int .u8 t1090) ∧ w'.cell? ⟨g1076, 11, none⟩ = some (.int .u8 t1091) ∧ w'.cell? ⟨g1076, 12, none⟩ = some (.int .u8 t1092) ∧ w'.cell? ⟨g1076, 13, none⟩ = some (.int .u8 t1093) ∧ w'.cell? ⟨g1076, 14, none⟩ = some (.int .u8 t1094) ∧ w'.cell? ⟨g1076, 15, none⟩ = some (.int .u8 t1095) ∧ w'.cell? ⟨g1076, 16, none⟩ = some (.int .u8 t1096) ∧ w'.cell? ⟨g1076, 17, none⟩ = some (.int .u8 t1097) ∧ w'.cell? ⟨g1076, 18, none⟩ = some (.int .u8 t1098) ∧ w'.cell? ⟨g1076, 19, none⟩ = some (.int .u8 t1099) ∧ w'.cell? ⟨g1076, 20, none⟩ = some (.int .u8 t1100) ∧ w'.cell? ⟨g1130, 0, none⟩ = some (.int .u8 t1126) ∧ w'.cell? ⟨g1130, 1, none⟩ = some (.int .u8 t1127) ∧ w'.cell? ⟨g1130, 2, none⟩ = some (.int .u8 t1128) ∧ w'.cell? ⟨g1130, 3, none⟩ = some (.int .u8 t1129)) (ds := []) z8_13_ (by kernel_rfl) rfl rfl ⟨bq_ B1076 0, bq_ B1076 1, bq_ B1076 2, bq_ B1076 3, bq_ B1076 4, bq_ B1076 5, bq_ B1076 6, bq_ B1076 7, bq_ B1076 8, bq_ B1076 9, bq_ B1076 10, bq_ B1076 11, bq_ B1076 12, bq_ B1076 13, bq_ B1076 14, bq_ B1076 15, bq_ B1076 16, bq_ B1076 17, bq_ B1076 18, bq_ B1076 19, bq_ B1076 20, bq_ B1130 0, bq_ B1130 1, bq_ B1130 2, bq_ B1130 3⟩ (fun hL => ?_); refine with_tabW attestorlaw28_MachineChanges.tab13 attestorlaw28_MachineChanges.bits13 (fun T_ W_ => ?_)
          generalize wr.drew = w44 at HO_0 HO_9 B1076 B1123 B1130 HB hL ⊢
          refine pure_ (i := 0) (N := some 61) (v := ?_) (a' := ?_) z8_14_ rfl rfl (an_ T_) (fun _ _ _ h => h) (Or.inl ⟨by rfl, ?_⟩) ?_ ?_
          rotate_left; · intro w'; go_simp; with_reducible rfl
          rotate_left; · simp only [Act.put, sa_, sb_, sc_, i64_w, i32_w]; rfl
          refine pure_ (i := 1) (N := some 62) (v := ?_) (a' := ?_) z8_15_ rfl rfl (an_ T_) (fun _ _ _ h => h) (Or.inl ⟨by rfl, ?_⟩) ?_ ?_
          rotate_left; · intro w'; go_simp; with_reducible rfl
          rotate_left; · simp only [Act.put, sa_, sb_, sc_, i64_w, i32_w]; rfl
          refine pure_ (i := 2) (N := some 63) (v := ?_) (a' := ?_) z8_16_ rfl rfl (an_ T_) (fun _ _ _ h => h) (Or.inl ⟨by rfl, ?_⟩) ?_ ?_
          rotate_left; · intro w'; go_simp; with_reducible rfl
          rotate_left; · simp only [Act.put, sa_, sb_, sc_, i64_w, i32_w]; rfl
          refine pure_ (i := 3) (N := some 64) (v := ?_) (a' := ?_) z8_17_ rfl rfl (an_ T_) (fun _ _ _ h => h) (Or.inl ⟨by rfl, ?_⟩) ?_ ?_
          rotate_left; · intro w'; go_simp; with_reducible rfl
          rotate_left; · simp only [Act.put, sa_, sb_, sc_, i64_w, i32_w]; rfl
          refine pure_ (i := 4) (N := some 65) (v := ?_) (a' := ?_) z8_18_ rfl rfl (an_ T_) (fun _ _ _ h => h) (Or.inl ⟨by rfl, ?_⟩) ?_ ?_
          rotate_left; · intro w'; go_simp; with_reducible rfl
          rotate_left; · simp only [Act.put, sa_, sb_, sc_, i64_w, i32_w]; rfl
          refine pure_ (i := 5) (N := some 66) (v := ?_) (a' := ?_) z8_19_ rfl rfl (an_ T_) (fun _ _ _ h => h) (Or.inl ⟨by rfl, ?_⟩) ?_ ?_
          rotate_left; · intro w'; go_simp; with_reducible rfl
          rotate_left; · simp only [Act.put, sa_, sb_, sc_, i64_w, i32_w]; rfl
          refine pure_ (i := 6) (N := some 67) (v := ?_) (a' := ?_) z8_20_ rfl rfl (an_ T_) (fun _ _ _ h => h) (Or.inl ⟨by rfl, ?_⟩) ?_ ?_
          rotate_left; · intro w'; go_simp; with_reducible rfl
          rotate_left; · simp only [Act.put, sa_, sb_, sc_, i64_w, i32_w]; rfl
          refine pure_ (i := 7) (N := some 68) (v := ?_) (a' := ?_) z8_21_ rfl rfl (an_ T_) (fun _ _ _ h => h) (Or.inl ⟨by rfl, ?_⟩) ?_ ?_
          rotate_left; · intro w'; go_simp; with_reducible rfl
          rotate_left; · simp only [Act.put, sa_, sb_, sc_, i64_w, i32_w]; rfl
          refine pure_ (i := 10) (N := some 71) (v := ?_) (a' := ?_) z8_22_ rfl rfl (an_ T_) (fun _ _ _ h => h) (Or.inl ⟨by rfl, ?_⟩) ?_ ?_
          rotate_left; · intro w'; go_simp; with_reducible rfl
          rotate_left; · simp only [Act.put, sa_, sb_, sc_, i64_w, i32_w]; rfl
          refine take_ (i := 8) (N := some 69) (v := ?_) (a' := ?_) z8_23_ rfl rfl (tk_ T_ W_) (fun _ _ _ h => h) (Or.inl ⟨by rfl, ?_⟩) hL ?_ ?_
          rotate_left
          ·rintro w' ⟨s0, s1, s2, s3, s4, s5, s6, s7, s8, s9, s10, s11, s12, s13, s14, s15, s16, s17, s18, s19, s20, s21, s22, s23, s24⟩
           refine Eq.trans (load_cells_run (ty := 26) (p := .tmp 3) (g := g1076) (cs := #[.int .i64 t1080, .int .u8 t1081, .int .u8 t1082, .int .u8 t1083, .int .u8 t1084, .int .u8 t1085, .int .u8 t1086, .int .u8 t1087, .int .u8 t1088, .int .u8 t1089, .int .u8 t1090, .int .u8 t1091, .int .u8 t1092, .int .u8 t1093, .int .u8 t1094, .int .u8 t1095, .int .u8 t1096, .int .u8 t1097, .int .u8 t1098, .int .u8 t1099, .int .u8 t1100]) (by rfl) (by rfl) Tryd.underlying26 rfl (by kernel_rfl) (cl_cons s0 (cl_cons s1 (cl_cons s2 (cl_cons s3 (cl_cons s4 (cl_cons s5 (cl_cons s6 (cl_cons s7 (cl_cons s8 (cl_cons s9 (cl_cons s10 (cl_cons s11 (cl_cons s12 (cl_cons s13 (cl_cons s14 (cl_cons s15 (cl_cons s16 (cl_cons s17 (cl_cons s18 (cl_cons s19 (cl_cons s20 (cl_nil _ _ _))))))))))))))))))))))) ?_
           with_reducible rfl
          rotate_left
          ·simp only [Act.put, sa_, sb_, sc_, i64_w, i32_w]
           rfl
          refine take_ (i := 11) (N := some 72) (v := ?_) (a' := ?_) z8_24_ rfl rfl (tk_ T_ W_) (fun _ _ _ h => h) (Or.inl ⟨by rfl, ?_⟩) hL ?_ ?_
          rotate_left
          ·rintro w' ⟨s0, s1, s2, s3, s4, s5, s6, s7, s8, s9, s10, s11, s12, s13, s14, s15, s16, s17, s18, s19, s20, s21, s22, s23, s24⟩
           go_simp
           with_reducible rfl
          rotate_left
          ·simp only [Act.put, sa_, sb_, sc_, i64_w, i32_w]
           rfl
          refine pure_ (i := 12) (N := some 73) (v := ?_) (a' := ?_) z8_25_ rfl rfl (an_ T_) (fun _ _ _ h => h) (Or.inl ⟨by rfl, ?_⟩) ?_ ?_
          rotate_left; · intro w'; go_simp; with_reducible rfl
          rotate_left; · simp only [Act.put, sa_, sb_, sc_, i64_w, i32_w]; rfl
          refine one_ (i := 9) (N := some 70) z8_26_ rfl rfl (on_ T_) (by decide) (fun K hK => ?_)
          refine goes_ Tryd.func16 (by kernel_rfl) rfl #[.slice Ao12 t1077.length co12, .agg #[.int .i64 t1080, .int .u8 t1081, .int .u8 t1082, .int .u8 t1083, .int .u8 t1084, .int .u8 t1085, .int .u8 t1086, .int .u8 t1087, .int .u8 t1088, .int .u8 t1089, .int .u8 t1090, .int .u8 t1091, .int .u8 t1092, .int .u8 t1093, .int .u8 t1094, .int .u8 t1095, .int .u8 t1096, .int .u8 t1097, .int .u8 t1098, .int .u8 t1099, .int .u8 t1100]] (by rfl) rfl rfl (by (try simp only [List.map_toArray, List.map_cons, List.map_nil]); first | done | rfl | (go_simp; done)) ?_
          with_reducible refine (machine_Halted.calls k1 _ _ t1077 t1080 t1081 t1082 t1083 t1084 t1085 t1086 t1087 t1088 t1089 t1090 t1091 t1092 t1093 t1094 t1095 t1096 t1097 t1098 t1099 t1100 t1135 _ ?side1 ?side2 ?side3 A39.out).mono ?_
          (case side1 => repeat (first | exact (Kd.R_reads' HO_0.out).2.2 | (with_reducible refine Kd.C_alloc ?_ _) | (with_reducible refine Kd.C_drewN ?_ _) | (with_reducible refine Kd.C_drew ?_)))
          (case side2 => exact (Kd.R_reads' HO_0.out).2.1)
          (case side3 => repeat (first | exact (GL.below HRG.out HB.out) | (with_reducible refine GL.alloc ?_ _) | (with_reducible refine GL.drewN ?_ _) | (with_reducible refine GL.drew ?_)))
          rintro e w45 ⟨rfl, hb⟩
          refine ⟨_, rfl, ?_⟩
          have n0_ := Aside0.mk (Kd.R_below (by (with_reducible repeat (first | apply Kd.R_alloc | apply Kd.R_drewN | apply Kd.R_drew)); exact HO_0.out) hb)
          have n1_ := Aside0.mk (Kd.R_below (by (with_reducible repeat (first | apply Kd.R_alloc | apply Kd.R_drewN | apply Kd.R_drew)); exact HO_9.out) hb)
          have n2_ := Aside0.mk (blk_below (g := g1076) (o := .cells #[.int .i64 t1080, .int .u8 t1081, .int .u8 t1082, .int .u8 t1083, .int .u8 t1084, .int .u8 t1085, .int .u8 t1086, .int .u8 t1087, .int .u8 t1088, .int .u8 t1089, .int .u8 t1090, .int .u8 t1091, .int .u8 t1092, .int .u8 t1093, .int .u8 t1094, .int .u8 t1095, .int .u8 t1096, .int .u8 t1097, .int .u8 t1098, .int .u8 t1099, .int .u8 t1100] 26 (0, 0)) (by exact B1076.out) hb)
          have n3_ := Aside0.mk (blk_below (g := g1123) (o := .cells #[.int .i64 t1101, .int .u8 t1102, .int .u8 t1103, .int .u8 t1104, .int .u8 t1105, .int .u8 t1106, .int .u8 t1107, .int .u8 t1108, .int .u8 t1109, .int .u8 t1110, .int .u8 t1111, .int .u8 t1112, .int .u8 t1113, .int .u8 t1114, .int .u8 t1115, .int .u8 t1116, .int .u8 t1117, .int .u8 t1118, .int .u8 t1119, .int .u8 t1120, .int .u8 t1121] 26 (0, 0)) (by exact B1123.out) hb)
          have n4_ := Aside0.mk (blk_below (g := g1130) (o := .cells #[.int .u8 t1126, .int .u8 t1127, .int .u8 t1128, .int .u8 t1129] 47 (0, 0)) (by exact B1130.out) hb)
          have n5_ := Aside0.mk (below_step (by repeat (first | (with_reducible first | exact HB.out | apply below_alloc | apply pw_below_drewN | apply below_drew1 | refine below_set ?_ GE1076.out | refine below_set ?_ GE1123.out | refine below_set ?_ GE1130.out) | exact HB.out)) hb)
          clear HO_0
          clear HO_9
          clear B1076
          clear B1123
          clear B1130
          clear HB
          have HO_0 := n0_
          have HO_9 := n1_
          have B1076 := n2_
          have B1123 := n3_
          have B1130 := n4_
          have HB := n5_
          clear n0_ n1_ n2_ n3_ n4_ n5_
          (try clear hb)
          (try clear hb2)
          (try clear hk)
          (try clear hi)
          refine hK.out _ _ ⟨bq_ B1076 0, bq_ B1076 1, bq_ B1076 2, bq_ B1076 3, bq_ B1076 4, bq_ B1076 5, bq_ B1076 6, bq_ B1076 7, bq_ B1076 8, bq_ B1076 9, bq_ B1076 10, bq_ B1076 11, bq_ B1076 12, bq_ B1076 13, bq_ B1076 14, bq_ B1076 15, bq_ B1076 16, bq_ B1076 17, bq_ B1076 18, bq_ B1076 19, bq_ B1076 20, bq_ B1130 0, bq_ B1130 1, bq_ B1130 2, bq_ B1130 3⟩ (fun hL => ?_)
          clear hK K
          refine norm_ (a' := ?_) ?_ ?_
          rotate_left
          ·show Act.put _ (some 70) _ = _
           simp only [Act.put, sa_, sb_, sc_, i64_w, i32_w]
           rfl
          refine pure_ (i := 13) (N := some 74) (v := ?_) (a' := ?_) z8_27_ rfl rfl (an_ T_) (fun _ _ _ h => h) (Or.inl ⟨by rfl, ?_⟩) ?_ ?_
          rotate_left; · intro w'; go_simp; with_reducible rfl
          rotate_left; · simp only [Act.put, sa_, sb_, sc_, i64_w, i32_w]; rfl
          refine pure_ (i := 14) (N := some 75) (v := ?_) (a' := ?_) z8_28_ rfl rfl (an_ T_) (fun _ _ _ h => h) (Or.inl ⟨by rfl, ?_⟩) ?_ ?_
          rotate_left; · intro w'; go_simp; with_reducible rfl
          rotate_left; · simp only [Act.put, sa_, sb_, sc_, i64_w, i32_w]; rfl
          refine pure_ (i := 15) (N := some 76) (v := ?_) (a' := ?_) z8_29_ rfl rfl (an_ T_) (fun _ _ _ h => h) (Or.inl ⟨by rfl, ?_⟩) ?_ ?_
          rotate_left; · intro w'; go_simp; with_reducible rfl
          rotate_left; · simp only [Act.put, sa_, sb_, sc_, i64_w, i32_w]; rfl
          refine pure_ (i := 16) (N := some 77) (v := ?_) (a' := ?_) z8_30_ rfl rfl (an_ T_) (fun _ _ _ h => h) (Or.inl ⟨by rfl, ?_⟩) ?_ ?_
          rotate_left; · intro w'; go_simp; with_reducible rfl
          rotate_left; · simp only [Act.put, sa_, sb_, sc_, i64_w, i32_w]; rfl
          refine take_ (i := 17) (N := some 78) (v := ?_) (a' := ?_) z8_31_ rfl rfl (tk_ T_ W_) (fun _ _ _ h => h) (Or.inl ⟨by rfl, ?_⟩) hL ?_ ?_
          rotate_left
          ·rintro w' ⟨s0, s1, s2, s3, s4, s5, s6, s7, s8, s9, s10, s11, s12, s13, s14, s15, s16, s17, s18, s19, s20, s21, s22, s23, s24⟩
           go_simp
           with_reducible rfl
          rotate_left
          ·simp only [Act.put, sa_, sb_, sc_, i64_w, i32_w]
           rfl
          refine pure_ (i := 18) (N := some 79) (v := ?_) (a' := ?_) z8_32_ rfl rfl (an_ T_) (fun _ _ _ h => h) (Or.inl ⟨by rfl, ?_⟩) ?_ ?_
          rotate_left; · intro w'; go_simp; with_reducible rfl
          rotate_left; · simp only [Act.put, sa_, sb_, sc_, i64_w, i32_w]; rfl
          refine pure_ (i := 19) (N := some 80) (v := ?_) (a' := ?_) z8_33_ rfl rfl (an_ T_) (fun _ _ _ h => h) (Or.inl ⟨by rfl, ?_⟩) ?_ ?_
          rotate_left; · intro w'; go_simp; with_reducible rfl
          rotate_left; · simp only [Act.put, sa_, sb_, sc_, i64_w, i32_w]; rfl
          refine pure_ (i := 20) (N := some 81) (v := undef) (a' := ?_) z8_34_ rfl rfl (an_ T_) (fun _ _ _ h => h) (Or.inr ⟨by rfl, rfl⟩) ?_ ?_
          rotate_left
          ·simp only [Act.put, sa_, sb_, sc_, i64_w, i32_w]
           rfl
          refine pure_ (i := 21) (N := some 82) (v := undef) (a' := ?_) z8_35_ rfl rfl (an_ T_) (fun _ _ _ h => h) (Or.inr ⟨by rfl, rfl⟩) ?_ ?_
          rotate_left
          ·simp only [Act.put, sa_, sb_, sc_, i64_w, i32_w]
           rfl
          refine pure_ (i := 22) (N := some 83) (v := undef) (a' := ?_) z8_36_ rfl rfl (an_ T_) (fun _ _ _ h => h) (Or.inr ⟨by rfl, rfl⟩) ?_ ?_
          rotate_left
          ·simp only [Act.put, sa_, sb_, sc_, i64_w, i32_w]
           rfl
          refine pure_ (i := 23) (N := some 84) (v := ?_) (a' := ?_) z8_37_ rfl rfl (an_ T_) (fun _ _ _ h => h) (Or.inl ⟨by rfl, ?_⟩) ?_ ?_
          rotate_left; · intro w'; go_simp; with_reducible rfl
          rotate_left; · simp only [Act.put, sa_, sb_, sc_, i64_w, i32_w]; rfl
          refine pure_ (i := 24) (N := some 85) (v := ?_) (a' := ?_) z8_38_ rfl rfl (an_ T_) (fun _ _ _ h => h) (Or.inl ⟨by rfl, ?_⟩) ?_ ?_
          rotate_left; · intro w'; go_simp; with_reducible rfl
          rotate_left; · simp only [Act.put, sa_, sb_, sc_, i64_w, i32_w]; rfl
          refine done_ (done_of T_.out (by kernel_rfl)) ?_
          try go_wp2
          go_meet
          case rel => exact ⟨_, (false), (by first | rfl | (simp; done) | (simp [*]; done) | (simp; rfl) | (simp; decide +kernel)), H', ⟨by have := HK1.out; first | omega | exact Nat.le_refl _⟩, ⟨by exact B1076.out⟩, ⟨by exact B1123.out⟩, ⟨by exact B1130.out⟩, ⟨by repeat (first | (with_reducible first | exact HB.out | apply below_alloc | apply pw_below_drewN | apply below_drew1 | refine below_set ?_ GE1076.out | refine below_set ?_ GE1123.out | refine below_set ?_ GE1130.out) | exact HB.out)⟩⟩
       ·replace c38 := Bool.eq_false_iff.mpr c38
        subst c38
        have H1 : (none) = some r := by rw [if_neg (show ¬ (false = true) by decide)] at H; exact H
        clear H
        have H := H1
        clear H1
        exact absurd H (by simp)
      ·rw [if_neg c37] at H
       exact absurd H (by simp)
     case rest =>
      clear HC35
      try clear c1
      try clear c2
      try clear p2
      try clear c3
      try clear c4
      try clear p6
      try clear c16
      try clear c28
      try clear c28b0
      try clear c32
      try clear c37
      try clear c37b0
      try clear c37b1
      try clear c38
      try clear c40
      try clear c40b0
      try clear c40b1
      try clear c40b2
      try clear c41
      try clear c41b0
      try clear c41b1
      obtain ⟨kq, x85_34, rfl, HA, HJ34, B1076, B1123, B1130, HB⟩ := hcut
      cases kq with
      | zero => exact absurd HA.out (by simp [attestorlaw28_MachineChanges.j1])
      | succ kj34 =>
       have H := HA.out
       clear HA
       simp only [attestorlaw28_MachineChanges.j1] at H
       by_cases c46 : x85_34 = true
       ·subst c46
        have H1 : (none) = some r := by rw [if_pos rfl] at H; exact H
        clear H
        have H := H1
        clear H1
        exact absurd H (by simp)
       ·replace c46 := Bool.eq_false_iff.mpr c46
        subst c46
        have H1 : (attestorlaw28_MachineChanges.l1 kj34 0 t1080 t1081 t1082 t1083 t1084 t1085 t1086 t1087 t1088 t1089 t1090 t1091 t1092 t1093 t1094 t1095 t1096 t1097 t1098 t1099 t1100 t1101 t1102 t1103 t1104 t1105 t1106 t1107 t1108 t1109 t1110 t1111 t1112 t1113 t1114 t1115 t1116 t1117 t1118 t1119 t1120 t1121 t1126 t1127 t1128 t1129) = some r := by rw [if_neg (show ¬ (false = true) by decide)] at H; exact H
        clear H
        have H := H1
        clear H1
        have H' := Aside0.mk H
        clear H
        go_wp2
        go_loopg [11] kj34 (fun kq v11 w' => ∃ (x11_3 : Int), v11 = .int .i64 x11_3 ∧ Aside0 (attestorlaw28_MachineChanges.l1 kq x11_3 t1080 t1081 t1082 t1083 t1084 t1085 t1086 t1087 t1088 t1089 t1090 t1091 t1092 t1093 t1094 t1095 t1096 t1097 t1098 t1099 t1100 t1101 t1102 t1103 t1104 t1105 t1106 t1107 t1108 t1109 t1110 t1111 t1112 t1113 t1114 t1115 t1116 t1117 t1118 t1119 t1120 t1121 t1126 t1127 t1128 t1129 = some r) ∧ Aside0 (kq ≤ kj34) ∧ Aside0 (w'.heap[g1076]? = some (.cells #[.int .i64 t1080, .int .u8 t1081, .int .u8 t1082, .int .u8 t1083, .int .u8 t1084, .int .u8 t1085, .int .u8 t1086, .int .u8 t1087, .int .u8 t1088, .int .u8 t1089, .int .u8 t1090, .int .u8 t1091, .int .u8 t1092, .int .u8 t1093, .int .u8 t1094, .int .u8 t1095, .int .u8 t1096, .int .u8 t1097, .int .u8 t1098, .int .u8 t1099, .int .u8 t1100] 26 (0, 0))) ∧ Aside0 (w'.heap[g1123]? = some (.cells #[.int .i64 t1101, .int .u8 t1102, .int .u8 t1103, .int .u8 t1104, .int .u8 t1105, .int .u8 t1106, .int .u8 t1107, .int .u8 t1108, .int .u8 t1109, .int .u8 t1110, .int .u8 t1111, .int .u8 t1112, .int .u8 t1113, .int .u8 t1114, .int .u8 t1115, .int .u8 t1116, .int .u8 t1117, .int .u8 t1118, .int .u8 t1119, .int .u8 t1120, .int .u8 t1121] 26 (0, 0))) ∧ Aside0 (w'.heap[g1130]? = some (.cells #[.int .u8 t1126, .int .u8 t1127, .int .u8 t1128, .int .u8 t1129] 47 (0, 0))) ∧ Aside0 (Below w.heap.size w w'))
        case atStart => exact ⟨(0), (by first | rfl | (simp; done) | (simp [*]; done) | (simp; rfl) | (simp; decide +kernel)), H', ⟨Nat.le_refl _⟩, ⟨by exact B1076.out⟩, ⟨by exact B1123.out⟩, ⟨by exact B1130.out⟩, ⟨by repeat (first | (with_reducible first | exact HB.out | apply below_alloc | apply pw_below_drewN | apply below_drew1 | refine below_set ?_ GE1076.out | refine below_set ?_ GE1123.out | refine below_set ?_ GE1130.out) | exact HB.out)⟩⟩
        case round =>
         clear H'
         try clear c1
         try clear c2
         try clear p2
         try clear c3
         try clear c4
         try clear p6
         try clear c16
         try clear c28
         try clear c28b0
         try clear c32
         try clear c37
         try clear c37b0
         try clear c37b1
         try clear c38
         try clear c40
         try clear c40b0
         try clear c40b1
         try clear c40b2
         try clear c41
         try clear c41b0
         try clear c41b1
         try clear c46
         try clear p2
         try clear p6
         obtain ⟨x11_3, rfl, HA, HK3, B1076, B1123, B1130, HB⟩ := hrel
         cases gk with
         | zero => exact absurd HA.out (by simp [attestorlaw28_MachineChanges.l1])
         | succ k3 =>
          have H := HA.out
          clear HA
          simp only [attestorlaw28_MachineChanges.l1] at H
          by_cases c47 : x11_3 < 4
          ·rw [if_pos c47] at H
           have c47b0 : decide (x11_3 < 4) = true := decide_eq_true c47
           clear c47
           by_cases c48 : 0 ≤ x11_3
           ·rw [if_pos c48] at H
            have c48b0 := eq_true c48
            have c48b1 : decide (0 ≤ x11_3) = true := decide_eq_true c48
            clear c48
            by_cases c49 : (rd ([t1102, t1103, t1104, t1105] : List Int) x11_3) = (rd ([t1081, t1082, t1083, t1084] : List Int) x11_3)
            ·rw [if_pos c49] at H
             have c49b0 : ((rd ([t1102, t1103, t1104, t1105] : List Int) x11_3) == (rd ([t1081, t1082, t1083, t1084] : List Int) x11_3)) = true := beq_iff_eq.mpr c49
             have c49b1 : ((rd ([t1102, t1103, t1104, t1105] : List Int) x11_3) != (rd ([t1081, t1082, t1083, t1084] : List Int) x11_3)) = false := bne_eq_false_iff_eq.mpr c49
             clear c49
             have H' := Aside0.mk H
             clear H
             try go_wp2
             have n0_ := Aside0.mk (blk_drew B1076.out)
             have n1_ := Aside0.mk (blk_drew B1123.out)
             have n2_ := Aside0.mk (blk_drew B1130.out)
             have n3_ := Aside0.mk (below_drew1 HB.out)
             clear B1076
             clear B1123
             clear B1130
             clear HB
             have B1076 := n0_
             have B1123 := n1_
             have B1130 := n2_
             have HB := n3_
             clear n0_ n1_ n2_ n3_
             have hlt51 : (x11_3 < 4) = True := eq_true (of_decide_eq_true (by first | (with_reducible assumption) | assumption))
             have hge52 : (0 ≤ x11_3) = True := eq_true (of_decide_eq_true (by first | (with_reducible assumption) | assumption))
             have hlt53 : (x11_3 < 4) = True := eq_true (of_decide_eq_true (by first | (with_reducible assumption) | assumption))
             have hge54 : (0 ≤ x11_3) = True := eq_true (of_decide_eq_true (by first | (with_reducible assumption) | assumption))
             refine start_ (n := 26) (S := fun w' => w'.cell? ⟨g1123, 1 + (x11_3).toNat, none⟩ = some (.int .u8 (rd ([t1102, t1103, t1104, t1105] : List Int) x11_3)) ∧ w'.cell? ⟨g1076, 1 + (x11_3).toNat, none⟩ = some (.int .u8 (rd ([t1081, t1082, t1083, t1084] : List Int) x11_3))) (ds := []) z8_39_ (by kernel_rfl) rfl rfl ⟨(sel_at (pre := [.int .i64 t1101]) (l := ([t1102, t1103, t1104, t1105] : List Int)) (post := [.int .u8 t1106, .int .u8 t1107, .int .u8 t1108, .int .u8 t1109, .int .u8 t1110, .int .u8 t1111, .int .u8 t1112, .int .u8 t1113, .int .u8 t1114, .int .u8 t1115, .int .u8 t1116, .int .u8 t1117, .int .u8 t1118, .int .u8 t1119, .int .u8 t1120, .int .u8 t1121]) B1123.out rfl (by simp) (of_decide_eq_true (by first | (with_reducible assumption) | assumption)) (of_decide_eq_true (by first | (with_reducible assumption) | assumption))), (sel_at (pre := [.int .i64 t1080]) (l := ([t1081, t1082, t1083, t1084] : List Int)) (post := [.int .u8 t1085, .int .u8 t1086, .int .u8 t1087, .int .u8 t1088, .int .u8 t1089, .int .u8 t1090, .int .u8 t1091, .int .u8 t1092, .int .u8 t1093, .int .u8 t1094, .int .u8 t1095, .int .u8 t1096, .int .u8 t1097, .int .u8 t1098, .int .u8 t1099, .int .u8 t1100]) B1076.out rfl (by simp) (of_decide_eq_true (by first | (with_reducible assumption) | assumption)) (of_decide_eq_true (by first | (with_reducible assumption) | assumption)))⟩ (fun hL => ?_); refine with_tabW attestorlaw28_MachineChanges.tab18 attestorlaw28_MachineChanges.bits18 (fun T_ W_ => ?_)
             generalize wr.drew = w50 at B1076 B1123 B1130 HB hL ⊢
             refine pure_ (i := 0) (N := some 90) (v := ?_) (a' := ?_) z8_40_ rfl rfl (an_ T_) (fun _ _ _ h => h) (Or.inl ⟨by rfl, ?_⟩) ?_ ?_
             rotate_left; · intro w'; go_simp; with_reducible rfl
             rotate_left; · simp only [Act.put, sa_, sb_, sc_, i64_w, i32_w]; rfl
             refine pure_ (i := 1) (N := some 91) (v := ?_) (a' := ?_) z8_41_ rfl rfl (an_ T_) (fun _ _ _ h => h) (Or.inl ⟨by rfl, ?_⟩) ?_ ?_
             rotate_left; · intro w'; go_simp; with_reducible rfl
             rotate_left; · simp only [Act.put, sa_, sb_, sc_, i64_w, i32_w]; rfl
             refine pure_ (i := 2) (N := some 92) (v := ?_) (a' := ?_) z8_42_ rfl rfl (an_ T_) (fun _ _ _ h => h) (Or.inl ⟨by rfl, ?_⟩) ?_ ?_
             rotate_left; · intro w'; go_simp; with_reducible rfl
             rotate_left; · simp only [Act.put, sa_, sb_, sc_, i64_w, i32_w]; rfl
             refine pure_ (i := 4) (N := some 94) (v := ?_) (a' := ?_) z8_43_ rfl rfl (an_ T_) (fun _ _ _ h => h) (Or.inl ⟨by rfl, ?_⟩) ?_ ?_
             rotate_left; · intro w'; go_simp; with_reducible rfl
             rotate_left; · simp only [Act.put, sa_, sb_, sc_, i64_w, i32_w]; rfl
             refine pure_ (i := 5) (N := some 95) (v := ?_) (a' := ?_) z8_44_ rfl rfl (an_ T_) (fun _ _ _ h => h) (Or.inl ⟨by rfl, ?_⟩) ?_ ?_
             rotate_left; · intro w'; go_simp; with_reducible rfl
             rotate_left; · simp only [Act.put, sa_, sb_, sc_, i64_w, i32_w]; rfl
             refine pure_ (i := 6) (N := some 96) (v := ?_) (a' := ?_) z8_45_ rfl rfl (an_ T_) (fun _ _ _ h => h) (Or.inl ⟨by rfl, ?_⟩) ?_ ?_
             rotate_left; · intro w'; go_simp; with_reducible rfl
             rotate_left; · simp only [Act.put, sa_, sb_, sc_, i64_w, i32_w]; rfl
             refine take_ (i := 3) (N := some 93) (v := ?_) (a' := ?_) z8_46_ rfl rfl (tk_ T_ W_) (fun _ _ _ h => h) (Or.inl ⟨by rfl, ?_⟩) hL ?_ ?_
             rotate_left
             ·rintro w' ⟨s0, s1⟩
              go_simp
              with_reducible rfl
             rotate_left
             ·simp only [Act.put, sa_, sb_, sc_, i64_w, i32_w]
              rfl
             refine take_ (i := 7) (N := some 97) (v := ?_) (a' := ?_) z8_47_ rfl rfl (tk_ T_ W_) (fun _ _ _ h => h) (Or.inl ⟨by rfl, ?_⟩) hL ?_ ?_
             rotate_left
             ·rintro w' ⟨s0, s1⟩
              go_simp
              with_reducible rfl
             rotate_left
             ·simp only [Act.put, sa_, sb_, sc_, i64_w, i32_w]
              rfl
             refine pure_ (i := 8) (N := some 98) (v := ?_) (a' := ?_) z8_48_ rfl rfl (an_ T_) (fun _ _ _ h => h) (Or.inl ⟨by rfl, ?_⟩) ?_ ?_
             rotate_left; · intro w'; go_simp; with_reducible rfl
             rotate_left; · simp only [Act.put, sa_, sb_, sc_, i64_w, i32_w]; rfl
             refine pure_ (i := 9) (N := some 99) (v := ?_) (a' := ?_) z8_49_ rfl rfl (an_ T_) (fun _ _ _ h => h) (Or.inl ⟨by rfl, ?_⟩) ?_ ?_
             rotate_left; · intro w'; go_simp; with_reducible rfl
             rotate_left; · simp only [Act.put, sa_, sb_, sc_, i64_w, i32_w]; rfl
             refine pure_ (i := 10) (N := some 100) (v := undef) (a' := ?_) z8_50_ rfl rfl (an_ T_) (fun _ _ _ h => h) (Or.inr ⟨by rfl, rfl⟩) ?_ ?_
             rotate_left
             ·simp only [Act.put, sa_, sb_, sc_, i64_w, i32_w]
              rfl
             refine pure_ (i := 11) (N := some 101) (v := undef) (a' := ?_) z8_51_ rfl rfl (an_ T_) (fun _ _ _ h => h) (Or.inr ⟨by rfl, rfl⟩) ?_ ?_
             rotate_left
             ·simp only [Act.put, sa_, sb_, sc_, i64_w, i32_w]
              rfl
             refine pure_ (i := 12) (N := some 102) (v := undef) (a' := ?_) z8_52_ rfl rfl (an_ T_) (fun _ _ _ h => h) (Or.inr ⟨by rfl, rfl⟩) ?_ ?_
             rotate_left
             ·simp only [Act.put, sa_, sb_, sc_, i64_w, i32_w]
              rfl
             refine pure_ (i := 13) (N := some 103) (v := undef) (a' := ?_) z8_53_ rfl rfl (an_ T_) (fun _ _ _ h => h) (Or.inr ⟨by rfl, rfl⟩) ?_ ?_
             rotate_left
             ·simp only [Act.put, sa_, sb_, sc_, i64_w, i32_w]
              rfl
             refine pure_ (i := 14) (N := some 104) (v := undef) (a' := ?_) z8_54_ rfl rfl (an_ T_) (fun _ _ _ h => h) (Or.inr ⟨by rfl, rfl⟩) ?_ ?_
             rotate_left
             ·simp only [Act.put, sa_, sb_, sc_, i64_w, i32_w]
              rfl
             refine pure_ (i := 15) (N := some 105) (v := undef) (a' := ?_) z8_55_ rfl rfl (an_ T_) (fun _ _ _ h => h) (Or.inr ⟨by rfl, rfl⟩) ?_ ?_
             rotate_left
             ·simp only [Act.put, sa_, sb_, sc_, i64_w, i32_w]
              rfl
             refine pure_ (i := 16) (N := some 106) (v := undef) (a' := ?_) z8_56_ rfl rfl (an_ T_) (fun _ _ _ h => h) (Or.inr ⟨by rfl, rfl⟩) ?_ ?_
             rotate_left
             ·simp only [Act.put, sa_, sb_, sc_, i64_w, i32_w]
              rfl
             refine pure_ (i := 17) (N := some 107) (v := undef) (a' := ?_) z8_57_ rfl rfl (an_ T_) (fun _ _ _ h => h) (Or.inr ⟨by rfl, rfl⟩) ?_ ?_
             rotate_left
             ·simp only [Act.put, sa_, sb_, sc_, i64_w, i32_w]
              rfl
             refine pure_ (i := 18) (N := some 108) (v := undef) (a' := ?_) z8_58_ rfl rfl (an_ T_) (fun _ _ _ h => h) (Or.inr ⟨by rfl, rfl⟩) ?_ ?_
             rotate_left
             ·simp only [Act.put, sa_, sb_, sc_, i64_w, i32_w]
              rfl
             refine pure_ (i := 19) (N := some 109) (v := undef) (a' := ?_) z8_59_ rfl rfl (an_ T_) (fun _ _ _ h => h) (Or.inr ⟨by rfl, rfl⟩) ?_ ?_
             rotate_left
             ·simp only [Act.put, sa_, sb_, sc_, i64_w, i32_w]
              rfl
             refine pure_ (i := 20) (N := some 110) (v := undef) (a' := ?_) z8_60_ rfl rfl (an_ T_) (fun _ _ _ h => h) (Or.inr ⟨by rfl, rfl⟩) ?_ ?_
             rotate_left
             ·simp only [Act.put, sa_, sb_, sc_, i64_w, i32_w]
              rfl
             refine pure_ (i := 21) (N := some 111) (v := undef) (a' := ?_) z8_61_ rfl rfl (an_ T_) (fun _ _ _ h => h) (Or.inr ⟨by rfl, rfl⟩) ?_ ?_
             rotate_left
             ·simp only [Act.put, sa_, sb_, sc_, i64_w, i32_w]
              rfl
             refine pure_ (i := 22) (N := some 112) (v := undef) (a' := ?_) z8_62_ rfl rfl (an_ T_) (fun _ _ _ h => h) (Or.inr ⟨by rfl, rfl⟩) ?_ ?_
             rotate_left
             ·simp only [Act.put, sa_, sb_, sc_, i64_w, i32_w]
              rfl
             refine pure_ (i := 23) (N := some 113) (v := undef) (a' := ?_) z8_63_ rfl rfl (an_ T_) (fun _ _ _ h => h) (Or.inr ⟨by rfl, rfl⟩) ?_ ?_
             rotate_left
             ·simp only [Act.put, sa_, sb_, sc_, i64_w, i32_w]
              rfl
             refine pure_ (i := 24) (N := some 114) (v := undef) (a' := ?_) z8_64_ rfl rfl (an_ T_) (fun _ _ _ h => h) (Or.inr ⟨by rfl, rfl⟩) ?_ ?_
             rotate_left
             ·simp only [Act.put, sa_, sb_, sc_, i64_w, i32_w]
              rfl
             refine pure_ (i := 25) (N := some 115) (v := ?_) (a' := ?_) z8_65_ rfl rfl (an_ T_) (fun _ _ _ h => h) (Or.inl ⟨by rfl, ?_⟩) ?_ ?_
             rotate_left; · intro w'; go_simp; with_reducible rfl
             rotate_left; · simp only [Act.put, sa_, sb_, sc_, i64_w, i32_w]; rfl
             refine done_ (done_of T_.out (by kernel_rfl)) ?_
             try go_wp2
             go_roundg k3
             case measure => have := HK1.out; have := HJ34.out; have := HK3.out; omega
             case rel => exact ⟨(wrap64 (x11_3 + 1)), (by first | rfl | (simp; done) | (simp [*]; done) | (simp; rfl) | (simp; decide +kernel)), H', ⟨by have := HK1.out; have := HJ34.out; have := HK3.out; omega⟩, ⟨by exact B1076.out⟩, ⟨by exact B1123.out⟩, ⟨by exact B1130.out⟩, ⟨by repeat (first | (with_reducible first | exact HB.out | apply below_alloc | apply pw_below_drewN | apply below_drew1 | refine below_set ?_ GE1076.out | refine below_set ?_ GE1123.out | refine below_set ?_ GE1130.out) | exact HB.out)⟩⟩
            ·rw [if_neg c49] at H
             have c49b0 : ((rd ([t1102, t1103, t1104, t1105] : List Int) x11_3) == (rd ([t1081, t1082, t1083, t1084] : List Int) x11_3)) = false := beq_eq_false_iff_ne.mpr c49
             have c49b1 : ((rd ([t1102, t1103, t1104, t1105] : List Int) x11_3) != (rd ([t1081, t1082, t1083, t1084] : List Int) x11_3)) = true := bne_iff_ne.mpr c49
             by_cases c55 : x11_3 = (wrap64 (t1127))
             ·rw [if_pos c55] at H
              have c55b0 : (x11_3 == (wrap64 (t1127))) = true := beq_iff_eq.mpr c55
              have c55b1 : (x11_3 != (wrap64 (t1127))) = false := bne_eq_false_iff_eq.mpr c55
              clear c55
              by_cases c56 : t1126 < 1
              ·rw [if_pos c56] at H
               exact absurd H (by simp)
              ·rw [if_neg c56] at H
               have c56b0 : decide (t1126 < 1) = false := decide_eq_false c56
               clear c56
               by_cases c57 : t1126 > 6
               ·rw [if_pos c57] at H
                exact absurd H (by simp)
               ·rw [if_neg c57] at H
                have c57b0 : decide (6 < t1126) = false := decide_eq_false c57
                clear c57
                have H' := Aside0.mk H
                clear H
                try go_wp2
                have n0_ := Aside0.mk (blk_drew B1076.out)
                have n1_ := Aside0.mk (blk_drew B1123.out)
                have n2_ := Aside0.mk (blk_drew B1130.out)
                have n3_ := Aside0.mk (below_drew1 HB.out)
                clear B1076
                clear B1123
                clear B1130
                clear HB
                have B1076 := n0_
                have B1123 := n1_
                have B1130 := n2_
                have HB := n3_
                clear n0_ n1_ n2_ n3_
                have hlt59 : (x11_3 < 4) = True := eq_true (of_decide_eq_true (by first | (with_reducible assumption) | assumption))
                have hge60 : (0 ≤ x11_3) = True := eq_true (of_decide_eq_true (by first | (with_reducible assumption) | assumption))
                have hlt61 : (x11_3 < 4) = True := eq_true (of_decide_eq_true (by first | (with_reducible assumption) | assumption))
                have hge62 : (0 ≤ x11_3) = True := eq_true (of_decide_eq_true (by first | (with_reducible assumption) | assumption))
                refine start_ (n := 26) (S := fun w' => w'.cell? ⟨g1130, 0, none⟩ = some (.int .u8 t1126) ∧ w'.cell? ⟨g1130, 1, none⟩ = some (.int .u8 t1127) ∧ w'.cell? ⟨g1130, 2, none⟩ = some (.int .u8 t1128) ∧ w'.cell? ⟨g1130, 3, none⟩ = some (.int .u8 t1129) ∧ w'.cell? ⟨g1123, 1 + (x11_3).toNat, none⟩ = some (.int .u8 (rd ([t1102, t1103, t1104, t1105] : List Int) x11_3)) ∧ w'.cell? ⟨g1076, 1 + (x11_3).toNat, none⟩ = some (.int .u8 (rd ([t1081, t1082, t1083, t1084] : List Int) x11_3))) (ds := []) z8_39_ (by kernel_rfl) rfl rfl ⟨bq_ B1130 0, bq_ B1130 1, bq_ B1130 2, bq_ B1130 3, (sel_at (pre := [.int .i64 t1101]) (l := ([t1102, t1103, t1104, t1105] : List Int)) (post := [.int .u8 t1106, .int .u8 t1107, .int .u8 t1108, .int .u8 t1109, .int .u8 t1110, .int .u8 t1111, .int .u8 t1112, .int .u8 t1113, .int .u8 t1114, .int .u8 t1115, .int .u8 t1116, .int .u8 t1117, .int .u8 t1118, .int .u8 t1119, .int .u8 t1120, .int .u8 t1121]) B1123.out rfl (by simp) (of_decide_eq_true (by first | (with_reducible assumption) | assumption)) (of_decide_eq_true (by first | (with_reducible assumption) | assumption))), (sel_at (pre := [.int .i64 t1080]) (l := ([t1081, t1082, t1083, t1084] : List Int)) (post := [.int .u8 t1085, .int .u8 t1086, .int .u8 t1087, .int .u8 t1088, .int .u8 t1089, .int .u8 t1090, .int .u8 t1091, .int .u8 t1092, .int .u8 t1093, .int .u8 t1094, .int .u8 t1095, .int .u8 t1096, .int .u8 t1097, .int .u8 t1098, .int .u8 t1099, .int .u8 t1100]) B1076.out rfl (by simp) (of_decide_eq_true (by first | (with_reducible assumption) | assumption)) (of_decide_eq_true (by first | (with_reducible assumption) | assumption)))⟩ (fun hL => ?_); refine with_tabW attestorlaw28_MachineChanges.tab18 attestorlaw28_MachineChanges.bits18 (fun T_ W_ => ?_)
                generalize wr.drew = w58 at B1076 B1123 B1130 HB hL ⊢
                refine pure_ (i := 0) (N := some 90) (v := ?_) (a' := ?_) z8_40_ rfl rfl (an_ T_) (fun _ _ _ h => h) (Or.inl ⟨by rfl, ?_⟩) ?_ ?_
                rotate_left; · intro w'; go_simp; with_reducible rfl
                rotate_left; · simp only [Act.put, sa_, sb_, sc_, i64_w, i32_w]; rfl
                refine pure_ (i := 1) (N := some 91) (v := ?_) (a' := ?_) z8_41_ rfl rfl (an_ T_) (fun _ _ _ h => h) (Or.inl ⟨by rfl, ?_⟩) ?_ ?_
                rotate_left; · intro w'; go_simp; with_reducible rfl
                rotate_left; · simp only [Act.put, sa_, sb_, sc_, i64_w, i32_w]; rfl
                refine pure_ (i := 2) (N := some 92) (v := ?_) (a' := ?_) z8_42_ rfl rfl (an_ T_) (fun _ _ _ h => h) (Or.inl ⟨by rfl, ?_⟩) ?_ ?_
                rotate_left; · intro w'; go_simp; with_reducible rfl
                rotate_left; · simp only [Act.put, sa_, sb_, sc_, i64_w, i32_w]; rfl
                refine pure_ (i := 4) (N := some 94) (v := ?_) (a' := ?_) z8_43_ rfl rfl (an_ T_) (fun _ _ _ h => h) (Or.inl ⟨by rfl, ?_⟩) ?_ ?_
                rotate_left; · intro w'; go_simp; with_reducible rfl
                rotate_left; · simp only [Act.put, sa_, sb_, sc_, i64_w, i32_w]; rfl
                refine pure_ (i := 5) (N := some 95) (v := ?_) (a' := ?_) z8_44_ rfl rfl (an_ T_) (fun _ _ _ h => h) (Or.inl ⟨by rfl, ?_⟩) ?_ ?_
                rotate_left; · intro w'; go_simp; with_reducible rfl
                rotate_left; · simp only [Act.put, sa_, sb_, sc_, i64_w, i32_w]; rfl
                refine pure_ (i := 6) (N := some 96) (v := ?_) (a' := ?_) z8_45_ rfl rfl (an_ T_) (fun _ _ _ h => h) (Or.inl ⟨by rfl, ?_⟩) ?_ ?_
                rotate_left; · intro w'; go_simp; with_reducible rfl
                rotate_left; · simp only [Act.put, sa_, sb_, sc_, i64_w, i32_w]; rfl
                refine take_ (i := 3) (N := some 93) (v := ?_) (a' := ?_) z8_46_ rfl rfl (tk_ T_ W_) (fun _ _ _ h => h) (Or.inl ⟨by rfl, ?_⟩) hL ?_ ?_
                rotate_left
                ·rintro w' ⟨s0, s1, s2, s3, s4, s5⟩
                 go_simp
                 with_reducible rfl
                rotate_left
                ·simp only [Act.put, sa_, sb_, sc_, i64_w, i32_w]
                 rfl
                refine take_ (i := 7) (N := some 97) (v := ?_) (a' := ?_) z8_47_ rfl rfl (tk_ T_ W_) (fun _ _ _ h => h) (Or.inl ⟨by rfl, ?_⟩) hL ?_ ?_
                rotate_left
                ·rintro w' ⟨s0, s1, s2, s3, s4, s5⟩
                 go_simp
                 with_reducible rfl
                rotate_left
                ·simp only [Act.put, sa_, sb_, sc_, i64_w, i32_w]
                 rfl
                refine pure_ (i := 8) (N := some 98) (v := ?_) (a' := ?_) z8_48_ rfl rfl (an_ T_) (fun _ _ _ h => h) (Or.inl ⟨by rfl, ?_⟩) ?_ ?_
                rotate_left; · intro w'; go_simp; with_reducible rfl
                rotate_left; · simp only [Act.put, sa_, sb_, sc_, i64_w, i32_w]; rfl
                refine pure_ (i := 9) (N := some 99) (v := ?_) (a' := ?_) z8_49_ rfl rfl (an_ T_) (fun _ _ _ h => h) (Or.inl ⟨by rfl, ?_⟩) ?_ ?_
                rotate_left; · intro w'; go_simp; with_reducible rfl
                rotate_left; · simp only [Act.put, sa_, sb_, sc_, i64_w, i32_w]; rfl
                refine pure_ (i := 10) (N := some 100) (v := ?_) (a' := ?_) z8_50_ rfl rfl (an_ T_) (fun _ _ _ h => h) (Or.inl ⟨by rfl, ?_⟩) ?_ ?_
                rotate_left; · intro w'; go_simp; with_reducible rfl
                rotate_left; · simp only [Act.put, sa_, sb_, sc_, i64_w, i32_w]; rfl
                refine pure_ (i := 11) (N := some 101) (v := ?_) (a' := ?_) z8_51_ rfl rfl (an_ T_) (fun _ _ _ h => h) (Or.inl ⟨by rfl, ?_⟩) ?_ ?_
                rotate_left; · intro w'; go_simp; with_reducible rfl
                rotate_left; · simp only [Act.put, sa_, sb_, sc_, i64_w, i32_w]; rfl
                refine take_ (i := 12) (N := some 102) (v := ?_) (a' := ?_) z8_52_ rfl rfl (tk_ T_ W_) (fun _ _ _ h => h) (Or.inl ⟨by rfl, ?_⟩) hL ?_ ?_
                rotate_left
                ·rintro w' ⟨s0, s1, s2, s3, s4, s5⟩
                 go_simp
                 with_reducible rfl
                rotate_left
                ·simp only [Act.put, sa_, sb_, sc_, i64_w, i32_w]
                 rfl
                refine pure_ (i := 13) (N := some 103) (v := ?_) (a' := ?_) z8_53_ rfl rfl (an_ T_) (fun _ _ _ h => h) (Or.inl ⟨by rfl, ?_⟩) ?_ ?_
                rotate_left; · intro w'; go_simp; with_reducible rfl
                rotate_left; · simp only [Act.put, sa_, sb_, sc_, i64_w, i32_w]; rfl
                refine pure_ (i := 14) (N := some 104) (v := ?_) (a' := ?_) z8_54_ rfl rfl (an_ T_) (fun _ _ _ h => h) (Or.inl ⟨by rfl, ?_⟩) ?_ ?_
                rotate_left; · intro w'; go_simp; with_reducible rfl
                rotate_left; · simp only [Act.put, sa_, sb_, sc_, i64_w, i32_w]; rfl
                refine pure_ (i := 15) (N := some 105) (v := ?_) (a' := ?_) z8_55_ rfl rfl (an_ T_) (fun _ _ _ h => h) (Or.inl ⟨by rfl, ?_⟩) ?_ ?_
                rotate_left; · intro w'; go_simp; with_reducible rfl
                rotate_left; · simp only [Act.put, sa_, sb_, sc_, i64_w, i32_w]; rfl
                refine pure_ (i := 16) (N := some 106) (v := ?_) (a' := ?_) z8_56_ rfl rfl (an_ T_) (fun _ _ _ h => h) (Or.inl ⟨by rfl, ?_⟩) ?_ ?_
                rotate_left; · intro w'; go_simp; with_reducible rfl
                rotate_left; · simp only [Act.put, sa_, sb_, sc_, i64_w, i32_w]; rfl
                refine take_ (i := 17) (N := some 107) (v := ?_) (a' := ?_) z8_57_ rfl rfl (tk_ T_ W_) (fun _ _ _ h => h) (Or.inl ⟨by rfl, ?_⟩) hL ?_ ?_
                rotate_left
                ·rintro w' ⟨s0, s1, s2, s3, s4, s5⟩
                 go_simp
                 with_reducible rfl
                rotate_left
                ·simp only [Act.put, sa_, sb_, sc_, i64_w, i32_w]
                 rfl
                refine pure_ (i := 18) (N := some 108) (v := ?_) (a' := ?_) z8_58_ rfl rfl (an_ T_) (fun _ _ _ h => h) (Or.inl ⟨by rfl, ?_⟩) ?_ ?_
                rotate_left; · intro w'; go_simp; with_reducible rfl
                rotate_left; · simp only [Act.put, sa_, sb_, sc_, i64_w, i32_w]; rfl
                refine pure_ (i := 19) (N := some 109) (v := ?_) (a' := ?_) z8_59_ rfl rfl (an_ T_) (fun _ _ _ h => h) (Or.inl ⟨by rfl, ?_⟩) ?_ ?_
                rotate_left; · intro w'; go_simp; with_reducible rfl
                rotate_left; · simp only [Act.put, sa_, sb_, sc_, i64_w, i32_w]; rfl
                refine pure_ (i := 20) (N := some 110) (v := ?_) (a' := ?_) z8_60_ rfl rfl (an_ T_) (fun _ _ _ h => h) (Or.inl ⟨by rfl, ?_⟩) ?_ ?_
                rotate_left; · intro w'; go_simp; with_reducible rfl
                rotate_left; · simp only [Act.put, sa_, sb_, sc_, i64_w, i32_w]; rfl
                refine pure_ (i := 21) (N := some 111) (v := ?_) (a' := ?_) z8_61_ rfl rfl (an_ T_) (fun _ _ _ h => h) (Or.inl ⟨by rfl, ?_⟩) ?_ ?_
                rotate_left; · intro w'; go_simp; with_reducible rfl
                rotate_left; · simp only [Act.put, sa_, sb_, sc_, i64_w, i32_w]; rfl
                refine take_ (i := 22) (N := some 112) (v := ?_) (a' := ?_) z8_62_ rfl rfl (tk_ T_ W_) (fun _ _ _ h => h) (Or.inl ⟨by rfl, ?_⟩) hL ?_ ?_
                rotate_left
                ·rintro w' ⟨s0, s1, s2, s3, s4, s5⟩
                 go_simp
                 with_reducible rfl
                rotate_left
                ·simp only [Act.put, sa_, sb_, sc_, i64_w, i32_w]
                 rfl
                refine pure_ (i := 23) (N := some 113) (v := ?_) (a' := ?_) z8_63_ rfl rfl (an_ T_) (fun _ _ _ h => h) (Or.inl ⟨by rfl, ?_⟩) ?_ ?_
                rotate_left; · intro w'; go_simp; with_reducible rfl
                rotate_left; · simp only [Act.put, sa_, sb_, sc_, i64_w, i32_w]; rfl
                refine pure_ (i := 24) (N := some 114) (v := ?_) (a' := ?_) z8_64_ rfl rfl (an_ T_) (fun _ _ _ h => h) (Or.inl ⟨by rfl, ?_⟩) ?_ ?_
                rotate_left; · intro w'; go_simp; with_reducible rfl
                rotate_left; · simp only [Act.put, sa_, sb_, sc_, i64_w, i32_w]; rfl
                refine pure_ (i := 25) (N := some 115) (v := ?_) (a' := ?_) z8_65_ rfl rfl (an_ T_) (fun _ _ _ h => h) (Or.inl ⟨by rfl, ?_⟩) ?_ ?_
                rotate_left; · intro w'; go_simp; with_reducible rfl
                rotate_left; · simp only [Act.put, sa_, sb_, sc_, i64_w, i32_w]; rfl
                refine done_ (done_of T_.out (by kernel_rfl)) ?_
                try go_wp2
                go_roundg k3
                case measure => have := HK1.out; have := HJ34.out; have := HK3.out; omega
                case rel => exact ⟨(wrap64 (x11_3 + 1)), (by first | rfl | (simp; done) | (simp [*]; done) | (simp; rfl) | (simp; decide +kernel)), H', ⟨by have := HK1.out; have := HJ34.out; have := HK3.out; omega⟩, ⟨by exact B1076.out⟩, ⟨by exact B1123.out⟩, ⟨by exact B1130.out⟩, ⟨by repeat (first | (with_reducible first | exact HB.out | apply below_alloc | apply pw_below_drewN | apply below_drew1 | refine below_set ?_ GE1076.out | refine below_set ?_ GE1123.out | refine below_set ?_ GE1130.out) | exact HB.out)⟩⟩
             ·rw [if_neg c55] at H
              exact absurd H (by simp)
           ·rw [if_neg c48] at H
            exact absurd H (by simp)
          ·rw [if_neg c47] at H
           have c47b0 : decide (x11_3 < 4) = false := decide_eq_false c47
           clear c47
           have H' := Aside0.mk H
           clear H
           go_wp2
           go_loopg [12] k3 (fun kq v12 w' => ∃ (x12_4 : Int), v12 = .int .i64 x12_4 ∧ Aside0 (attestorlaw28_MachineChanges.l2 kq x12_4 t1080 t1081 t1082 t1083 t1084 t1085 t1086 t1087 t1088 t1089 t1090 t1091 t1092 t1093 t1094 t1095 t1096 t1097 t1098 t1099 t1100 t1101 t1102 t1103 t1104 t1105 t1106 t1107 t1108 t1109 t1110 t1111 t1112 t1113 t1114 t1115 t1116 t1117 t1118 t1119 t1120 t1121 t1126 t1127 t1128 t1129 = some r) ∧ Aside0 (kq ≤ k3) ∧ Aside0 (w'.heap[g1076]? = some (.cells #[.int .i64 t1080, .int .u8 t1081, .int .u8 t1082, .int .u8 t1083, .int .u8 t1084, .int .u8 t1085, .int .u8 t1086, .int .u8 t1087, .int .u8 t1088, .int .u8 t1089, .int .u8 t1090, .int .u8 t1091, .int .u8 t1092, .int .u8 t1093, .int .u8 t1094, .int .u8 t1095, .int .u8 t1096, .int .u8 t1097, .int .u8 t1098, .int .u8 t1099, .int .u8 t1100] 26 (0, 0))) ∧ Aside0 (w'.heap[g1123]? = some (.cells #[.int .i64 t1101, .int .u8 t1102, .int .u8 t1103, .int .u8 t1104, .int .u8 t1105, .int .u8 t1106, .int .u8 t1107, .int .u8 t1108, .int .u8 t1109, .int .u8 t1110, .int .u8 t1111, .int .u8 t1112, .int .u8 t1113, .int .u8 t1114, .int .u8 t1115, .int .u8 t1116, .int .u8 t1117, .int .u8 t1118, .int .u8 t1119, .int .u8 t1120, .int .u8 t1121] 26 (0, 0))) ∧ Aside0 (w'.heap[g1130]? = some (.cells #[.int .u8 t1126, .int .u8 t1127, .int .u8 t1128, .int .u8 t1129] 47 (0, 0))) ∧ Aside0 (Below w.heap.size w w'))
           case atStart => exact ⟨(0), (by first | rfl | (simp; done) | (simp [*]; done) | (simp; rfl) | (simp; decide +kernel)), H', ⟨Nat.le_refl _⟩, ⟨by exact B1076.out⟩, ⟨by exact B1123.out⟩, ⟨by exact B1130.out⟩, ⟨by repeat (first | (with_reducible first | exact HB.out | apply below_alloc | apply pw_below_drewN | apply below_drew1 | refine below_set ?_ GE1076.out | refine below_set ?_ GE1123.out | refine below_set ?_ GE1130.out) | exact HB.out)⟩⟩
           case round =>
            clear H'
            try clear c1
            try clear c2
            try clear p2
            try clear c3
            try clear c4
            try clear c5
            try clear p6
            try clear c16
            try clear c28
            try clear c28b0
            try clear c32
            try clear c37
            try clear c37b0
            try clear c37b1
            try clear c38
            try clear c40
            try clear c40b0
            try clear c40b1
            try clear c40b2
            try clear c41
            try clear c41b0
            try clear c41b1
            try clear c46
            try clear c47
            try clear c47b0
            try clear c48
            try clear c48b0
            try clear c48b1
            try clear c49
            try clear c49b0
            try clear c49b1
            try clear c55
            try clear c55b0
            try clear c55b1
            try clear c56
            try clear c56b0
            try clear c57
            try clear c57b0
            try clear p2
            try clear p6
            obtain ⟨x12_4, rfl, HA, HK4, B1076, B1123, B1130, HB⟩ := hrel
            cases gk with
            | zero => exact absurd HA.out (by simp [attestorlaw28_MachineChanges.l2])
            | succ k4 =>
             have H := HA.out
             clear HA
             simp only [attestorlaw28_MachineChanges.l2] at H
             by_cases c63 : x12_4 < 16
             ·rw [if_pos c63] at H
              have c63b0 : decide (x12_4 < 16) = true := decide_eq_true c63
              clear c63
              by_cases c64 : 0 ≤ x12_4
              ·rw [if_pos c64] at H
               have c64b0 := eq_true c64
               have c64b1 : decide (0 ≤ x12_4) = true := decide_eq_true c64
               clear c64
               by_cases c65 : (rd ([t1106, t1107, t1108, t1109, t1110, t1111, t1112, t1113, t1114, t1115, t1116, t1117, t1118, t1119, t1120, t1121] : List Int) x12_4) = (rd ([t1085, t1086, t1087, t1088, t1089, t1090, t1091, t1092, t1093, t1094, t1095, t1096, t1097, t1098, t1099, t1100] : List Int) x12_4)
               ·rw [if_pos c65] at H
                have c65b0 : ((rd ([t1106, t1107, t1108, t1109, t1110, t1111, t1112, t1113, t1114, t1115, t1116, t1117, t1118, t1119, t1120, t1121] : List Int) x12_4) == (rd ([t1085, t1086, t1087, t1088, t1089, t1090, t1091, t1092, t1093, t1094, t1095, t1096, t1097, t1098, t1099, t1100] : List Int) x12_4)) = true := beq_iff_eq.mpr c65
                have c65b1 : ((rd ([t1106, t1107, t1108, t1109, t1110, t1111, t1112, t1113, t1114, t1115, t1116, t1117, t1118, t1119, t1120, t1121] : List Int) x12_4) != (rd ([t1085, t1086, t1087, t1088, t1089, t1090, t1091, t1092, t1093, t1094, t1095, t1096, t1097, t1098, t1099, t1100] : List Int) x12_4)) = false := bne_eq_false_iff_eq.mpr c65
                clear c65
                have H' := Aside0.mk H
                clear H
                try go_wp2
                have n0_ := Aside0.mk (blk_drew B1076.out)
                have n1_ := Aside0.mk (blk_drew B1123.out)
                have n2_ := Aside0.mk (blk_drew B1130.out)
                have n3_ := Aside0.mk (below_drew1 HB.out)
                clear B1076
                clear B1123
                clear B1130
                clear HB
                have B1076 := n0_
                have B1123 := n1_
                have B1130 := n2_
                have HB := n3_
                clear n0_ n1_ n2_ n3_
                have hlt67 : (x12_4 < 16) = True := eq_true (of_decide_eq_true (by first | (with_reducible assumption) | assumption))
                have hge68 : (0 ≤ x12_4) = True := eq_true (of_decide_eq_true (by first | (with_reducible assumption) | assumption))
                have hlt69 : (x12_4 < 16) = True := eq_true (of_decide_eq_true (by first | (with_reducible assumption) | assumption))
                have hge70 : (0 ≤ x12_4) = True := eq_true (of_decide_eq_true (by first | (with_reducible assumption) | assumption))
                refine start_ (n := 25) (S := fun w' => w'.cell? ⟨g1123, 5 + (x12_4).toNat, none⟩ = some (.int .u8 (rd ([t1106, t1107, t1108, t1109, t1110, t1111, t1112, t1113, t1114, t1115, t1116, t1117, t1118, t1119, t1120, t1121] : List Int) x12_4)) ∧ w'.cell? ⟨g1076, 5 + (x12_4).toNat, none⟩ = some (.int .u8 (rd ([t1085, t1086, t1087, t1088, t1089, t1090, t1091, t1092, t1093, t1094, t1095, t1096, t1097, t1098, t1099, t1100] : List Int) x12_4))) (ds := []) z8_13_ (by kernel_rfl) rfl rfl ⟨(sel_at (pre := [.int .i64 t1101, .int .u8 t1102, .int .u8 t1103, .int .u8 t1104, .int .u8 t1105]) (l := ([t1106, t1107, t1108, t1109, t1110, t1111, t1112, t1113, t1114, t1115, t1116, t1117, t1118, t1119, t1120, t1121] : List Int)) (post := []) B1123.out rfl (by simp) (of_decide_eq_true (by first | (with_reducible assumption) | assumption)) (of_decide_eq_true (by first | (with_reducible assumption) | assumption))), (sel_at (pre := [.int .i64 t1080, .int .u8 t1081, .int .u8 t1082, .int .u8 t1083, .int .u8 t1084]) (l := ([t1085, t1086, t1087, t1088, t1089, t1090, t1091, t1092, t1093, t1094, t1095, t1096, t1097, t1098, t1099, t1100] : List Int)) (post := []) B1076.out rfl (by simp) (of_decide_eq_true (by first | (with_reducible assumption) | assumption)) (of_decide_eq_true (by first | (with_reducible assumption) | assumption)))⟩ (fun hL => ?_); refine with_tabW attestorlaw28_MachineChanges.tab23 attestorlaw28_MachineChanges.bits23 (fun T_ W_ => ?_)
                generalize wr.drew = w66 at B1076 B1123 B1130 HB hL ⊢
                refine pure_ (i := 0) (N := some 120) (v := ?_) (a' := ?_) z8_14_ rfl rfl (an_ T_) (fun _ _ _ h => h) (Or.inl ⟨by rfl, ?_⟩) ?_ ?_
                rotate_left; · intro w'; go_simp; with_reducible rfl
                rotate_left; · simp only [Act.put, sa_, sb_, sc_, i64_w, i32_w]; rfl
                refine pure_ (i := 1) (N := some 121) (v := ?_) (a' := ?_) z8_15_ rfl rfl (an_ T_) (fun _ _ _ h => h) (Or.inl ⟨by rfl, ?_⟩) ?_ ?_
                rotate_left; · intro w'; go_simp; with_reducible rfl
                rotate_left; · simp only [Act.put, sa_, sb_, sc_, i64_w, i32_w]; rfl
                refine pure_ (i := 2) (N := some 122) (v := ?_) (a' := ?_) z8_16_ rfl rfl (an_ T_) (fun _ _ _ h => h) (Or.inl ⟨by rfl, ?_⟩) ?_ ?_
                rotate_left; · intro w'; go_simp; with_reducible rfl
                rotate_left; · simp only [Act.put, sa_, sb_, sc_, i64_w, i32_w]; rfl
                refine pure_ (i := 4) (N := some 124) (v := ?_) (a' := ?_) z8_66_ rfl rfl (an_ T_) (fun _ _ _ h => h) (Or.inl ⟨by rfl, ?_⟩) ?_ ?_
                rotate_left; · intro w'; go_simp; with_reducible rfl
                rotate_left; · simp only [Act.put, sa_, sb_, sc_, i64_w, i32_w]; rfl
                refine pure_ (i := 5) (N := some 125) (v := ?_) (a' := ?_) z8_67_ rfl rfl (an_ T_) (fun _ _ _ h => h) (Or.inl ⟨by rfl, ?_⟩) ?_ ?_
                rotate_left; · intro w'; go_simp; with_reducible rfl
                rotate_left; · simp only [Act.put, sa_, sb_, sc_, i64_w, i32_w]; rfl
                refine pure_ (i := 6) (N := some 126) (v := ?_) (a' := ?_) z8_68_ rfl rfl (an_ T_) (fun _ _ _ h => h) (Or.inl ⟨by rfl, ?_⟩) ?_ ?_
                rotate_left; · intro w'; go_simp; with_reducible rfl
                rotate_left; · simp only [Act.put, sa_, sb_, sc_, i64_w, i32_w]; rfl
                refine take_ (i := 3) (N := some 123) (v := ?_) (a' := ?_) z8_20_ rfl rfl (tk_ T_ W_) (fun _ _ _ h => h) (Or.inl ⟨by rfl, ?_⟩) hL ?_ ?_
                rotate_left
                ·rintro w' ⟨s0, s1⟩
                 go_simp
                 with_reducible rfl
                rotate_left
                ·simp only [Act.put, sa_, sb_, sc_, i64_w, i32_w]
                 rfl
                refine take_ (i := 7) (N := some 127) (v := ?_) (a' := ?_) z8_21_ rfl rfl (tk_ T_ W_) (fun _ _ _ h => h) (Or.inl ⟨by rfl, ?_⟩) hL ?_ ?_
                rotate_left
                ·rintro w' ⟨s0, s1⟩
                 go_simp
                 with_reducible rfl
                rotate_left
                ·simp only [Act.put, sa_, sb_, sc_, i64_w, i32_w]
                 rfl
                refine pure_ (i := 8) (N := some 128) (v := ?_) (a' := ?_) z8_69_ rfl rfl (an_ T_) (fun _ _ _ h => h) (Or.inl ⟨by rfl, ?_⟩) ?_ ?_
                rotate_left; · intro w'; go_simp; with_reducible rfl
                rotate_left; · simp only [Act.put, sa_, sb_, sc_, i64_w, i32_w]; rfl
                refine pure_ (i := 9) (N := some 129) (v := ?_) (a' := ?_) z8_70_ rfl rfl (an_ T_) (fun _ _ _ h => h) (Or.inl ⟨by rfl, ?_⟩) ?_ ?_
                rotate_left; · intro w'; go_simp; with_reducible rfl
                rotate_left; · simp only [Act.put, sa_, sb_, sc_, i64_w, i32_w]; rfl
                refine pure_ (i := 10) (N := some 130) (v := undef) (a' := ?_) z8_71_ rfl rfl (an_ T_) (fun _ _ _ h => h) (Or.inr ⟨by rfl, rfl⟩) ?_ ?_
                rotate_left
                ·simp only [Act.put, sa_, sb_, sc_, i64_w, i32_w]
                 rfl
                refine pure_ (i := 11) (N := some 131) (v := undef) (a' := ?_) z8_72_ rfl rfl (an_ T_) (fun _ _ _ h => h) (Or.inr ⟨by rfl, rfl⟩) ?_ ?_
                rotate_left
                ·simp only [Act.put, sa_, sb_, sc_, i64_w, i32_w]
                 rfl
                refine pure_ (i := 12) (N := some 132) (v := undef) (a' := ?_) z8_26_ rfl rfl (an_ T_) (fun _ _ _ h => h) (Or.inr ⟨by rfl, rfl⟩) ?_ ?_
                rotate_left
                ·simp only [Act.put, sa_, sb_, sc_, i64_w, i32_w]
                 rfl
                refine pure_ (i := 13) (N := some 133) (v := undef) (a' := ?_) z8_27_ rfl rfl (an_ T_) (fun _ _ _ h => h) (Or.inr ⟨by rfl, rfl⟩) ?_ ?_
                rotate_left
                ·simp only [Act.put, sa_, sb_, sc_, i64_w, i32_w]
                 rfl
                refine pure_ (i := 14) (N := some 134) (v := undef) (a' := ?_) z8_28_ rfl rfl (an_ T_) (fun _ _ _ h => h) (Or.inr ⟨by rfl, rfl⟩) ?_ ?_
                rotate_left
                ·simp only [Act.put, sa_, sb_, sc_, i64_w, i32_w]
                 rfl
                refine pure_ (i := 15) (N := some 135) (v := undef) (a' := ?_) z8_29_ rfl rfl (an_ T_) (fun _ _ _ h => h) (Or.inr ⟨by rfl, rfl⟩) ?_ ?_
                rotate_left
                ·simp only [Act.put, sa_, sb_, sc_, i64_w, i32_w]
                 rfl
                refine pure_ (i := 16) (N := some 136) (v := undef) (a' := ?_) z8_30_ rfl rfl (an_ T_) (fun _ _ _ h => h) (Or.inr ⟨by rfl, rfl⟩) ?_ ?_
                rotate_left
                ·simp only [Act.put, sa_, sb_, sc_, i64_w, i32_w]
                 rfl
                refine pure_ (i := 17) (N := some 137) (v := undef) (a' := ?_) z8_31_ rfl rfl (an_ T_) (fun _ _ _ h => h) (Or.inr ⟨by rfl, rfl⟩) ?_ ?_
                rotate_left
                ·simp only [Act.put, sa_, sb_, sc_, i64_w, i32_w]
                 rfl
                refine pure_ (i := 18) (N := some 138) (v := undef) (a' := ?_) z8_32_ rfl rfl (an_ T_) (fun _ _ _ h => h) (Or.inr ⟨by rfl, rfl⟩) ?_ ?_
                rotate_left
                ·simp only [Act.put, sa_, sb_, sc_, i64_w, i32_w]
                 rfl
                refine pure_ (i := 19) (N := some 139) (v := undef) (a' := ?_) z8_33_ rfl rfl (an_ T_) (fun _ _ _ h => h) (Or.inr ⟨by rfl, rfl⟩) ?_ ?_
                rotate_left
                ·simp only [Act.put, sa_, sb_, sc_, i64_w, i32_w]
                 rfl
                refine pure_ (i := 20) (N := some 140) (v := undef) (a' := ?_) z8_34_ rfl rfl (an_ T_) (fun _ _ _ h => h) (Or.inr ⟨by rfl, rfl⟩) ?_ ?_
                rotate_left
                ·simp only [Act.put, sa_, sb_, sc_, i64_w, i32_w]
                 rfl
                refine pure_ (i := 21) (N := some 141) (v := undef) (a' := ?_) z8_35_ rfl rfl (an_ T_) (fun _ _ _ h => h) (Or.inr ⟨by rfl, rfl⟩) ?_ ?_
                rotate_left
                ·simp only [Act.put, sa_, sb_, sc_, i64_w, i32_w]
                 rfl
                refine pure_ (i := 22) (N := some 142) (v := undef) (a' := ?_) z8_36_ rfl rfl (an_ T_) (fun _ _ _ h => h) (Or.inr ⟨by rfl, rfl⟩) ?_ ?_
                rotate_left
                ·simp only [Act.put, sa_, sb_, sc_, i64_w, i32_w]
                 rfl
                refine pure_ (i := 23) (N := some 143) (v := undef) (a' := ?_) z8_37_ rfl rfl (an_ T_) (fun _ _ _ h => h) (Or.inr ⟨by rfl, rfl⟩) ?_ ?_
                rotate_left
                ·simp only [Act.put, sa_, sb_, sc_, i64_w, i32_w]
                 rfl
                refine pure_ (i := 24) (N := some 144) (v := ?_) (a' := ?_) z8_38_ rfl rfl (an_ T_) (fun _ _ _ h => h) (Or.inl ⟨by rfl, ?_⟩) ?_ ?_
                rotate_left; · intro w'; go_simp; with_reducible rfl
                rotate_left; · simp only [Act.put, sa_, sb_, sc_, i64_w, i32_w]; rfl
                refine done_ (done_of T_.out (by kernel_rfl)) ?_
                try go_wp2
                go_roundg k4
                case measure => have := HK1.out; have := HJ34.out; have := HK3.out; have := HK4.out; omega
                case rel => exact ⟨(wrap64 (x12_4 + 1)), (by first | rfl | (simp; done) | (simp [*]; done) | (simp; rfl) | (simp; decide +kernel)), H', ⟨by have := HK1.out; have := HJ34.out; have := HK3.out; have := HK4.out; omega⟩, ⟨by exact B1076.out⟩, ⟨by exact B1123.out⟩, ⟨by exact B1130.out⟩, ⟨by repeat (first | (with_reducible first | exact HB.out | apply below_alloc | apply pw_below_drewN | apply below_drew1 | refine below_set ?_ GE1076.out | refine below_set ?_ GE1123.out | refine below_set ?_ GE1130.out) | exact HB.out)⟩⟩
               ·rw [if_neg c65] at H
                have c65b0 : ((rd ([t1106, t1107, t1108, t1109, t1110, t1111, t1112, t1113, t1114, t1115, t1116, t1117, t1118, t1119, t1120, t1121] : List Int) x12_4) == (rd ([t1085, t1086, t1087, t1088, t1089, t1090, t1091, t1092, t1093, t1094, t1095, t1096, t1097, t1098, t1099, t1100] : List Int) x12_4)) = false := beq_eq_false_iff_ne.mpr c65
                have c65b1 : ((rd ([t1106, t1107, t1108, t1109, t1110, t1111, t1112, t1113, t1114, t1115, t1116, t1117, t1118, t1119, t1120, t1121] : List Int) x12_4) != (rd ([t1085, t1086, t1087, t1088, t1089, t1090, t1091, t1092, t1093, t1094, t1095, t1096, t1097, t1098, t1099, t1100] : List Int) x12_4)) = true := bne_iff_ne.mpr c65
                by_cases c71 : t1126 = 7
                ·rw [if_pos c71] at H
                 have c71b0 : (t1126 == 7) = true := beq_iff_eq.mpr c71
                 have c71b1 : (t1126 != 7) = false := bne_eq_false_iff_eq.mpr c71
                 clear c71
                 by_cases c72 : 0 ≤ t1128
                 ·rw [if_pos c72] at H
                  have c72b0 := eq_true c72
                  have c72b1 : decide (0 ≤ t1128) = true := decide_eq_true c72
                  clear c72
                  by_cases c73 : t1128 < 4
                  ·rw [if_pos c73] at H
                   have c73b0 := eq_true c73
                   have c73b1 : decide (t1128 < 4) = true := decide_eq_true c73
                   clear c73
                   by_cases c74 : x12_4 = (Int.tmod (wrap64 ((rd ([t1081, t1082, t1083, t1084] : List Int) t1128))) 16)
                   ·rw [if_pos c74] at H
                    have c74b0 : (x12_4 == (Int.tmod (wrap64 ((rd ([t1081, t1082, t1083, t1084] : List Int) t1128))) 16)) = true := beq_iff_eq.mpr c74
                    have c74b1 : (x12_4 != (Int.tmod (wrap64 ((rd ([t1081, t1082, t1083, t1084] : List Int) t1128))) 16)) = false := bne_eq_false_iff_eq.mpr c74
                    clear c74
                    have H' := Aside0.mk H
                    clear H
                    try go_wp2
                    have n0_ := Aside0.mk (blk_drew B1076.out)
                    have n1_ := Aside0.mk (blk_drew B1123.out)
                    have n2_ := Aside0.mk (blk_drew B1130.out)
                    have n3_ := Aside0.mk (below_drew1 HB.out)
                    clear B1076
                    clear B1123
                    clear B1130
                    clear HB
                    have B1076 := n0_
                    have B1123 := n1_
                    have B1130 := n2_
                    have HB := n3_
                    clear n0_ n1_ n2_ n3_
                    have hlt76 : (x12_4 < 16) = True := eq_true (of_decide_eq_true (by first | (with_reducible assumption) | assumption))
                    have hge77 : (0 ≤ x12_4) = True := eq_true (of_decide_eq_true (by first | (with_reducible assumption) | assumption))
                    have hlt78 : (x12_4 < 16) = True := eq_true (of_decide_eq_true (by first | (with_reducible assumption) | assumption))
                    have hge79 : (0 ≤ x12_4) = True := eq_true (of_decide_eq_true (by first | (with_reducible assumption) | assumption))
                    have hlt80 : (t1128 < 4) = True := eq_true (of_decide_eq_true (by first | (with_reducible assumption) | assumption))
                    have hge81 : (0 ≤ t1128) = True := eq_true (of_decide_eq_true (by first | (with_reducible assumption) | assumption))
                    refine start_ (n := 25) (S := fun w' => w'.cell? ⟨g1130, 0, none⟩ = some (.int .u8 t1126) ∧ w'.cell? ⟨g1130, 1, none⟩ = some (.int .u8 t1127) ∧ w'.cell? ⟨g1130, 2, none⟩ = some (.int .u8 t1128) ∧ w'.cell? ⟨g1130, 3, none⟩ = some (.int .u8 t1129) ∧ w'.cell? ⟨g1123, 5 + (x12_4).toNat, none⟩ = some (.int .u8 (rd ([t1106, t1107, t1108, t1109, t1110, t1111, t1112, t1113, t1114, t1115, t1116, t1117, t1118, t1119, t1120, t1121] : List Int) x12_4)) ∧ w'.cell? ⟨g1076, 5 + (x12_4).toNat, none⟩ = some (.int .u8 (rd ([t1085, t1086, t1087, t1088, t1089, t1090, t1091, t1092, t1093, t1094, t1095, t1096, t1097, t1098, t1099, t1100] : List Int) x12_4)) ∧ w'.cell? ⟨g1076, 1 + (t1128).toNat, none⟩ = some (.int .u8 (rd ([t1081, t1082, t1083, t1084] : List Int) t1128))) (ds := []) z8_13_ (by kernel_rfl) rfl rfl ⟨bq_ B1130 0, bq_ B1130 1, bq_ B1130 2, bq_ B1130 3, (sel_at (pre := [.int .i64 t1101, .int .u8 t1102, .int .u8 t1103, .int .u8 t1104, .int .u8 t1105]) (l := ([t1106, t1107, t1108, t1109, t1110, t1111, t1112, t1113, t1114, t1115, t1116, t1117, t1118, t1119, t1120, t1121] : List Int)) (post := []) B1123.out rfl (by simp) (of_decide_eq_true (by first | (with_reducible assumption) | assumption)) (of_decide_eq_true (by first | (with_reducible assumption) | assumption))), (sel_at (pre := [.int .i64 t1080, .int .u8 t1081, .int .u8 t1082, .int .u8 t1083, .int .u8 t1084]) (l := ([t1085, t1086, t1087, t1088, t1089, t1090, t1091, t1092, t1093, t1094, t1095, t1096, t1097, t1098, t1099, t1100] : List Int)) (post := []) B1076.out rfl (by simp) (of_decide_eq_true (by first | (with_reducible assumption) | assumption)) (of_decide_eq_true (by first | (with_reducible assumption) | assumption))), (sel_at (pre := [.int .i64 t1080]) (l := ([t1081, t1082, t1083, t1084] : List Int)) (post := [.int .u8 t1085, .int .u8 t1086, .int .u8 t1087, .int .u8 t1088, .int .u8 t1089, .int .u8 t1090, .int .u8 t1091, .int .u8 t1092, .int .u8 t1093, .int .u8 t1094, .int .u8 t1095, .int .u8 t1096, .int .u8 t1097, .int .u8 t1098, .int .u8 t1099, .int .u8 t1100]) B1076.out rfl (by simp) (of_decide_eq_true (by first | (with_reducible assumption) | assumption)) (of_decide_eq_true (by first | (with_reducible assumption) | assumption)))⟩ (fun hL => ?_); refine with_tabW attestorlaw28_MachineChanges.tab23 attestorlaw28_MachineChanges.bits23 (fun T_ W_ => ?_)
                    generalize wr.drew = w75 at B1076 B1123 B1130 HB hL ⊢
                    refine pure_ (i := 0) (N := some 120) (v := ?_) (a' := ?_) z8_14_ rfl rfl (an_ T_) (fun _ _ _ h => h) (Or.inl ⟨by rfl, ?_⟩) ?_ ?_
                    rotate_left; · intro w'; go_simp; with_reducible rfl
                    rotate_left; · simp only [Act.put, sa_, sb_, sc_, i64_w, i32_w]; rfl
                    refine pure_ (i := 1) (N := some 121) (v := ?_) (a' := ?_) z8_15_ rfl rfl (an_ T_) (fun _ _ _ h => h) (Or.inl ⟨by rfl, ?_⟩) ?_ ?_
                    rotate_left; · intro w'; go_simp; with_reducible rfl
                    rotate_left; · simp only [Act.put, sa_, sb_, sc_, i64_w, i32_w]; rfl
                    refine pure_ (i := 2) (N := some 122) (v := ?_) (a' := ?_) z8_16_ rfl rfl (an_ T_) (fun _ _ _ h => h) (Or.inl ⟨by rfl, ?_⟩) ?_ ?_
                    rotate_left; · intro w'; go_simp; with_reducible rfl
                    rotate_left; · simp only [Act.put, sa_, sb_, sc_, i64_w, i32_w]; rfl
                    refine pure_ (i := 4) (N := some 124) (v := ?_) (a' := ?_) z8_66_ rfl rfl (an_ T_) (fun _ _ _ h => h) (Or.inl ⟨by rfl, ?_⟩) ?_ ?_
                    rotate_left; · intro w'; go_simp; with_reducible rfl
                    rotate_left; · simp only [Act.put, sa_, sb_, sc_, i64_w, i32_w]; rfl
                    refine pure_ (i := 5) (N := some 125) (v := ?_) (a' := ?_) z8_67_ rfl rfl (an_ T_) (fun _ _ _ h => h) (Or.inl ⟨by rfl, ?_⟩) ?_ ?_
                    rotate_left; · intro w'; go_simp; with_reducible rfl
                    rotate_left; · simp only [Act.put, sa_, sb_, sc_, i64_w, i32_w]; rfl
                    refine pure_ (i := 6) (N := some 126) (v := ?_) (a' := ?_) z8_68_ rfl rfl (an_ T_) (fun _ _ _ h => h) (Or.inl ⟨by rfl, ?_⟩) ?_ ?_
                    rotate_left; · intro w'; go_simp; with_reducible rfl
                    rotate_left; · simp only [Act.put, sa_, sb_, sc_, i64_w, i32_w]; rfl
                    refine take_ (i := 3) (N := some 123) (v := ?_) (a' := ?_) z8_20_ rfl rfl (tk_ T_ W_) (fun _ _ _ h => h) (Or.inl ⟨by rfl, ?_⟩) hL ?_ ?_
                    rotate_left
                    ·rintro w' ⟨s0, s1, s2, s3, s4, s5, s6⟩
                     go_simp
                     with_reducible rfl
                    rotate_left
                    ·simp only [Act.put, sa_, sb_, sc_, i64_w, i32_w]
                     rfl
                    refine take_ (i := 7) (N := some 127) (v := ?_) (a' := ?_) z8_21_ rfl rfl (tk_ T_ W_) (fun _ _ _ h => h) (Or.inl ⟨by rfl, ?_⟩) hL ?_ ?_
                    rotate_left
                    ·rintro w' ⟨s0, s1, s2, s3, s4, s5, s6⟩
                     go_simp
                     with_reducible rfl
                    rotate_left
                    ·simp only [Act.put, sa_, sb_, sc_, i64_w, i32_w]
                     rfl
                    refine pure_ (i := 8) (N := some 128) (v := ?_) (a' := ?_) z8_69_ rfl rfl (an_ T_) (fun _ _ _ h => h) (Or.inl ⟨by rfl, ?_⟩) ?_ ?_
                    rotate_left; · intro w'; go_simp; with_reducible rfl
                    rotate_left; · simp only [Act.put, sa_, sb_, sc_, i64_w, i32_w]; rfl
                    refine pure_ (i := 9) (N := some 129) (v := ?_) (a' := ?_) z8_70_ rfl rfl (an_ T_) (fun _ _ _ h => h) (Or.inl ⟨by rfl, ?_⟩) ?_ ?_
                    rotate_left; · intro w'; go_simp; with_reducible rfl
                    rotate_left; · simp only [Act.put, sa_, sb_, sc_, i64_w, i32_w]; rfl
                    refine pure_ (i := 10) (N := some 130) (v := ?_) (a' := ?_) z8_71_ rfl rfl (an_ T_) (fun _ _ _ h => h) (Or.inl ⟨by rfl, ?_⟩) ?_ ?_
                    rotate_left; · intro w'; go_simp; with_reducible rfl
                    rotate_left; · simp only [Act.put, sa_, sb_, sc_, i64_w, i32_w]; rfl
                    refine take_ (i := 11) (N := some 131) (v := ?_) (a' := ?_) z8_72_ rfl rfl (tk_ T_ W_) (fun _ _ _ h => h) (Or.inl ⟨by rfl, ?_⟩) hL ?_ ?_
                    rotate_left
                    ·rintro w' ⟨s0, s1, s2, s3, s4, s5, s6⟩
                     go_simp
                     with_reducible rfl
                    rotate_left
                    ·simp only [Act.put, sa_, sb_, sc_, i64_w, i32_w]
                     rfl
                    refine pure_ (i := 12) (N := some 132) (v := ?_) (a' := ?_) z8_26_ rfl rfl (an_ T_) (fun _ _ _ h => h) (Or.inl ⟨by rfl, ?_⟩) ?_ ?_
                    rotate_left; · intro w'; go_simp; with_reducible rfl
                    rotate_left; · simp only [Act.put, sa_, sb_, sc_, i64_w, i32_w]; rfl
                    refine pure_ (i := 13) (N := some 133) (v := ?_) (a' := ?_) z8_27_ rfl rfl (an_ T_) (fun _ _ _ h => h) (Or.inl ⟨by rfl, ?_⟩) ?_ ?_
                    rotate_left; · intro w'; go_simp; with_reducible rfl
                    rotate_left; · simp only [Act.put, sa_, sb_, sc_, i64_w, i32_w]; rfl
                    refine pure_ (i := 14) (N := some 134) (v := ?_) (a' := ?_) z8_28_ rfl rfl (an_ T_) (fun _ _ _ h => h) (Or.inl ⟨by rfl, ?_⟩) ?_ ?_
                    rotate_left; · intro w'; go_simp; with_reducible rfl
                    rotate_left; · simp only [Act.put, sa_, sb_, sc_, i64_w, i32_w]; rfl
                    refine pure_ (i := 15) (N := some 135) (v := ?_) (a' := ?_) z8_29_ rfl rfl (an_ T_) (fun _ _ _ h => h) (Or.inl ⟨by rfl, ?_⟩) ?_ ?_
                    rotate_left; · intro w'; go_simp; with_reducible rfl
                    rotate_left; · simp only [Act.put, sa_, sb_, sc_, i64_w, i32_w]; rfl
                    refine pure_ (i := 17) (N := some 137) (v := ?_) (a' := ?_) z8_73_ rfl rfl (an_ T_) (fun _ _ _ h => h) (Or.inl ⟨by rfl, ?_⟩) ?_ ?_
                    rotate_left; · intro w'; go_simp; with_reducible rfl
                    rotate_left; · simp only [Act.put, sa_, sb_, sc_, i64_w, i32_w]; rfl
                    refine take_ (i := 16) (N := some 136) (v := ?_) (a' := ?_) z8_31_ rfl rfl (tk_ T_ W_) (fun _ _ _ h => h) (Or.inl ⟨by rfl, ?_⟩) hL ?_ ?_
                    rotate_left
                    ·rintro w' ⟨s0, s1, s2, s3, s4, s5, s6⟩
                     go_simp
                     with_reducible rfl
                    rotate_left
                    ·simp only [Act.put, sa_, sb_, sc_, i64_w, i32_w]
                     rfl
                    refine pure_ (i := 18) (N := some 138) (v := ?_) (a' := ?_) z8_32_ rfl rfl (an_ T_) (fun _ _ _ h => h) (Or.inl ⟨by rfl, ?_⟩) ?_ ?_
                    rotate_left; · intro w'; go_simp; with_reducible rfl
                    rotate_left; · simp only [Act.put, sa_, sb_, sc_, i64_w, i32_w]; rfl
                    refine take_ (i := 19) (N := some 139) (v := ?_) (a' := ?_) z8_33_ rfl rfl (tk_ T_ W_) (fun _ _ _ h => h) (Or.inl ⟨by rfl, ?_⟩) hL ?_ ?_
                    rotate_left
                    ·rintro w' ⟨s0, s1, s2, s3, s4, s5, s6⟩
                     go_simp
                     with_reducible rfl
                    rotate_left
                    ·simp only [Act.put, sa_, sb_, sc_, i64_w, i32_w]
                     rfl
                    refine pure_ (i := 20) (N := some 140) (v := ?_) (a' := ?_) z8_34_ rfl rfl (an_ T_) (fun _ _ _ h => h) (Or.inl ⟨by rfl, ?_⟩) ?_ ?_
                    rotate_left; · intro w'; go_simp; with_reducible rfl
                    rotate_left; · simp only [Act.put, sa_, sb_, sc_, i64_w, i32_w]; rfl
                    refine pure_ (i := 21) (N := some 141) (v := ?_) (a' := ?_) z8_35_ rfl rfl (an_ T_) (fun _ _ _ h => h) (Or.inl ⟨by rfl, ?_⟩) ?_ ?_
                    rotate_left; · intro w'; go_simp; with_reducible rfl
                    rotate_left; · simp only [Act.put, sa_, sb_, sc_, i64_w, i32_w]; rfl
                    refine pure_ (i := 22) (N := some 142) (v := ?_) (a' := ?_) z8_36_ rfl rfl (an_ T_) (fun _ _ _ h => h) (Or.inl ⟨by rfl, ?_⟩) ?_ ?_
                    rotate_left; · intro w'; go_simp; with_reducible rfl
                    rotate_left; · simp only [Act.put, sa_, sb_, sc_, i64_w, i32_w]; rfl
                    refine pure_ (i := 23) (N := some 143) (v := ?_) (a' := ?_) z8_37_ rfl rfl (an_ T_) (fun _ _ _ h => h) (Or.inl ⟨by rfl, ?_⟩) ?_ ?_
                    rotate_left; · intro w'; go_simp; with_reducible rfl
                    rotate_left; · simp only [Act.put, sa_, sb_, sc_, i64_w, i32_w]; rfl
                    refine pure_ (i := 24) (N := some 144) (v := ?_) (a' := ?_) z8_38_ rfl rfl (an_ T_) (fun _ _ _ h => h) (Or.inl ⟨by rfl, ?_⟩) ?_ ?_
                    rotate_left; · intro w'; go_simp; with_reducible rfl
                    rotate_left; · simp only [Act.put, sa_, sb_, sc_, i64_w, i32_w]; rfl
                    refine done_ (done_of T_.out (by kernel_rfl)) ?_
                    try go_wp2
                    go_roundg k4
                    case measure => have := HK1.out; have := HJ34.out; have := HK3.out; have := HK4.out; omega
                    case rel => exact ⟨(wrap64 (x12_4 + 1)), (by first | rfl | (simp; done) | (simp [*]; done) | (simp; rfl) | (simp; decide +kernel)), H', ⟨by have := HK1.out; have := HJ34.out; have := HK3.out; have := HK4.out; omega⟩, ⟨by exact B1076.out⟩, ⟨by exact B1123.out⟩, ⟨by exact B1130.out⟩, ⟨by repeat (first | (with_reducible first | exact HB.out | apply below_alloc | apply pw_below_drewN | apply below_drew1 | refine below_set ?_ GE1076.out | refine below_set ?_ GE1123.out | refine below_set ?_ GE1130.out) | exact HB.out)⟩⟩
                   ·rw [if_neg c74] at H
                    exact absurd H (by simp)
                  ·rw [if_neg c73] at H
                   exact absurd H (by simp)
                 ·rw [if_neg c72] at H
                  exact absurd H (by simp)
                ·rw [if_neg c71] at H
                 exact absurd H (by simp)
              ·rw [if_neg c64] at H
               exact absurd H (by simp)
             ·rw [if_neg c63] at H
              have c63b0 : decide (x12_4 < 16) = false := decide_eq_false c63
              clear c63
              replace H := Option.bind_eq_some_iff.mp H
              obtain ⟨t1136, A820, H⟩ := H
              have A82 := Aside0.mk A820
              clear A820
              obtain rfl := Option.some.inj H
              go_wp2_with (first | ((with_reducible refine gate_callee (f := 18) rfl ?_); refine goesL_ (some 145) rfl rfl Tryd.func18 (by kernel_rfl) rfl #[] rfl (by (try simp only [List.map_toArray, List.map_cons, List.map_nil]); first | done | rfl | (go_simp; done)) ?_; (with_reducible refine (attestorlaw28_lives.calls k4  t1136 _ ?side1 A82.out).mono ?_); (case side1 => repeat (first | exact (GL.below HRG.out HB.out) | (with_reducible refine GL.alloc ?_ _) | (with_reducible refine GL.drewN ?_ _) | (with_reducible refine GL.drew ?_))); rintro e w83 ⟨rfl, hb⟩; refine ⟨_, rfl, ?_⟩; have n0_ := Aside0.mk (blk_below (g := g1076) (o := .cells #[.int .i64 t1080, .int .u8 t1081, .int .u8 t1082, .int .u8 t1083, .int .u8 t1084, .int .u8 t1085, .int .u8 t1086, .int .u8 t1087, .int .u8 t1088, .int .u8 t1089, .int .u8 t1090, .int .u8 t1091, .int .u8 t1092, .int .u8 t1093, .int .u8 t1094, .int .u8 t1095, .int .u8 t1096, .int .u8 t1097, .int .u8 t1098, .int .u8 t1099, .int .u8 t1100] 26 (0, 0)) (by exact B1076.out) hb); have n1_ := Aside0.mk (blk_below (g := g1123) (o := .cells #[.int .i64 t1101, .int .u8 t1102, .int .u8 t1103, .int .u8 t1104, .int .u8 t1105, .int .u8 t1106, .int .u8 t1107, .int .u8 t1108, .int .u8 t1109, .int .u8 t1110, .int .u8 t1111, .int .u8 t1112, .int .u8 t1113, .int .u8 t1114, .int .u8 t1115, .int .u8 t1116, .int .u8 t1117, .int .u8 t1118, .int .u8 t1119, .int .u8 t1120, .int .u8 t1121] 26 (0, 0)) (by exact B1123.out) hb); have n2_ := Aside0.mk (blk_below (g := g1130) (o := .cells #[.int .u8 t1126, .int .u8 t1127, .int .u8 t1128, .int .u8 t1129] 47 (0, 0)) (by exact B1130.out) hb); have n3_ := Aside0.mk (below_step (by repeat (first | (with_reducible first | exact HB.out | apply below_alloc | apply pw_below_drewN | apply below_drew1 | refine below_set ?_ GE1076.out | refine below_set ?_ GE1123.out | refine below_set ?_ GE1130.out) | exact HB.out)) hb); clear B1076; clear B1123; clear B1130; clear HB; have B1076 := n0_; have B1123 := n1_; have B1130 := n2_; have HB := n3_; clear n0_ n1_ n2_ n3_; (try clear hb); (try clear hb2); (try clear hk); (try clear hi)))
              go_ret
              exact ⟨by first | rfl | (simp [errW_none, errW_some] <;> rfl) | (simp [*, errW_none, errW_some] <;> rfl), by repeat (first | (with_reducible first | exact HB.out | apply below_alloc | apply pw_below_drewN | apply below_drew1 | refine below_set ?_ GE1076.out | refine below_set ?_ GE1123.out | refine below_set ?_ GE1130.out) | exact HB.out)⟩
 ·rw [if_neg c7] at H
  have c7b0 : (t1124 == 0) = false := beq_eq_false_iff_ne.mpr c7
  have c7b1 : (t1124 != 0) = true := bne_iff_ne.mpr c7
  by_cases c84 : t1122 = 1
  ·rw [if_pos c84] at H
   have c84b0 : (t1122 == 1) = true := beq_iff_eq.mpr c84
   have c84b1 : (t1122 != 1) = false := bne_eq_false_iff_eq.mpr c84
   clear c84
   by_cases c85 : (t1101 == 0 && ((t1102 == 0 && (t1103 == 0 && (t1104 == 0 && (t1105 == 0)))) && ((t1106 == 0 && (t1107 == 0 && (t1108 == 0 && (t1109 == 0 && (t1110 == 0 && (t1111 == 0 && (t1112 == 0 && (t1113 == 0 && (t1114 == 0 && (t1115 == 0 && (t1116 == 0 && (t1117 == 0 && (t1118 == 0 && (t1119 == 0 && (t1120 == 0 && (t1121 == 0))))))))))))))))))) = true
   ·rw [if_pos c85] at H
    have c85b0 : (t1101 == 0 && ((t1102 == 0 && (t1103 == 0 && (t1104 == 0 && (t1105 == 0)))) && ((t1106 == 0 && (t1107 == 0 && (t1108 == 0 && (t1109 == 0 && (t1110 == 0 && (t1111 == 0 && (t1112 == 0 && (t1113 == 0 && (t1114 == 0 && (t1115 == 0 && (t1116 == 0 && (t1117 == 0 && (t1118 == 0 && (t1119 == 0 && (t1120 == 0 && (t1121 == 0))))))))))))))))))) = true := c85
    (try (have c85b1 : decide (t1101 = 0 && ((t1102 == 0 && (t1103 == 0 && (t1104 == 0 && (t1105 == 0)))) && ((t1106 == 0 && (t1107 == 0 && (t1108 == 0 && (t1109 == 0 && (t1110 == 0 && (t1111 == 0 && (t1112 == 0 && (t1113 == 0 && (t1114 == 0 && (t1115 == 0 && (t1116 == 0 && (t1117 == 0 && (t1118 == 0 && (t1119 == 0 && (t1120 == 0 && (t1121 == 0))))))))))))))))))) = true := by simpa using c85))
    (try (have c85b2 : (t1101 == 0 && ((t1102 == 0 && (t1103 == 0 && (t1104 == 0 && (t1105 == 0)))) && ((t1106 == 0 && (t1107 == 0 && (t1108 == 0 && (t1109 == 0 && (t1110 == 0 && (t1111 == 0 && (t1112 == 0 && (t1113 == 0 && (t1114 == 0 && (t1115 == 0 && (t1116 == 0 && (t1117 == 0 && (t1118 == 0 && (t1119 == 0 && (t1120 == 0 && (t1121 == 0))))))))))))))))))) = true := by simpa using c85))
    clear c85
    replace H := Option.bind_eq_some_iff.mp H
    obtain ⟨t1125, A860, H⟩ := H
    have A86 := Aside0.mk A860
    clear A860
    obtain rfl := Option.some.inj H
    go_enter Tryd.func8, Tryd.ntmps8
    go_wp2_with (first | ((with_reducible refine gate_dst (N := 3) rfl ?_); refine box_event ?hg (N := 3) ?hd (cs := #[.int .i64 a1_0, .int .u8 a1_1, .int .u8 a1_2, .int .u8 a1_3, .int .u8 a1_4, .int .u8 a1_5, .int .u8 a1_6, .int .u8 a1_7, .int .u8 a1_8, .int .u8 a1_9, .int .u8 a1_10, .int .u8 a1_11, .int .u8 a1_12, .int .u8 a1_13, .int .u8 a1_14, .int .u8 a1_15, .int .u8 a1_16, .int .u8 a1_17, .int .u8 a1_18, .int .u8 a1_19, .int .u8 a1_20]) (t := 26) ?hr ?_; (case hd => rfl); (case hg => rfl); (case hr => first | (go_simp; done) | (go_simp; rfl)); intro g1076 hg w87 hbox hb; have n0_ := Aside0.mk (below_step (by repeat (first | (with_reducible first | exact HB.out | apply below_alloc | apply pw_below_drewN | apply below_drew1) | exact HB.out)) hb); have n1_ := Aside0.mk (hbox); have n2_ := Aside0.mk ((by rw [hg]; exact (below_size (by repeat (first | (with_reducible first | exact HB.out | apply below_alloc | apply pw_below_drewN | apply below_drew1) | exact HB.out))) : w.heap.size ≤ g1076)); have n3_ := Aside0.mk ((by rw [hg]; exact (below_size (by repeat (first | (with_reducible first | exact HB.out | apply below_alloc | apply pw_below_drewN | apply below_drew1) | exact HB.out))) : w.heap.size ≤ g1076)); clear HB; have HB := n0_; have B1076 := n1_; have GW1076 := n2_; have GE1076 := n3_; clear n0_ n1_ n2_ n3_; clear hb hbox hg) | ((with_reducible refine gate_callee (f := 9) rfl ?_); refine goesL_ (some 14) rfl rfl Tryd.func9 (by kernel_rfl) rfl #[.slice A0 l0.length c0] rfl (by (try simp only [List.map_toArray, List.map_cons, List.map_nil]); first | done | rfl | (go_simp; done)) ?_; (with_reducible refine (attestorlaw28_cut.calls _ _ l0 t1077 _ ?side1 ?side2 A3.out).mono ?_); (case side1 => repeat (first | exact (Kd.C_below HR0.out HB.out) | (with_reducible refine Kd.C_alloc ?_ _) | (with_reducible refine Kd.C_drewN ?_ _) | (with_reducible refine Kd.C_drew ?_))); (case side2 => exact HC0.out); rintro e w88 ⟨v1078, rfl, ho0, hb⟩; refine ⟨_, rfl, ?_⟩; have n0_ := Aside0.mk (Kd.R_lower ho0 (below_size (by repeat (first | (with_reducible first | exact HB.out | apply below_alloc | apply pw_below_drewN | apply below_drew1 | refine below_set ?_ GE1076.out) | exact HB.out)))); have n1_ := Aside0.mk (blk_below (g := g1076) (o := .cells #[.int .i64 a1_0, .int .u8 a1_1, .int .u8 a1_2, .int .u8 a1_3, .int .u8 a1_4, .int .u8 a1_5, .int .u8 a1_6, .int .u8 a1_7, .int .u8 a1_8, .int .u8 a1_9, .int .u8 a1_10, .int .u8 a1_11, .int .u8 a1_12, .int .u8 a1_13, .int .u8 a1_14, .int .u8 a1_15, .int .u8 a1_16, .int .u8 a1_17, .int .u8 a1_18, .int .u8 a1_19, .int .u8 a1_20] 26 (0, 0)) (by exact B1076.out) hb); have n2_ := Aside0.mk (below_step (by repeat (first | (with_reducible first | exact HB.out | apply below_alloc | apply pw_below_drewN | apply below_drew1 | refine below_set ?_ GE1076.out) | exact HB.out)) hb); clear B1076; clear HB; have HO1079 := n0_; have B1076 := n1_; have HB := n2_; clear n0_ n1_ n2_; (try clear hb); (try clear hb2); (try clear hk); (try clear hi); (try clear ho0)) | ((with_reducible refine gate_dst (N := 16) rfl ?_); refine wpList_load_row rfl 26 (.tmp 3) rfl g1076 rfl 26 #[.int .i64 a1_0, .int .u8 a1_1, .int .u8 a1_2, .int .u8 a1_3, .int .u8 a1_4, .int .u8 a1_5, .int .u8 a1_6, .int .u8 a1_7, .int .u8 a1_8, .int .u8 a1_9, .int .u8 a1_10, .int .u8 a1_11, .int .u8 a1_12, .int .u8 a1_13, .int .u8 a1_14, .int .u8 a1_15, .int .u8 a1_16, .int .u8 a1_17, .int .u8 a1_18, .int .u8 a1_19, .int .u8 a1_20] (0, 0) _ (by exact B1076.out) Tryd.underlying26 rfl (by kernel_rfl) ?_; obtain ⟨Ao89, co89, eo89⟩ := Kd.R_slice HO1079.out; subst eo89) | ((with_reducible refine gate_callee (f := 24) rfl ?_); refine goesL_ (some 17) rfl rfl Tryd.func24 (by kernel_rfl) rfl #[.slice Ao89 t1077.length co89, .agg #[.int .i64 a1_0, .int .u8 a1_1, .int .u8 a1_2, .int .u8 a1_3, .int .u8 a1_4, .int .u8 a1_5, .int .u8 a1_6, .int .u8 a1_7, .int .u8 a1_8, .int .u8 a1_9, .int .u8 a1_10, .int .u8 a1_11, .int .u8 a1_12, .int .u8 a1_13, .int .u8 a1_14, .int .u8 a1_15, .int .u8 a1_16, .int .u8 a1_17, .int .u8 a1_18, .int .u8 a1_19, .int .u8 a1_20]] rfl (by (try simp only [List.map_toArray, List.map_cons, List.map_nil]); first | done | rfl | (go_simp; done)) ?_; (with_reducible refine (attestorlaw28_valid.calls _ _ t1077 a1_0 a1_1 a1_2 a1_3 a1_4 a1_5 a1_6 a1_7 a1_8 a1_9 a1_10 a1_11 a1_12 a1_13 a1_14 a1_15 a1_16 a1_17 a1_18 a1_19 a1_20 t1080 t1081 t1082 t1083 t1084 t1085 t1086 t1087 t1088 t1089 t1090 t1091 t1092 t1093 t1094 t1095 t1096 t1097 t1098 t1099 t1100 _ ?side1 ?side2 A4.out).mono ?_); (case side1 => repeat (first | exact (Kd.R_reads' HO1079.out).2.2 | (with_reducible refine Kd.C_alloc ?_ _) | (with_reducible refine Kd.C_drewN ?_ _) | (with_reducible refine Kd.C_drew ?_))); (case side2 => exact (Kd.R_reads' HO1079.out).2.1); rintro e w90 ⟨rfl, hb⟩; refine ⟨_, rfl, ?_⟩; have n0_ := Aside0.mk (Kd.R_below (by (with_reducible repeat (first | apply Kd.R_alloc | apply Kd.R_drewN | apply Kd.R_drew)); exact HO1079.out) hb); have n1_ := Aside0.mk (blk_below (g := g1076) (o := .cells #[.int .i64 a1_0, .int .u8 a1_1, .int .u8 a1_2, .int .u8 a1_3, .int .u8 a1_4, .int .u8 a1_5, .int .u8 a1_6, .int .u8 a1_7, .int .u8 a1_8, .int .u8 a1_9, .int .u8 a1_10, .int .u8 a1_11, .int .u8 a1_12, .int .u8 a1_13, .int .u8 a1_14, .int .u8 a1_15, .int .u8 a1_16, .int .u8 a1_17, .int .u8 a1_18, .int .u8 a1_19, .int .u8 a1_20] 26 (0, 0)) (by exact B1076.out) hb); have n2_ := Aside0.mk (below_step (by repeat (first | (with_reducible first | exact HB.out | apply below_alloc | apply pw_below_drewN | apply below_drew1 | refine below_set ?_ GE1076.out) | exact HB.out)) hb); clear HO1079; clear B1076; clear HB; have HO1079 := n0_; have B1076 := n1_; have HB := n2_; clear n0_ n1_ n2_; (try clear hb); (try clear hb2); (try clear hk); (try clear hi)) | ((with_reducible refine gate_store (t := 26) (p := 3) rfl ?_); refine store_wide rfl 26 3 _ rfl rfl g1076 #[.int .i64 t1080, .int .u8 t1081, .int .u8 t1082, .int .u8 t1083, .int .u8 t1084, .int .u8 t1085, .int .u8 t1086, .int .u8 t1087, .int .u8 t1088, .int .u8 t1089, .int .u8 t1090, .int .u8 t1091, .int .u8 t1092, .int .u8 t1093, .int .u8 t1094, .int .u8 t1095, .int .u8 t1096, .int .u8 t1097, .int .u8 t1098, .int .u8 t1099, .int .u8 t1100] rfl rfl 26 #[.int .i64 a1_0, .int .u8 a1_1, .int .u8 a1_2, .int .u8 a1_3, .int .u8 a1_4, .int .u8 a1_5, .int .u8 a1_6, .int .u8 a1_7, .int .u8 a1_8, .int .u8 a1_9, .int .u8 a1_10, .int .u8 a1_11, .int .u8 a1_12, .int .u8 a1_13, .int .u8 a1_14, .int .u8 a1_15, .int .u8 a1_16, .int .u8 a1_17, .int .u8 a1_18, .int .u8 a1_19, .int .u8 a1_20] B1076.out (by kernel_rfl) rfl (by simp [Value.oneCell']) ?_; intro w91 hnew hoth hbel; have n0_ := Aside0.mk (Kd.R_mono (Kd.R_step (Kd.R_types HO1079.out B1076.out (by decide)) (fun k_ hk _ => hoth k_ hk.2)) (fun _ hk => hk.1)); have n1_ := Aside0.mk (hnew); have n2_ := Aside0.mk (Below.trans (by repeat (first | (with_reducible first | exact HB.out | apply below_alloc | apply pw_below_drewN | apply below_drew1 | refine below_set ?_ GE1076.out) | exact HB.out)) (hbel.mono GE1076.out)); clear HO1079; clear B1076; clear HB; have HO1079 := n0_; have B1076 := n1_; have HB := n2_; clear n0_ n1_ n2_; clear hnew hoth hbel) | ((with_reducible refine gate_dst (N := 20) rfl ?_); refine wpList_load_row rfl 26 (.tmp 3) rfl g1076 rfl 26 #[.int .i64 t1080, .int .u8 t1081, .int .u8 t1082, .int .u8 t1083, .int .u8 t1084, .int .u8 t1085, .int .u8 t1086, .int .u8 t1087, .int .u8 t1088, .int .u8 t1089, .int .u8 t1090, .int .u8 t1091, .int .u8 t1092, .int .u8 t1093, .int .u8 t1094, .int .u8 t1095, .int .u8 t1096, .int .u8 t1097, .int .u8 t1098, .int .u8 t1099, .int .u8 t1100] (0, 0) _ (by exact B1076.out) Tryd.underlying26 rfl (by kernel_rfl) ?_) | ((with_reducible refine gate_callee (f := 10) rfl ?_); refine goesL_ (some 21) rfl rfl Tryd.func10 (by kernel_rfl) rfl #[.slice Ao89 t1077.length co89, .agg #[.int .i64 t1080, .int .u8 t1081, .int .u8 t1082, .int .u8 t1083, .int .u8 t1084, .int .u8 t1085, .int .u8 t1086, .int .u8 t1087, .int .u8 t1088, .int .u8 t1089, .int .u8 t1090, .int .u8 t1091, .int .u8 t1092, .int .u8 t1093, .int .u8 t1094, .int .u8 t1095, .int .u8 t1096, .int .u8 t1097, .int .u8 t1098, .int .u8 t1099, .int .u8 t1100]] rfl (by (try simp only [List.map_toArray, List.map_cons, List.map_nil]); first | done | rfl | (go_simp; done)) ?_; (with_reducible refine (machine_Step.calls k _ _ t1077 t1080 t1081 t1082 t1083 t1084 t1085 t1086 t1087 t1088 t1089 t1090 t1091 t1092 t1093 t1094 t1095 t1096 t1097 t1098 t1099 t1100 t1101 t1102 t1103 t1104 t1105 t1106 t1107 t1108 t1109 t1110 t1111 t1112 t1113 t1114 t1115 t1116 t1117 t1118 t1119 t1120 t1121 t1122 _ ?side1 ?side2 ?side3 A5.out).mono ?_); (case side1 => repeat (first | exact (Kd.R_reads' HO1079.out).2.2 | (with_reducible refine Kd.C_alloc ?_ _) | (with_reducible refine Kd.C_drewN ?_ _) | (with_reducible refine Kd.C_drew ?_))); (case side2 => exact (Kd.R_reads' HO1079.out).2.1); (case side3 => repeat (first | exact (GL.below HRG.out HB.out) | (with_reducible refine GL.alloc ?_ _) | (with_reducible refine GL.drewN ?_ _) | (with_reducible refine GL.drew ?_))); rintro e w92 ⟨rfl, hb⟩; refine ⟨_, rfl, ?_⟩; have n0_ := Aside0.mk (Kd.R_below (by (with_reducible repeat (first | apply Kd.R_alloc | apply Kd.R_drewN | apply Kd.R_drew)); exact HO1079.out) hb); have n1_ := Aside0.mk (blk_below (g := g1076) (o := .cells #[.int .i64 t1080, .int .u8 t1081, .int .u8 t1082, .int .u8 t1083, .int .u8 t1084, .int .u8 t1085, .int .u8 t1086, .int .u8 t1087, .int .u8 t1088, .int .u8 t1089, .int .u8 t1090, .int .u8 t1091, .int .u8 t1092, .int .u8 t1093, .int .u8 t1094, .int .u8 t1095, .int .u8 t1096, .int .u8 t1097, .int .u8 t1098, .int .u8 t1099, .int .u8 t1100] 26 (0, 0)) (by exact B1076.out) hb); have n2_ := Aside0.mk (below_step (by repeat (first | (with_reducible first | exact HB.out | apply below_alloc | apply pw_below_drewN | apply below_drew1 | refine below_set ?_ GE1076.out) | exact HB.out)) hb); clear HO1079; clear B1076; clear HB; have HO1079 := n0_; have B1076 := n1_; have HB := n2_; clear n0_ n1_ n2_; (try clear hb); (try clear hb2); (try clear hk); (try clear hi)) | ((with_reducible refine gate_dst (N := 5) rfl ?_); refine box_event ?hg (N := 5) ?hd (cs := #[.int .i64 0, .int .u8 0, .int .u8 0, .int .u8 0, .int .u8 0, .int .u8 0, .int .u8 0, .int .u8 0, .int .u8 0, .int .u8 0, .int .u8 0, .int .u8 0, .int .u8 0, .int .u8 0, .int .u8 0, .int .u8 0, .int .u8 0, .int .u8 0, .int .u8 0, .int .u8 0, .int .u8 0]) (t := 26) ?hr ?_; (case hd => rfl); (case hg => rfl); (case hr => first | (go_simp; done) | (go_simp; rfl)); intro g1123 hg w93 hbox hb; have n0_ := Aside0.mk (Kd.R_below (by (with_reducible repeat (first | apply Kd.R_alloc | apply Kd.R_drewN | apply Kd.R_drew)); exact HO1079.out) hb); have n1_ := Aside0.mk (blk_below (g := g1076) (o := .cells #[.int .i64 t1080, .int .u8 t1081, .int .u8 t1082, .int .u8 t1083, .int .u8 t1084, .int .u8 t1085, .int .u8 t1086, .int .u8 t1087, .int .u8 t1088, .int .u8 t1089, .int .u8 t1090, .int .u8 t1091, .int .u8 t1092, .int .u8 t1093, .int .u8 t1094, .int .u8 t1095, .int .u8 t1096, .int .u8 t1097, .int .u8 t1098, .int .u8 t1099, .int .u8 t1100] 26 (0, 0)) (by exact B1076.out) hb); have n2_ := Aside0.mk (below_step (by repeat (first | (with_reducible first | exact HB.out | apply below_alloc | apply pw_below_drewN | apply below_drew1 | refine below_set ?_ GE1076.out) | exact HB.out)) hb); have n3_ := Aside0.mk (hbox); have n4_ := Aside0.mk ((by rw [hg]; exact (below_size (by repeat (first | (with_reducible first | exact HB.out | apply below_alloc | apply pw_below_drewN | apply below_drew1 | refine below_set ?_ GE1076.out) | exact HB.out))) : w.heap.size ≤ g1123)); have n5_ := Aside0.mk ((by rw [hg]; exact (below_size (by repeat (first | (with_reducible first | exact HB.out | apply below_alloc | apply pw_below_drewN | apply below_drew1 | refine below_set ?_ GE1076.out) | exact HB.out))) : w.heap.size ≤ g1123)); have n6_ := Aside0.mk ((by rw [hg]; exact Nat.ne_of_lt (blk_lt (g := g1076) (o := .cells #[.int .i64 t1080, .int .u8 t1081, .int .u8 t1082, .int .u8 t1083, .int .u8 t1084, .int .u8 t1085, .int .u8 t1086, .int .u8 t1087, .int .u8 t1088, .int .u8 t1089, .int .u8 t1090, .int .u8 t1091, .int .u8 t1092, .int .u8 t1093, .int .u8 t1094, .int .u8 t1095, .int .u8 t1096, .int .u8 t1097, .int .u8 t1098, .int .u8 t1099, .int .u8 t1100] 26 (0, 0)) (by exact B1076.out)) : g1076 ≠ g1123)); have n7_ := Aside0.mk ((by rw [hg]; exact Nat.ne_of_gt (blk_lt (g := g1076) (o := .cells #[.int .i64 t1080, .int .u8 t1081, .int .u8 t1082, .int .u8 t1083, .int .u8 t1084, .int .u8 t1085, .int .u8 t1086, .int .u8 t1087, .int .u8 t1088, .int .u8 t1089, .int .u8 t1090, .int .u8 t1091, .int .u8 t1092, .int .u8 t1093, .int .u8 t1094, .int .u8 t1095, .int .u8 t1096, .int .u8 t1097, .int .u8 t1098, .int .u8 t1099, .int .u8 t1100] 26 (0, 0)) (by exact B1076.out)) : g1123 ≠ g1076)); clear HO1079; clear B1076; clear HB; have HO1079 := n0_; have B1076 := n1_; have HB := n2_; have B1123 := n3_; have GW1123 := n4_; have GE1123 := n5_; have NB1076_1123 := n6_; have NB1123_1076 := n7_; clear n0_ n1_ n2_ n3_ n4_ n5_ n6_ n7_; clear hb hbox hg) | ((with_reducible refine gate_store (t := 26) (p := 5) rfl ?_); refine store_wide rfl 26 5 _ rfl rfl g1123 #[.int .i64 t1101, .int .u8 t1102, .int .u8 t1103, .int .u8 t1104, .int .u8 t1105, .int .u8 t1106, .int .u8 t1107, .int .u8 t1108, .int .u8 t1109, .int .u8 t1110, .int .u8 t1111, .int .u8 t1112, .int .u8 t1113, .int .u8 t1114, .int .u8 t1115, .int .u8 t1116, .int .u8 t1117, .int .u8 t1118, .int .u8 t1119, .int .u8 t1120, .int .u8 t1121] rfl rfl 26 #[.int .i64 0, .int .u8 0, .int .u8 0, .int .u8 0, .int .u8 0, .int .u8 0, .int .u8 0, .int .u8 0, .int .u8 0, .int .u8 0, .int .u8 0, .int .u8 0, .int .u8 0, .int .u8 0, .int .u8 0, .int .u8 0, .int .u8 0, .int .u8 0, .int .u8 0, .int .u8 0, .int .u8 0] B1123.out (by kernel_rfl) rfl (by simp [Value.oneCell']) ?_; intro w94 hnew hoth hbel; have n0_ := Aside0.mk (Kd.R_mono (Kd.R_step (Kd.R_types HO1079.out B1123.out (by decide)) (fun k_ hk _ => hoth k_ hk.2)) (fun _ hk => hk.1)); have n1_ := Aside0.mk ((hoth _ NB1076_1123.out).trans B1076.out); have n2_ := Aside0.mk (hnew); have n3_ := Aside0.mk (Below.trans (by repeat (first | (with_reducible first | exact HB.out | apply below_alloc | apply pw_below_drewN | apply below_drew1 | refine below_set ?_ GE1076.out | refine below_set ?_ GE1123.out) | exact HB.out)) (hbel.mono GE1123.out)); clear HO1079; clear B1076; clear B1123; clear HB; have HO1079 := n0_; have B1076 := n1_; have B1123 := n2_; have HB := n3_; clear n0_ n1_ n2_ n3_; clear hnew hoth hbel) | ((with_reducible refine gate_callee (f := 25) rfl ?_); refine goesL_ (some 25) rfl rfl Tryd.func25 (by kernel_rfl) rfl #[.slice Ao89 t1077.length co89] rfl (by (try simp only [List.map_toArray, List.map_cons, List.map_nil]); first | done | rfl | (go_simp; done)) ?_; (with_reducible refine (isa_Valid.calls k _ _ t1077 t1124 _ ?side1 ?side2 ?side3 A6.out).mono ?_); (case side1 => repeat (first | exact (Kd.R_reads' HO1079.out).2.2 | (with_reducible refine Kd.C_alloc ?_ _) | (with_reducible refine Kd.C_drewN ?_ _) | (with_reducible refine Kd.C_drew ?_))); (case side2 => exact (Kd.R_reads' HO1079.out).2.1); (case side3 => repeat (first | exact (GL.below HRG.out HB.out) | (with_reducible refine GL.alloc ?_ _) | (with_reducible refine GL.drewN ?_ _) | (with_reducible refine GL.drew ?_))); rintro e w95 ⟨rfl, hb⟩; refine ⟨_, rfl, ?_⟩; have n0_ := Aside0.mk (Kd.R_below (by (with_reducible repeat (first | apply Kd.R_alloc | apply Kd.R_drewN | apply Kd.R_drew)); exact HO1079.out) hb); have n1_ := Aside0.mk (blk_below (g := g1076) (o := .cells #[.int .i64 t1080, .int .u8 t1081, .int .u8 t1082, .int .u8 t1083, .int .u8 t1084, .int .u8 t1085, .int .u8 t1086, .int .u8 t1087, .int .u8 t1088, .int .u8 t1089, .int .u8 t1090, .int .u8 t1091, .int .u8 t1092, .int .u8 t1093, .int .u8 t1094, .int .u8 t1095, .int .u8 t1096, .int .u8 t1097, .int .u8 t1098, .int .u8 t1099, .int .u8 t1100] 26 (0, 0)) (by exact B1076.out) hb); have n2_ := Aside0.mk (blk_below (g := g1123) (o := .cells #[.int .i64 t1101, .int .u8 t1102, .int .u8 t1103, .int .u8 t1104, .int .u8 t1105, .int .u8 t1106, .int .u8 t1107, .int .u8 t1108, .int .u8 t1109, .int .u8 t1110, .int .u8 t1111, .int .u8 t1112, .int .u8 t1113, .int .u8 t1114, .int .u8 t1115, .int .u8 t1116, .int .u8 t1117, .int .u8 t1118, .int .u8 t1119, .int .u8 t1120, .int .u8 t1121] 26 (0, 0)) (by exact B1123.out) hb); have n3_ := Aside0.mk (below_step (by repeat (first | (with_reducible first | exact HB.out | apply below_alloc | apply pw_below_drewN | apply below_drew1 | refine below_set ?_ GE1076.out | refine below_set ?_ GE1123.out) | exact HB.out)) hb); clear HO1079; clear B1076; clear B1123; clear HB; have HO1079 := n0_; have B1076 := n1_; have B1123 := n2_; have HB := n3_; clear n0_ n1_ n2_ n3_; (try clear hb); (try clear hb2); (try clear hk); (try clear hi)) | ((with_reducible refine gate_dst (N := 30) rfl ?_); (try (refine gate_guard (by rfl) ?_; dsimp only)); refine wpList_load_row rfl 26 (.tmp 5) rfl g1123 rfl 26 #[.int .i64 t1101, .int .u8 t1102, .int .u8 t1103, .int .u8 t1104, .int .u8 t1105, .int .u8 t1106, .int .u8 t1107, .int .u8 t1108, .int .u8 t1109, .int .u8 t1110, .int .u8 t1111, .int .u8 t1112, .int .u8 t1113, .int .u8 t1114, .int .u8 t1115, .int .u8 t1116, .int .u8 t1117, .int .u8 t1118, .int .u8 t1119, .int .u8 t1120, .int .u8 t1121] (0, 0) _ (by exact B1123.out) Tryd.underlying26 rfl (by kernel_rfl) ?_) | (go_at_call 18; (with_reducible refine (attestorlaw28_lives.calls k  t1125 _ ?side1 A86.out).mono ?_); (case side1 => repeat (first | exact (GL.below HRG.out HB.out) | (with_reducible refine GL.alloc ?_ _) | (with_reducible refine GL.drewN ?_ _) | (with_reducible refine GL.drew ?_))); rintro e w96 ⟨rfl, hb⟩; have n0_ := Aside0.mk (Kd.R_below (by (with_reducible repeat (first | apply Kd.R_alloc | apply Kd.R_drewN | apply Kd.R_drew)); exact HO1079.out) hb); have n1_ := Aside0.mk (blk_below (g := g1076) (o := .cells #[.int .i64 t1080, .int .u8 t1081, .int .u8 t1082, .int .u8 t1083, .int .u8 t1084, .int .u8 t1085, .int .u8 t1086, .int .u8 t1087, .int .u8 t1088, .int .u8 t1089, .int .u8 t1090, .int .u8 t1091, .int .u8 t1092, .int .u8 t1093, .int .u8 t1094, .int .u8 t1095, .int .u8 t1096, .int .u8 t1097, .int .u8 t1098, .int .u8 t1099, .int .u8 t1100] 26 (0, 0)) (by exact B1076.out) hb); have n2_ := Aside0.mk (blk_below (g := g1123) (o := .cells #[.int .i64 t1101, .int .u8 t1102, .int .u8 t1103, .int .u8 t1104, .int .u8 t1105, .int .u8 t1106, .int .u8 t1107, .int .u8 t1108, .int .u8 t1109, .int .u8 t1110, .int .u8 t1111, .int .u8 t1112, .int .u8 t1113, .int .u8 t1114, .int .u8 t1115, .int .u8 t1116, .int .u8 t1117, .int .u8 t1118, .int .u8 t1119, .int .u8 t1120, .int .u8 t1121] 26 (0, 0)) (by exact B1123.out) hb); have n3_ := Aside0.mk (below_step (by repeat (first | (with_reducible first | exact HB.out | apply below_alloc | apply pw_below_drewN | apply below_drew1 | refine below_set ?_ GE1076.out | refine below_set ?_ GE1123.out) | exact HB.out)) hb); clear HO1079; clear B1076; clear B1123; clear HB; have HO1079 := n0_; have B1076 := n1_; have B1123 := n2_; have HB := n3_; clear n0_ n1_ n2_ n3_; (try clear hb); (try clear hb2); (try clear hk); (try clear hi)))
    go_ret
    exact ⟨by first | rfl | (simp [errW_none, errW_some] <;> rfl) | (simp [*, errW_none, errW_some] <;> rfl), by repeat (first | (with_reducible first | exact HB.out | apply below_alloc | apply pw_below_drewN | apply below_drew1 | refine below_set ?_ GE1076.out | refine below_set ?_ GE1123.out) | exact HB.out)⟩
   ·rw [if_neg c85] at H
    exact absurd H (by simp)
  ·rw [if_neg c84] at H
   exact absurd H (by simp)

end Go.Proofs.YtgmdpghbkjlnhaaDoor.Q
end
section
namespace Go.Proofs.YtgmdpghbkjlnhaaDoor.Q
open Go.RowKit Go.Proofs.YtgmdpghbkjlnhaaDoorW.PrintWords Go.Proofs.YtgmdpghbkjlnhaaDoorW.PrintLast Go.Proofs.YtgmdpghbkjlnhaaDoorW.PrintMore
set_option linter.unusedVariables false
set_option linter.unusedSimpArgs false
def nxl (i : S47) (x : Int) : List Int := if i.f0 = 0 then [x] else if i.f0 = 8 then (if i.f3 = x + 1 then [x + 1] else if i.f3 < x + 1 then [i.f3, x + 1] else [x + 1, i.f3]) else [x + 1]
theorem wrx {x : Int} {n : Nat} (h0 : 0 ≤ x) (h1 : x ≤ n) (hn : n ≤ 40) : wrap64 (x + 1) = x + 1 := by unfold wrap64; omega
theorem wrb {x : Int} (h0 : 0 ≤ x) (h1 : x ≤ 255) : wrap64 x = x := by unfold wrap64; omega
theorem after_f (l : List S47) (x : Int) (k : Nat) (h0 : 0 ≤ x) (h1 : x ≤ (l.length : Int)) (hn : l.length ≤ 40) (hb : 0 ≤ (fet l x).f3 ∧ (fet l x).f3 ≤ 255) : isa_after.f (k + 1) l x = some (nxl (fet l x) x) := by
  unfold isa_after.f nxl
  refine bnd (fetch_f l x) ?_
  rw [wrb hb.1 hb.2, wrx h0 h1 hn]
  refine iteb (fun h => ?_) (fun h => ?_)
  · rw [if_pos (show (fet l x).f0 = 0 from h)]
  · rw [if_neg (show ¬ (fet l x).f0 = 0 from h)]
    refine iteb (fun h8 => ?_) (fun h8 => ?_)
    · rw [if_pos (show (fet l x).f0 = 8 from h8), isa_after.j0, wrx h0 h1 hn]
      by_cases e : (fet l x).f3 = x + 1
      · rw [if_pos (show ((fet l x).f3 == x + 1) = true from beq_iff_eq.2 e), if_pos e]
      · rw [if_neg (show ¬ ((fet l x).f3 == x + 1) = true from fun q => e (beq_iff_eq.1 q)), if_neg e]
        by_cases e2 : (fet l x).f3 < x + 1
        · rw [if_pos e2, if_pos e2]
        · rw [if_neg e2, if_neg e2]
    · rw [if_neg (show ¬ (fet l x).f0 = 8 from h8), isa_after.j0, if_pos rfl, wrx h0 h1 hn]
theorem next_f (l : List S47) (hw : ∀ i ∈ l, wfI i) (hn : l.length ≤ 40) (hP : okP l) (x : Int) (k : Nat) (hk : 41 ≤ k) (h0 : 0 ≤ x) (h1 : x ≤ (l.length : Int)) : isa_Next.f k l x = some (nxl (fet l x) x) := by
  obtain ⟨e, hE, hE2⟩ := valid_some l hw hn k hk
  unfold isa_Next.f
  refine bnd hE ((if_pos (hE2.2 hP)).trans ((if_neg (Int.not_lt.2 h0)).trans ((if_neg (Int.not_lt.2 h1)).trans ?_)))
  obtain ⟨k, rfl⟩ : ∃ j, k = j + 1 := ⟨k - 1, by omega⟩
  obtain ⟨⟨_, _, _, w3⟩, _⟩ := fet_ok hP x
  exact bnd (after_f l x k h0 h1 hn w3) rfl
theorem reg_setR (s : M) {a v x : Int} (h0 : 0 ≤ x) (h4 : x < 4) (hne : ¬ x = a) : reg (setR s a v) x = reg s x := by
  have hne2 : ¬ a = x := fun q => hne q.symm
  rcases (show x = 0 ∨ x = 1 ∨ x = 2 ∨ x = 3 by omega) with rfl | rfl | rfl | rfl
  all_goals (simp only [reg, setR, updv]; exact if_neg hne2)
theorem mem_setM (s : M) {a v x : Int} (h0 : 0 ≤ x) (h4 : x < 16) (hne : ¬ x = a) : mem (setM s a v) x = mem s x := by
  have hne2 : ¬ a = x := fun q => hne q.symm
  rcases (show x = 0 ∨ x = 1 ∨ x = 2 ∨ x = 3 ∨ x = 4 ∨ x = 5 ∨ x = 6 ∨ x = 7 ∨ x = 8 ∨ x = 9 ∨ x = 10 ∨ x = 11 ∨ x = 12 ∨ x = 13 ∨ x = 14 ∨ x = 15 by omega) with rfl | rfl | rfl | rfl | rfl | rfl | rfl | rfl | rfl | rfl | rfl | rfl | rfl | rfl | rfl | rfl
  all_goals (simp only [mem, setM, updv]; exact if_neg hne2)
theorem stp_reg (i : S47) (s : M) {x : Int} (h0 : 0 ≤ x) (h4 : x < 4) : reg (stp i s) x = reg s x ∨ (x = i.f1 ∧ ¬ i.f0 < 1 ∧ ¬ i.f0 > 6) := by
  have hr : ∀ v : Int, 1 ≤ i.f0 → i.f0 ≤ 6 → reg (nxt (setR s i.f1 v)) x = reg s x ∨ (x = i.f1 ∧ ¬ i.f0 < 1 ∧ ¬ i.f0 > 6) := by
    intro v g1 g6
    by_cases e : x = i.f1
    · exact Or.inr ⟨e, by omega, by omega⟩
    · exact Or.inl (reg_setR s h0 h4 e)
  unfold stp
  by_cases e0 : i.f0 = 0
  · rw [if_pos e0]; exact Or.inl rfl
  rw [if_neg e0]
  by_cases e1 : i.f0 = 1
  · rw [if_pos e1]; exact hr _ (by omega) (by omega)
  rw [if_neg e1]
  by_cases e2 : i.f0 = 2
  · rw [if_pos e2]; exact hr _ (by omega) (by omega)
  rw [if_neg e2]
  by_cases e3 : i.f0 = 3
  · rw [if_pos e3]; exact hr _ (by omega) (by omega)
  rw [if_neg e3]
  by_cases e4 : i.f0 = 4
  · rw [if_pos e4]; exact hr _ (by omega) (by omega)
  rw [if_neg e4]
  by_cases e5 : i.f0 = 5
  · rw [if_pos e5]; exact hr _ (by omega) (by omega)
  rw [if_neg e5]
  by_cases e6 : i.f0 = 6
  · rw [if_pos e6]; exact hr _ (by omega) (by omega)
  rw [if_neg e6]
  by_cases e7 : i.f0 = 7
  · rw [if_pos e7]; exact Or.inl rfl
  rw [if_neg e7]
  by_cases e8 : reg s i.f1 = 0
  · rw [if_pos e8]; exact Or.inl rfl
  · rw [if_neg e8]; exact Or.inl rfl
theorem stp_mem (i : S47) (s : M) {x : Int} (h0 : 0 ≤ x) (h4 : x < 16) : mem (stp i s) x = mem s x ∨ (i.f0 = 7 ∧ x = reg s i.f2 % 16) := by
  unfold stp
  by_cases e0 : i.f0 = 0
  · rw [if_pos e0]; exact Or.inl rfl
  rw [if_neg e0]
  by_cases e1 : i.f0 = 1
  · rw [if_pos e1]; exact Or.inl rfl
  rw [if_neg e1]
  by_cases e2 : i.f0 = 2
  · rw [if_pos e2]; exact Or.inl rfl
  rw [if_neg e2]
  by_cases e3 : i.f0 = 3
  · rw [if_pos e3]; exact Or.inl rfl
  rw [if_neg e3]
  by_cases e4 : i.f0 = 4
  · rw [if_pos e4]; exact Or.inl rfl
  rw [if_neg e4]
  by_cases e5 : i.f0 = 5
  · rw [if_pos e5]; exact Or.inl rfl
  rw [if_neg e5]
  by_cases e6 : i.f0 = 6
  · rw [if_pos e6]; exact Or.inl rfl
  rw [if_neg e6]
  by_cases e7 : i.f0 = 7
  · rw [if_pos e7]
    by_cases e : x = reg s i.f2 % 16
    · exact Or.inr ⟨e7, e⟩
    · exact Or.inl (mem_setM s h0 h4 e)
  rw [if_neg e7]
  by_cases e8 : reg s i.f1 = 0
  · rw [if_pos e8]; exact Or.inl rfl
  · rw [if_neg e8]; exact Or.inl rfl
theorem stp_place_in (i : S47) (s : M) (hw1 : wrap64 (s.p0 + 1) = s.p0 + 1) (h9 : i.f0 < 9) (h00 : 0 ≤ i.f0) : ∃ m : Nat, m < (nxl i s.p0).length ∧ rd (nxl i s.p0) (m : Int) = (stp i s).p0 := by
  have one : ∀ t : M, t.p0 = s.p0 → (nxt t).p0 = s.p0 + 1 := by
    intro t ht
    show wrap64 (t.p0 + 1) = _
    rw [ht, hw1]
  have mid : ¬ i.f0 = 0 → ¬ i.f0 = 8 → ∀ t : M, t.p0 = s.p0 → ∃ m : Nat, m < (nxl i s.p0).length ∧ rd (nxl i s.p0) (m : Int) = (nxt t).p0 := by
    intro g0 g8 t ht
    unfold nxl
    rw [if_neg g0, if_neg g8]
    exact ⟨0, Nat.zero_lt_one, (one t ht).symm⟩
  unfold stp
  by_cases e0 : i.f0 = 0
  · rw [if_pos e0]
    unfold nxl
    rw [if_pos e0]
    exact ⟨0, Nat.zero_lt_one, rfl⟩
  rw [if_neg e0]
  by_cases e1 : i.f0 = 1
  · rw [if_pos e1]; exact mid e0 (by omega) _ rfl
  rw [if_neg e1]
  by_cases e2 : i.f0 = 2
  · rw [if_pos e2]; exact mid e0 (by omega) _ rfl
  rw [if_neg e2]
  by_cases e3 : i.f0 = 3
  · rw [if_pos e3]; exact mid e0 (by omega) _ rfl
  rw [if_neg e3]
  by_cases e4 : i.f0 = 4
  · rw [if_pos e4]; exact mid e0 (by omega) _ rfl
  rw [if_neg e4]
  by_cases e5 : i.f0 = 5
  · rw [if_pos e5]; exact mid e0 (by omega) _ rfl
  rw [if_neg e5]
  by_cases e6 : i.f0 = 6
  · rw [if_pos e6]; exact mid e0 (by omega) _ rfl
  rw [if_neg e6]
  by_cases e7 : i.f0 = 7
  · rw [if_pos e7]; exact mid e0 (by omega) _ rfl
  rw [if_neg e7]
  have g8 : i.f0 = 8 := by omega
  unfold nxl
  rw [if_neg e0, if_pos g8]
  by_cases e8 : reg s i.f1 = 0
  · rw [if_pos e8, one s rfl]
    by_cases q : i.f3 = s.p0 + 1
    · rw [if_pos q]; exact ⟨0, Nat.zero_lt_one, rfl⟩
    · rw [if_neg q]
      by_cases q2 : i.f3 < s.p0 + 1
      · rw [if_pos q2]; exact ⟨1, Nat.one_lt_two, rfl⟩
      · rw [if_neg q2]; exact ⟨0, Nat.zero_lt_two, rfl⟩
  · rw [if_neg e8]
    show ∃ m : Nat, _ ∧ rd _ (m : Int) = i.f3
    by_cases q : i.f3 = s.p0 + 1
    · rw [if_pos q]; exact ⟨0, Nat.zero_lt_one, q.symm⟩
    · rw [if_neg q]
      by_cases q2 : i.f3 < s.p0 + 1
      · rw [if_pos q2]; exact ⟨0, Nat.zero_lt_two, rfl⟩
      · rw [if_neg q2]; exact ⟨1, Nat.one_lt_two, rfl⟩
theorem wrn {m n : Nat} (h : m < n) (hn : n ≤ 1000) : wrap64 ((m : Int) + 1) = ((m + 1 : Nat) : Int) := by unfold wrap64; omega
theorem tm16 {x : Int} (h0 : 0 ≤ x) (h1 : x ≤ 255) : Int.tmod (wrap64 x) 16 = x % 16 := by rw [wrb h0 h1, Int.tmod_eq_emod_of_nonneg h0]
theorem changes_l2 {s n : M} {i : S47} (h2 : 0 ≤ i.f2) (h2b : i.f2 < 4) (hs : okS s) (hm : ∀ x : Int, 0 ≤ x → x < 16 → mem n x = mem s x ∨ (i.f0 = 7 ∧ x = reg s i.f2 % 16)) : ∀ (d m k : Nat), 16 - m = d → m ≤ 16 → d + 300 ≤ k → attestorlaw28_MachineChanges.l2 k (m : Int) s.p0 s.p1 s.p2 s.p3 s.p4 s.p5 s.p6 s.p7 s.p8 s.p9 s.p10 s.p11 s.p12 s.p13 s.p14 s.p15 s.p16 s.p17 s.p18 s.p19 s.p20 n.p0 n.p1 n.p2 n.p3 n.p4 n.p5 n.p6 n.p7 n.p8 n.p9 n.p10 n.p11 n.p12 n.p13 n.p14 n.p15 n.p16 n.p17 n.p18 n.p19 n.p20 i.f0 i.f1 i.f2 i.f3 = some true := by
  intro d
  induction d with
  | zero =>
    intro m k hd hm2 hk
    obtain ⟨k, rfl⟩ : ∃ j, k = j + 1 := ⟨k - 1, by omega⟩
    rw [attestorlaw28_MachineChanges.l2]
    refine (if_neg (by omega)).trans ?_
    exact bnd (lives_true _ (by omega)) rfl
  | succ d ih =>
    intro m k hd hm2 hk
    obtain ⟨k, rfl⟩ : ∃ j, k = j + 1 := ⟨k - 1, by omega⟩
    have hm3 : m < 16 := by omega
    have next := ih (m + 1) k (by omega) (by omega) (by omega)
    clear ih
    rw [attestorlaw28_MachineChanges.l2, wrn hm3 (by decide)]
    refine (if_pos (Int.ofNat_lt.2 hm3)).trans ((if_pos (Int.natCast_nonneg _)).trans ?_)
    refine iteb (fun _ => next) (fun hc => ?_)
    rcases hm (m : Int) (Int.natCast_nonneg _) (Int.ofNat_lt.2 hm3) with e | ⟨e7, ex⟩
    · exact absurd e hc
    · refine (if_pos e7).trans ((if_pos h2).trans ((if_pos h2b).trans ((if_pos ?_).trans next)))
      have hb := reg_bd hs h2 h2b
      exact ex.trans (tm16 hb.1 hb.2).symm
theorem changes_l1 {s n : M} {i : S47} (h1 : 0 ≤ i.f1) (h1b : i.f1 < 4) (h2 : 0 ≤ i.f2) (h2b : i.f2 < 4) (hs : okS s) (hm : ∀ x : Int, 0 ≤ x → x < 16 → mem n x = mem s x ∨ (i.f0 = 7 ∧ x = reg s i.f2 % 16)) (hr : ∀ x : Int, 0 ≤ x → x < 4 → reg n x = reg s x ∨ (x = i.f1 ∧ ¬ i.f0 < 1 ∧ ¬ i.f0 > 6)) : ∀ (d m k : Nat), 4 - m = d → m ≤ 4 → d + 320 ≤ k → attestorlaw28_MachineChanges.l1 k (m : Int) s.p0 s.p1 s.p2 s.p3 s.p4 s.p5 s.p6 s.p7 s.p8 s.p9 s.p10 s.p11 s.p12 s.p13 s.p14 s.p15 s.p16 s.p17 s.p18 s.p19 s.p20 n.p0 n.p1 n.p2 n.p3 n.p4 n.p5 n.p6 n.p7 n.p8 n.p9 n.p10 n.p11 n.p12 n.p13 n.p14 n.p15 n.p16 n.p17 n.p18 n.p19 n.p20 i.f0 i.f1 i.f2 i.f3 = some true := by
  intro d
  induction d with
  | zero =>
    intro m k hd hm2 hk
    obtain ⟨k, rfl⟩ : ∃ j, k = j + 1 := ⟨k - 1, by omega⟩
    rw [attestorlaw28_MachineChanges.l1]
    refine (if_neg (by omega)).trans ?_
    exact changes_l2 h2 h2b hs hm 16 0 k rfl (Nat.zero_le _) (by omega)
  | succ d ih =>
    intro m k hd hm2 hk
    obtain ⟨k, rfl⟩ : ∃ j, k = j + 1 := ⟨k - 1, by omega⟩
    have hm3 : m < 4 := by omega
    have next := ih (m + 1) k (by omega) (by omega) (by omega)
    clear ih
    rw [attestorlaw28_MachineChanges.l1, wrn hm3 (by decide), wrb h1 (by omega : i.f1 ≤ 255)]
    refine (if_pos (Int.ofNat_lt.2 hm3)).trans ((if_pos (Int.natCast_nonneg _)).trans ?_)
    refine iteb (fun _ => next) (fun hc => ?_)
    rcases hr (m : Int) (Int.natCast_nonneg _) (Int.ofNat_lt.2 hm3) with e | ⟨ex, g1, g6⟩
    · exact absurd e hc
    · exact (if_pos ex).trans ((if_neg g1).trans ((if_neg g6).trans next))
theorem changes_l0 (l : List S47) (hw : ∀ i ∈ l, wfI i) (hn : l.length ≤ 40) (s : M) (hB : okB l s = true) (hs : okS s) (X : List Int) (hX : X.length ≤ 2) : ∀ (d m k : Nat) (b : Bool), X.length - m = d → m ≤ X.length → d + 400 ≤ k → (b = true ∨ ∃ j, m ≤ j ∧ j < X.length ∧ rd X (j : Int) = (stp (fet l s.p0) s).p0) →
    attestorlaw28_MachineChanges.l0 k l 0 b X (m : Int) s.p0 s.p1 s.p2 s.p3 s.p4 s.p5 s.p6 s.p7 s.p8 s.p9 s.p10 s.p11 s.p12 s.p13 s.p14 s.p15 s.p16 s.p17 s.p18 s.p19 s.p20 (stp (fet l s.p0) s).p0 (stp (fet l s.p0) s).p1 (stp (fet l s.p0) s).p2 (stp (fet l s.p0) s).p3 (stp (fet l s.p0) s).p4 (stp (fet l s.p0) s).p5 (stp (fet l s.p0) s).p6 (stp (fet l s.p0) s).p7 (stp (fet l s.p0) s).p8 (stp (fet l s.p0) s).p9 (stp (fet l s.p0) s).p10 (stp (fet l s.p0) s).p11 (stp (fet l s.p0) s).p12 (stp (fet l s.p0) s).p13 (stp (fet l s.p0) s).p14 (stp (fet l s.p0) s).p15 (stp (fet l s.p0) s).p16 (stp (fet l s.p0) s).p17 (stp (fet l s.p0) s).p18 (stp (fet l s.p0) s).p19 (stp (fet l s.p0) s).p20 (fet l s.p0).f0 (fet l s.p0).f1 (fet l s.p0).f2 (fet l s.p0).f3 = some true := by
  intro d
  have hP := ((okB_iff l s).1 hB).1
  obtain ⟨⟨⟨w0, _⟩, ⟨w1, _⟩, ⟨w2, _⟩, ⟨w3, w4⟩⟩, h9, ha, hb, hg, hj⟩ := fet_ok hP s.p0
  induction d with
  | zero =>
    intro m k b hd hm hk hb2
    obtain ⟨k, rfl⟩ : ∃ j, k = j + 2 := ⟨k - 2, by omega⟩
    have hbt : b = true := by
      rcases hb2 with h | ⟨j, g1, g2, _⟩
      · exact h
      · exfalso; omega
    rw [attestorlaw28_MachineChanges.l0]
    refine (if_neg (show ¬ ((m : Int) < (X.length : Int)) by omega)).trans ((if_pos rfl).trans ((if_pos hbt).trans ?_))
    refine bnd (Halted_f l hw hn (k + 1) (by omega) s) ?_
    rw [hB, Bool.true_and]
    have l1 := changes_l1 (i := fet l s.p0) (n := stp (fet l s.p0) s) w1 (by omega) w2 (by omega) hs (fun x => stp_mem (fet l s.p0) s) (fun x => stp_reg (fet l s.p0) s) 4 0 k rfl (Nat.zero_le _) (by omega)
    by_cases e0 : (fet l s.p0).f0 = 0
    · rw [show decide ((fet l s.p0).f0 = 0) = true from decide_eq_true e0, show ((fet l s.p0).f0 == 0) = true from beq_iff_eq.2 e0]
      refine (if_neg (by decide)).trans ((if_pos e0).trans ?_)
      have es : stp (fet l s.p0) s = s := by unfold stp; exact if_pos e0
      rw [attestorlaw28_MachineChanges.j1]
      refine (if_neg ?_).trans l1
      rw [es]
      simp only [beq_self_eq_true, Bool.not_true, Bool.or_self]
      decide
    · rw [show decide ((fet l s.p0).f0 = 0) = false from decide_eq_false e0, show ((fet l s.p0).f0 == 0) = false from beq_eq_false_iff_ne.2 e0]
      refine (if_neg (by decide)).trans ((if_neg e0).trans ?_)
      rw [attestorlaw28_MachineChanges.j1]
      exact (if_neg (by decide)).trans l1
  | succ d ih =>
    intro m k b hd hm hk hb2
    obtain ⟨k, rfl⟩ : ∃ j, k = j + 1 := ⟨k - 1, by omega⟩
    have hm3 : m < X.length := by omega
    have next := fun b' => ih (m + 1) k b' (by omega) (by omega) (by omega)
    clear ih
    rw [attestorlaw28_MachineChanges.l0, wrn hm3 (by omega)]
    refine (if_pos (Int.ofNat_lt.2 hm3)).trans ?_
    refine iteb (fun hb3 => next true (Or.inl rfl)) (fun hb3 => ?_)
    refine (if_pos (Int.natCast_nonneg _)).trans (next _ ?_)
    rcases hb2 with h | ⟨j, g1, g2, g3⟩
    · exact absurd h hb3
    · by_cases e : j = m
      · left; rw [← e]; exact beq_iff_eq.2 g3
      · right; exact ⟨j, by omega, g2, g3⟩
theorem nxl_length (i : S47) (x : Int) : (nxl i x).length ≤ 2 := by
  unfold nxl
  repeat' split
  all_goals first | exact Nat.le_succ 1 | exact Nat.le_refl 2
theorem changes_true (l : List S47) (hw : ∀ i ∈ l, wfI i) (s : M) (hs : okS s) : ∃ k, attestorlaw28_MachineChanges.f k l s.p0 s.p1 s.p2 s.p3 s.p4 s.p5 s.p6 s.p7 s.p8 s.p9 s.p10 s.p11 s.p12 s.p13 s.p14 s.p15 s.p16 s.p17 s.p18 s.p19 s.p20 = some true := by
  obtain ⟨L, hL, hn, hm⟩ := cut_f l
  have hwL : ∀ i ∈ L, wfI i := fun i hi => hw i (hm i hi)
  obtain ⟨p, hp0, hp1, hV⟩ := valid_state L hn s
  obtain ⟨e, hE, hE2⟩ := valid_some L hwL hn 1001 (by decide)
  refine ⟨1001, ?_⟩
  unfold attestorlaw28_MachineChanges.f
  refine bnd hL (bnd hV ?_)
  have hsp : okS (atM s p) := okS_at hs p
  generalize hS : atM s p = S at hsp
  have hp2 : S.p0 = p := by rw [← hS]; rfl
  clear hS hV
  subst hp2
  refine bnd (Step_f L hwL hn 1001 (by decide) hsp) (bnd hE ?_)
  by_cases he : e = 0
  · have hB : okB L S = true := (okB_iff L S).2 ⟨hE2.1 he, hp0, hp1⟩
    refine (if_pos he).trans ?_
    rw [if_pos hB]
    refine bnd (fetch_f L S.p0) ?_
    refine bnd (next_f L hwL hn (hE2.1 he) S.p0 1001 (by decide) hp0 hp1) ?_
    obtain ⟨⟨⟨w0, _⟩, _⟩, h9, _⟩ := fet_ok (hE2.1 he) S.p0
    obtain ⟨m, g1, g2⟩ := stp_place_in (fet L S.p0) S (wrx hp0 hp1 hn) h9 w0
    exact changes_l0 L hwL hn S hB hsp (nxl (fet L S.p0) S.p0) (nxl_length _ _) _ 0 1001 false rfl (Nat.zero_le _) (by have := nxl_length (fet L S.p0) S.p0; omega) (Or.inr ⟨m, Nat.zero_le _, g1, g2⟩)
  · have hB : ¬ okB L S = true := fun q => he (hE2.2 ((okB_iff L S).1 q).1)
    refine (if_neg he).trans ?_
    rw [if_neg hB]
    refine (if_pos rfl).trans ?_
    refine (if_pos (by decide)).trans ?_
    exact bnd (lives_true _ (by decide)) rfl
end Go.Proofs.YtgmdpghbkjlnhaaDoor.Q
end
section
namespace Go.Proofs.YtgmdpghbkjlnhaaDoor.Q
open Go.ChangeShapes Go.WideShapes Go.ChangeAt Go.WideMaps Go.WideElems Go.RowKit
open Go.Proofs.YtgmdpghbkjlnhaaDoorW.PrintWords Go.Proofs.YtgmdpghbkjlnhaaDoorW.PrintLast Go.Proofs.YtgmdpghbkjlnhaaDoorW.PrintMore
open Go.Proofs.YtgmdpghbkjlnhaaDoor.Opn
set_option linter.unusedVariables false

set_option maxRecDepth 100000 in
theorem machineChanges_lifted (os : Os) (started : os.Started) (H : Type) (enc : TypeId × Value → H) :
    ReturnsInHanded {} Tryd.checked os 8 .any (fun w args => (Rows.machineChangesSpec.pre enc Tryd.prog Tryd.f8 [] false w args ∧ laidMetH Tryd.prog laid1 w) ∧ sizedMet enc Tryd.prog Tryd.f8 (OpenSpec.ofChange Rows.machineChangesSpec) false w args)
      (Rows.machineChangesSpec.post enc Tryd.prog Tryd.f8 false true false false) := by
  refine returnsInHanded_of_change_and (C := Tryd.checked) (X := (fun w _ => laidMetH Tryd.prog laid1 w)) (fun _ _ _ hh h => h.of_heap hh) own started (by kernel_rfl) Tryd.func8
    (ChangeSpec.witness_shaped (enc := enc) (C := Tryd.checked) (os := os) (X := (fun w _ => laidMetH Tryd.prog laid1 w)) false (World.doorLaid Tryd.prog 400 os) #[.slice none 0 0, .agg #[.int .i64 0, .int .u8 0, .int .u8 0, .int .u8 0, .int .u8 0, .int .u8 0, .int .u8 0, .int .u8 0, .int .u8 0, .int .u8 0, .int .u8 0, .int .u8 0, .int .u8 0, .int .u8 0, .int .u8 0, .int .u8 0, .int .u8 0, .int .u8 0, .int .u8 0, .int .u8 0, .int .u8 0]] 8 rfl (World.shaped_of_RefB (by kernel_rfl) (by kernel_rfl)) (by kernel_rfl) (by kernel_rfl) (by kernel_rfl) (door_met os _)) ?_
  intro W base args ds gs before hval0 hW _ _ hL _
  have hval : ∀ (j : Nat) t v, Tryd.f8.params[j]? = some t → args[j]? = some v → Value.okWide Tryd.prog W .any base t v := hval0
  have hW' := hW
  obtain ⟨p, q, hA0, hV, rfl, hfz, hnd⟩ := hW
  have hA : DataW.TrodAll enc Tryd.prog W 0 (fun _ => true) true Tryd.f8.params.toList args.toList ds p := hA0
  rw [Tryd.params8] at hA hval
  obtain ⟨v0, vs0, d0, ds0, p0, q0, hargs, rfl, rfl, h0, r0⟩ := trodAll_cons hA
  obtain ⟨v1, vs1, d1, ds1, p1, q1, rfl, rfl, rfl, h1, r1⟩ := trodAll_cons r0
  obtain ⟨rfl, rfl, rfl⟩ := trodAll_nil r1
  obtain rfl : args = #[v0, v1] := by cases args; simp_all
  obtain ⟨rfl, rfl⟩ := trodVars_none hV
  obtain ⟨a0, len0, cap0, rfl⟩ := okWide_slice Tryd.underlying22 (hval 0 22 v0 rfl rfl)
  have k0 := h0
  have lt0 : ∀ x ∈ p0, x.block < W.heap.size := by obtain ⟨m, hm⟩ := k0; exact DataW.trod_lt m _ _ _ hm
  obtain ⟨m0, hm0⟩ := h0
  obtain ⟨l0, ⟨A0, c0, hc0, hle0, hC0⟩, hw0⟩ := opn22 (enc := enc) (W := W) m0 _ _ hm0
  simp only [Value.cells, List.cons.injEq, and_true, Value.slice.injEq] at hc0
  obtain ⟨rfl, rfl, rfl⟩ := hc0
  have k1 := h1
  have lt1 : ∀ x ∈ p1, x.block < W.heap.size := by obtain ⟨m, hm⟩ := k1; exact DataW.trod_lt m _ _ _ hm
  obtain ⟨cs1, rfl, _⟩ := okWide_struct Tryd.underlying26 (hval 1 26 v1 rfl rfl)
  obtain ⟨m1, hm1⟩ := h1
  obtain ⟨a1_0, a1_1, a1_2, a1_3, a1_4, a1_5, a1_6, a1_7, a1_8, a1_9, a1_10, a1_11, a1_12, a1_13, a1_14, a1_15, a1_16, a1_17, a1_18, a1_19, a1_20, hcs1, w1_0, w1_1, w1_2, w1_3, w1_4, w1_5, w1_6, w1_7, w1_8, w1_9, w1_10, w1_11, w1_12, w1_13, w1_14, w1_15, w1_16, w1_17, w1_18, w1_19, w1_20⟩ := flat26 m1 _ _ hm1
  obtain rfl : cs1 = #[.int .i64 a1_0, .int .u8 a1_1, .int .u8 a1_2, .int .u8 a1_3, .int .u8 a1_4, .int .u8 a1_5, .int .u8 a1_6, .int .u8 a1_7, .int .u8 a1_8, .int .u8 a1_9, .int .u8 a1_10, .int .u8 a1_11, .int .u8 a1_12, .int .u8 a1_13, .int .u8 a1_14, .int .u8 a1_15, .int .u8 a1_16, .int .u8 a1_17, .int .u8 a1_18, .int .u8 a1_19, .int .u8 a1_20] := by cases cs1; simp only [Value.cells] at hcs1; subst hcs1; rfl
  clear hA0 hval0
  refine (attestorlaw28_MachineChanges.calls _ a0 cap0 l0 a1_0 a1_1 a1_2 a1_3 a1_4 a1_5 a1_6 a1_7 a1_8 a1_9 a1_10 a1_11 a1_12 a1_13 a1_14 a1_15 a1_16 a1_17 a1_18 a1_19 a1_20 true W hC0 hle0 (gl_of_laid hL) (changes_true l0 (fun i hi => wfI_of (hw0 i hi)) ⟨a1_0, a1_1, a1_2, a1_3, a1_4, a1_5, a1_6, a1_7, a1_8, a1_9, a1_10, a1_11, a1_12, a1_13, a1_14, a1_15, a1_16, a1_17, a1_18, a1_19, a1_20⟩ (okS_mk w1_1 w1_2 w1_3 w1_4 w1_5 w1_6 w1_7 w1_8 w1_9 w1_10 w1_11 w1_12 w1_13 w1_14 w1_15 w1_16 w1_17 w1_18 w1_19 w1_20)).choose_spec).mono fun e W' ⟨he, bel⟩ => ?_
  subst he
  exact ⟨_, rfl, _, _, _, [], _, [], hW', trodAll_mk1 (shut_bool Tryd.underlying4 _), (trodAll_cons_mk (Below.trod laidOut (by kernel_rfl) (of_decide_eq_true (by kernel_rfl)) k0 bel lt0) (trodAll_cons_mk (Below.trod laidOut (by kernel_rfl) (of_decide_eq_true (by kernel_rfl)) k1 bel lt1) trodAll_mk0)), rfl, bel.frame _, fun h => by cases h⟩
theorem machineChanges_row : Rows.MachineChangesSaid :=
  OpenClaim.holds_of_wide 8 Tryd.f8 rfl rfl rfl rfl rfl rfl rfl ⟨rfl, rfl, rfl, rfl, rfl⟩ rfl rfl rfl rfl rfl (by kernel_rfl) Tryd.func8 (by kernel_rfl)
    (of_decide_eq_true (by kernel_rfl)) (by unfold Func.isWrapper; first | (rw [if_pos (by decide +kernel)]; kernel_rfl) | (rw [if_neg (by decide +kernel)]; exact ⟨rfl, rfl⟩))
    (fun os started H enc _ => machineChanges_lifted os started H enc)
theorem machineChanges_card : Rows.MachineChangesCardSaid :=
  Claim7.holds_tied_plain_at .later [] [.data] true Rows.machineChangesCard.stood.harness false
    machineChanges_row (fun _ h => by cases h) (by kernel_rfl) (fun _ h => by cases h) machineChanges_row_tie rfl ⟨rfl, rfl⟩ (by kernel_rfl) rfl
    (fun f fn hf hfn => by
      obtain rfl : f = 8 := Option.some.inj ((show Tryd.prog.funcNamed "attestor/attestorlaw28.MachineChanges" = some 8 by kernel_rfl).symm.trans hf) |>.symm
      obtain rfl : fn = Tryd.f8 := (Option.some.inj (Tryd.func8.symm.trans hfn)).symm
      exact ⟨by kernel_rfl, fun j t ht => by
        rw [Tryd.params8] at ht
        have hm : t ∈ [22, 26] := by simpa using Array.mem_of_getElem? ht
        have hall : ([22, 26].all fun u => !Tryd.prog.wantsStandIn u) = true := by kernel_rfl
        exact (show Tryd.prog.wantsStandIn t = false by simpa using List.all_eq_true.1 hall t hm)⟩)
    (by kernel_rfl)
end Go.Proofs.YtgmdpghbkjlnhaaDoor.Q
namespace Go.Proofs.YtgmdpghbkjlnhaaDoor
/-- Under a short name, for the claim. -/
theorem machineChanges_holds : Rows.MachineChangesCardSaid := Q.machineChanges_card
end Go.Proofs.YtgmdpghbkjlnhaaDoor
#print axioms Go.Proofs.YtgmdpghbkjlnhaaDoor.machineChanges_holds
end
