-- Written by our own copy of a printing program (a twelfth state) out of the translation. Not trusted: Lean checks it.
import Derived.Test.YtdojfdjokggaiaaDoorQ0
import Derived.Test.YtdojfdjokggaiaaDoorQf26
import Derived.Test.YtdojfdjokggaiaaDoorQf31
import Derived.Test.YtdojfdjokggaiaaDoorQf16
import Derived.Test.YtdojfdjokggaiaaDoorHGl
namespace Go.Proofs.YtdojfdjokggaiaaDoor.Q
open Go.RowKit Go.Proofs.YtdojfdjokggaiaaDoorW.PrintWords Go.Proofs.YtdojfdjokggaiaaDoorW.PrintLast Go.Proofs.YtdojfdjokggaiaaDoorW.PrintMore
attribute [local go_sem] max2_int min2_int max_two min_two max_three min_three max_four min_four   -- for this text's walks alone
set_option linter.unusedVariables false
set_option linter.unusedSimpArgs false

/-! ### attestorlaw01_FieldPowers: function 7 -/
mutual
def attestorlaw01_FieldPowers.j0 : Nat → Int → Int → Int → Int → Bool → Option (Bool)
  | 0, _, _, _, _, _ => none
  | k + 1, x1, x9, x10, x11, x60 => if x60 = true then (none) else (if x11 = 0 then (none) else (if (Int.tmod x1 x11) = 0 then (attestorlaw01_FieldPowers.j1 k x1 x9 x10 x11 false) else ((field_Pow.f k x9 x1 (IntKind.u64.wrap (x11 - 1))).bind fun t345 => (attestorlaw01_FieldPowers.j1 k x1 x9 x10 x11 (t345 != 1)))))
def attestorlaw01_FieldPowers.j1 : Nat → Int → Int → Int → Int → Bool → Option (Bool)
  | 0, _, _, _, _, _ => none
  | k + 1, x1, x9, x10, x11, x72 => if x72 = true then (none) else ((field_Exponent.f x9).bind fun t346 => ((field_Pow.f k x9 x1 (IntKind.u64.wrap (t346))).bind fun t347 => ((field_Pow.f k x9 t347 x10).bind fun t348 => (if x11 = 0 then (none) else (if t348 = (Int.tmod x1 x11) then ((attestorlaw01_works.f k).bind fun t349 => (some t349)) else (none))))))
def attestorlaw01_FieldPowers.j2 : Nat → Int → Int → Int → Int → Bool → Option (Bool)
  | 0, _, _, _, _, _ => none
  | k + 1, x1, x9, x10, x11, x60 => if x60 = true then (none) else (if x11 = 0 then (none) else (if (Int.tmod x1 x11) = 0 then (attestorlaw01_FieldPowers.j3 k x1 x9 x10 x11 false) else ((field_Pow.f k x9 x1 (IntKind.u64.wrap (x11 - 1))).bind fun t357 => (attestorlaw01_FieldPowers.j3 k x1 x9 x10 x11 (t357 != 1)))))
def attestorlaw01_FieldPowers.j3 : Nat → Int → Int → Int → Int → Bool → Option (Bool)
  | 0, _, _, _, _, _ => none
  | k + 1, x1, x9, x10, x11, x72 => if x72 = true then (none) else ((field_Exponent.f x9).bind fun t358 => ((field_Pow.f k x9 x1 (IntKind.u64.wrap (t358))).bind fun t359 => ((field_Pow.f k x9 t359 x10).bind fun t360 => (if x11 = 0 then (none) else (if t360 = (Int.tmod x1 x11) then ((attestorlaw01_works.f k).bind fun t361 => (some t361)) else (none))))))
def attestorlaw01_FieldPowers.j4 : Nat → Int → Int → Int → Int → Bool → Option (Bool)
  | 0, _, _, _, _, _ => none
  | k + 1, x1, x9, x10, x11, x60 => if x60 = true then (none) else (if x11 = 0 then (none) else (if (Int.tmod x1 x11) = 0 then (attestorlaw01_FieldPowers.j5 k x1 x9 x10 x11 false) else ((field_Pow.f k x9 x1 (IntKind.u64.wrap (x11 - 1))).bind fun t369 => (attestorlaw01_FieldPowers.j5 k x1 x9 x10 x11 (t369 != 1)))))
def attestorlaw01_FieldPowers.j5 : Nat → Int → Int → Int → Int → Bool → Option (Bool)
  | 0, _, _, _, _, _ => none
  | k + 1, x1, x9, x10, x11, x72 => if x72 = true then (none) else ((field_Exponent.f x9).bind fun t370 => ((field_Pow.f k x9 x1 (IntKind.u64.wrap (t370))).bind fun t371 => ((field_Pow.f k x9 t371 x10).bind fun t372 => (if x11 = 0 then (none) else (if t372 = (Int.tmod x1 x11) then ((attestorlaw01_works.f k).bind fun t373 => (some t373)) else (none))))))
def attestorlaw01_FieldPowers.j6 : Nat → Int → Int → Int → Int → Bool → Option (Bool)
  | 0, _, _, _, _, _ => none
  | k + 1, x1, x9, x10, x11, x60 => if x60 = true then (none) else (if x11 = 0 then (none) else (if (Int.tmod x1 x11) = 0 then (attestorlaw01_FieldPowers.j7 k x1 x9 x10 x11 false) else ((field_Pow.f k x9 x1 (IntKind.u64.wrap (x11 - 1))).bind fun t381 => (attestorlaw01_FieldPowers.j7 k x1 x9 x10 x11 (t381 != 1)))))
def attestorlaw01_FieldPowers.j7 : Nat → Int → Int → Int → Int → Bool → Option (Bool)
  | 0, _, _, _, _, _ => none
  | k + 1, x1, x9, x10, x11, x72 => if x72 = true then (none) else ((field_Exponent.f x9).bind fun t382 => ((field_Pow.f k x9 x1 (IntKind.u64.wrap (t382))).bind fun t383 => ((field_Pow.f k x9 t383 x10).bind fun t384 => (if x11 = 0 then (none) else (if t384 = (Int.tmod x1 x11) then ((attestorlaw01_works.f k).bind fun t385 => (some t385)) else (none))))))
end
def attestorlaw01_FieldPowers.f (k : Nat) (a0 : Int) (a1 : Int) (a2 : Int) (a3 : Int) : Option (Bool) := if 0 ≤ (wrap64 (Int.tmod a0 4)) then (if (wrap64 (Int.tmod a0 4)) = 0 then ((field_P.f (wrap64 (Int.tmod a0 4))).bind fun t338 => (if t338 = 0 then (attestorlaw01_FieldPowers.j0 k a1 (wrap64 (Int.tmod a0 4)) 77 t338 true) else ((field_Pow.f k (wrap64 (Int.tmod a0 4)) a1 (IntKind.u64.wrap ((Int.tmod a2 2147483648) + (Int.tmod a3 2147483648)))).bind fun t339 => ((field_Pow.f k (wrap64 (Int.tmod a0 4)) a1 (Int.tmod a2 2147483648)).bind fun t340 => ((field_Pow.f k (wrap64 (Int.tmod a0 4)) a1 (Int.tmod a3 2147483648)).bind fun t341 => ((field_Mul.f (wrap64 (Int.tmod a0 4)) t340 t341).bind fun t342 => (if t339 = t342 then ((field_Pow.f k (wrap64 (Int.tmod a0 4)) t340 (Int.tmod a3 2147483648)).bind fun t343 => ((field_Pow.f k (wrap64 (Int.tmod a0 4)) a1 (IntKind.u64.wrap ((Int.tmod a2 2147483648) * (Int.tmod a3 2147483648)))).bind fun t344 => (attestorlaw01_FieldPowers.j0 k a1 (wrap64 (Int.tmod a0 4)) 77 t338 (t343 != t344)))) else (attestorlaw01_FieldPowers.j0 k a1 (wrap64 (Int.tmod a0 4)) 77 t338 true)))))))) else (if (wrap64 (Int.tmod a0 4)) = 1 then ((field_P.f (wrap64 (Int.tmod a0 4))).bind fun t350 => (if t350 = 0 then (attestorlaw01_FieldPowers.j2 k a1 (wrap64 (Int.tmod a0 4)) 171 t350 true) else ((field_Pow.f k (wrap64 (Int.tmod a0 4)) a1 (IntKind.u64.wrap ((Int.tmod a2 2147483648) + (Int.tmod a3 2147483648)))).bind fun t351 => ((field_Pow.f k (wrap64 (Int.tmod a0 4)) a1 (Int.tmod a2 2147483648)).bind fun t352 => ((field_Pow.f k (wrap64 (Int.tmod a0 4)) a1 (Int.tmod a3 2147483648)).bind fun t353 => ((field_Mul.f (wrap64 (Int.tmod a0 4)) t352 t353).bind fun t354 => (if t351 = t354 then ((field_Pow.f k (wrap64 (Int.tmod a0 4)) t352 (Int.tmod a3 2147483648)).bind fun t355 => ((field_Pow.f k (wrap64 (Int.tmod a0 4)) a1 (IntKind.u64.wrap ((Int.tmod a2 2147483648) * (Int.tmod a3 2147483648)))).bind fun t356 => (attestorlaw01_FieldPowers.j2 k a1 (wrap64 (Int.tmod a0 4)) 171 t350 (t355 != t356)))) else (attestorlaw01_FieldPowers.j2 k a1 (wrap64 (Int.tmod a0 4)) 171 t350 true)))))))) else (if (wrap64 (Int.tmod a0 4)) = 2 then ((field_P.f (wrap64 (Int.tmod a0 4))).bind fun t362 => (if t362 = 0 then (attestorlaw01_FieldPowers.j4 k a1 (wrap64 (Int.tmod a0 4)) 7373 t362 true) else ((field_Pow.f k (wrap64 (Int.tmod a0 4)) a1 (IntKind.u64.wrap ((Int.tmod a2 2147483648) + (Int.tmod a3 2147483648)))).bind fun t363 => ((field_Pow.f k (wrap64 (Int.tmod a0 4)) a1 (Int.tmod a2 2147483648)).bind fun t364 => ((field_Pow.f k (wrap64 (Int.tmod a0 4)) a1 (Int.tmod a3 2147483648)).bind fun t365 => ((field_Mul.f (wrap64 (Int.tmod a0 4)) t364 t365).bind fun t366 => (if t363 = t366 then ((field_Pow.f k (wrap64 (Int.tmod a0 4)) t364 (Int.tmod a3 2147483648)).bind fun t367 => ((field_Pow.f k (wrap64 (Int.tmod a0 4)) a1 (IntKind.u64.wrap ((Int.tmod a2 2147483648) * (Int.tmod a3 2147483648)))).bind fun t368 => (attestorlaw01_FieldPowers.j4 k a1 (wrap64 (Int.tmod a0 4)) 7373 t362 (t367 != t368)))) else (attestorlaw01_FieldPowers.j4 k a1 (wrap64 (Int.tmod a0 4)) 7373 t362 true)))))))) else (if (wrap64 (Int.tmod a0 4)) = 3 then ((field_P.f (wrap64 (Int.tmod a0 4))).bind fun t374 => (if t374 = 0 then (attestorlaw01_FieldPowers.j6 k a1 (wrap64 (Int.tmod a0 4)) 665496235 t374 true) else ((field_Pow.f k (wrap64 (Int.tmod a0 4)) a1 (IntKind.u64.wrap ((Int.tmod a2 2147483648) + (Int.tmod a3 2147483648)))).bind fun t375 => ((field_Pow.f k (wrap64 (Int.tmod a0 4)) a1 (Int.tmod a2 2147483648)).bind fun t376 => ((field_Pow.f k (wrap64 (Int.tmod a0 4)) a1 (Int.tmod a3 2147483648)).bind fun t377 => ((field_Mul.f (wrap64 (Int.tmod a0 4)) t376 t377).bind fun t378 => (if t375 = t378 then ((field_Pow.f k (wrap64 (Int.tmod a0 4)) t376 (Int.tmod a3 2147483648)).bind fun t379 => ((field_Pow.f k (wrap64 (Int.tmod a0 4)) a1 (IntKind.u64.wrap ((Int.tmod a2 2147483648) * (Int.tmod a3 2147483648)))).bind fun t380 => (attestorlaw01_FieldPowers.j6 k a1 (wrap64 (Int.tmod a0 4)) 665496235 t374 (t379 != t380)))) else (attestorlaw01_FieldPowers.j6 k a1 (wrap64 (Int.tmod a0 4)) 665496235 t374 true)))))))) else (none))))) else (none)
theorem attestorlaw01_FieldPowers.mono_l : ∀ k, (∀ y0 y1 y2 y3 y4, LeO (attestorlaw01_FieldPowers.j0 k y0 y1 y2 y3 y4) (attestorlaw01_FieldPowers.j0 (k + 1) y0 y1 y2 y3 y4)) ∧ (∀ y0 y1 y2 y3 y4, LeO (attestorlaw01_FieldPowers.j1 k y0 y1 y2 y3 y4) (attestorlaw01_FieldPowers.j1 (k + 1) y0 y1 y2 y3 y4)) ∧ (∀ y0 y1 y2 y3 y4, LeO (attestorlaw01_FieldPowers.j2 k y0 y1 y2 y3 y4) (attestorlaw01_FieldPowers.j2 (k + 1) y0 y1 y2 y3 y4)) ∧ (∀ y0 y1 y2 y3 y4, LeO (attestorlaw01_FieldPowers.j3 k y0 y1 y2 y3 y4) (attestorlaw01_FieldPowers.j3 (k + 1) y0 y1 y2 y3 y4)) ∧ (∀ y0 y1 y2 y3 y4, LeO (attestorlaw01_FieldPowers.j4 k y0 y1 y2 y3 y4) (attestorlaw01_FieldPowers.j4 (k + 1) y0 y1 y2 y3 y4)) ∧ (∀ y0 y1 y2 y3 y4, LeO (attestorlaw01_FieldPowers.j5 k y0 y1 y2 y3 y4) (attestorlaw01_FieldPowers.j5 (k + 1) y0 y1 y2 y3 y4)) ∧ (∀ y0 y1 y2 y3 y4, LeO (attestorlaw01_FieldPowers.j6 k y0 y1 y2 y3 y4) (attestorlaw01_FieldPowers.j6 (k + 1) y0 y1 y2 y3 y4)) ∧ (∀ y0 y1 y2 y3 y4, LeO (attestorlaw01_FieldPowers.j7 k y0 y1 y2 y3 y4) (attestorlaw01_FieldPowers.j7 (k + 1) y0 y1 y2 y3 y4))
  | 0 => ⟨fun _ _ _ _ _ r h => by simp [attestorlaw01_FieldPowers.j0] at h, fun _ _ _ _ _ r h => by simp [attestorlaw01_FieldPowers.j1] at h, fun _ _ _ _ _ r h => by simp [attestorlaw01_FieldPowers.j2] at h, fun _ _ _ _ _ r h => by simp [attestorlaw01_FieldPowers.j3] at h, fun _ _ _ _ _ r h => by simp [attestorlaw01_FieldPowers.j4] at h, fun _ _ _ _ _ r h => by simp [attestorlaw01_FieldPowers.j5] at h, fun _ _ _ _ _ r h => by simp [attestorlaw01_FieldPowers.j6] at h, fun _ _ _ _ _ r h => by simp [attestorlaw01_FieldPowers.j7] at h⟩
  | k + 1 => by
    obtain ⟨ih0, ih1, ih2, ih3, ih4, ih5, ih6, ih7⟩ := attestorlaw01_FieldPowers.mono_l k
    refine ⟨?_, ?_, ?_, ?_, ?_, ?_, ?_, ?_⟩
    · intro y0 y1 y2 y3 y4
      unfold attestorlaw01_FieldPowers.j0
      repeat' first
      | (with_reducible exact ih0 _ _ _ _ _)
      | (with_reducible exact ih1 _ _ _ _ _)
      | (with_reducible exact ih2 _ _ _ _ _)
      | (with_reducible exact ih3 _ _ _ _ _)
      | (with_reducible exact ih4 _ _ _ _ _)
      | (with_reducible exact ih5 _ _ _ _ _)
      | (with_reducible exact ih6 _ _ _ _ _)
      | (with_reducible exact ih7 _ _ _ _ _)
      | (with_reducible exact attestorlaw01_works.mono _)
      | (with_reducible exact field_Pow.mono _ _ _ _)
      | (with_reducible exact LeO.refl _)
      | (with_reducible exact LeO.none _)
      | (with_reducible refine LeO.ite ?_ ?_)
      | (with_reducible refine LeO.bind ?_ (fun _ => ?_))
      | exact ih0 _ _ _ _ _
      | exact ih1 _ _ _ _ _
      | exact ih2 _ _ _ _ _
      | exact ih3 _ _ _ _ _
      | exact ih4 _ _ _ _ _
      | exact ih5 _ _ _ _ _
      | exact ih6 _ _ _ _ _
      | exact ih7 _ _ _ _ _
      | exact attestorlaw01_works.mono _
      | exact field_Pow.mono _ _ _ _
      | exact LeO.none _
      | refine LeO.ite ?_ ?_
      | refine LeO.bind ?_ (fun _ => ?_)
    · intro y0 y1 y2 y3 y4
      unfold attestorlaw01_FieldPowers.j1
      repeat' first
      | (with_reducible exact ih0 _ _ _ _ _)
      | (with_reducible exact ih1 _ _ _ _ _)
      | (with_reducible exact ih2 _ _ _ _ _)
      | (with_reducible exact ih3 _ _ _ _ _)
      | (with_reducible exact ih4 _ _ _ _ _)
      | (with_reducible exact ih5 _ _ _ _ _)
      | (with_reducible exact ih6 _ _ _ _ _)
      | (with_reducible exact ih7 _ _ _ _ _)
      | (with_reducible exact attestorlaw01_works.mono _)
      | (with_reducible exact field_Pow.mono _ _ _ _)
      | (with_reducible exact LeO.refl _)
      | (with_reducible exact LeO.none _)
      | (with_reducible refine LeO.ite ?_ ?_)
      | (with_reducible refine LeO.bind ?_ (fun _ => ?_))
      | exact ih0 _ _ _ _ _
      | exact ih1 _ _ _ _ _
      | exact ih2 _ _ _ _ _
      | exact ih3 _ _ _ _ _
      | exact ih4 _ _ _ _ _
      | exact ih5 _ _ _ _ _
      | exact ih6 _ _ _ _ _
      | exact ih7 _ _ _ _ _
      | exact attestorlaw01_works.mono _
      | exact field_Pow.mono _ _ _ _
      | exact LeO.none _
      | refine LeO.ite ?_ ?_
      | refine LeO.bind ?_ (fun _ => ?_)
    · intro y0 y1 y2 y3 y4
      unfold attestorlaw01_FieldPowers.j2
      repeat' first
      | (with_reducible exact ih0 _ _ _ _ _)
      | (with_reducible exact ih1 _ _ _ _ _)
      | (with_reducible exact ih2 _ _ _ _ _)
      | (with_reducible exact ih3 _ _ _ _ _)
      | (with_reducible exact ih4 _ _ _ _ _)
      | (with_reducible exact ih5 _ _ _ _ _)
      | (with_reducible exact ih6 _ _ _ _ _)
      | (with_reducible exact ih7 _ _ _ _ _)
      | (with_reducible exact attestorlaw01_works.mono _)
      | (with_reducible exact field_Pow.mono _ _ _ _)
      | (with_reducible exact LeO.refl _)
      | (with_reducible exact LeO.none _)
      | (with_reducible refine LeO.ite ?_ ?_)
      | (with_reducible refine LeO.bind ?_ (fun _ => ?_))
      | exact ih0 _ _ _ _ _
      | exact ih1 _ _ _ _ _
      | exact ih2 _ _ _ _ _
      | exact ih3 _ _ _ _ _
      | exact ih4 _ _ _ _ _
      | exact ih5 _ _ _ _ _
      | exact ih6 _ _ _ _ _
      | exact ih7 _ _ _ _ _
      | exact attestorlaw01_works.mono _
      | exact field_Pow.mono _ _ _ _
      | exact LeO.none _
      | refine LeO.ite ?_ ?_
      | refine LeO.bind ?_ (fun _ => ?_)
    · intro y0 y1 y2 y3 y4
      unfold attestorlaw01_FieldPowers.j3
      repeat' first
      | (with_reducible exact ih0 _ _ _ _ _)
      | (with_reducible exact ih1 _ _ _ _ _)
      | (with_reducible exact ih2 _ _ _ _ _)
      | (with_reducible exact ih3 _ _ _ _ _)
      | (with_reducible exact ih4 _ _ _ _ _)
      | (with_reducible exact ih5 _ _ _ _ _)
      | (with_reducible exact ih6 _ _ _ _ _)
      | (with_reducible exact ih7 _ _ _ _ _)
      | (with_reducible exact attestorlaw01_works.mono _)
      | (with_reducible exact field_Pow.mono _ _ _ _)
      | (with_reducible exact LeO.refl _)
      | (with_reducible exact LeO.none _)
      | (with_reducible refine LeO.ite ?_ ?_)
      | (with_reducible refine LeO.bind ?_ (fun _ => ?_))
      | exact ih0 _ _ _ _ _
      | exact ih1 _ _ _ _ _
      | exact ih2 _ _ _ _ _
      | exact ih3 _ _ _ _ _
      | exact ih4 _ _ _ _ _
      | exact ih5 _ _ _ _ _
      | exact ih6 _ _ _ _ _
      | exact ih7 _ _ _ _ _
      | exact attestorlaw01_works.mono _
      | exact field_Pow.mono _ _ _ _
      | exact LeO.none _
      | refine LeO.ite ?_ ?_
      | refine LeO.bind ?_ (fun _ => ?_)
    · intro y0 y1 y2 y3 y4
      unfold attestorlaw01_FieldPowers.j4
      repeat' first
      | (with_reducible exact ih0 _ _ _ _ _)
      | (with_reducible exact ih1 _ _ _ _ _)
      | (with_reducible exact ih2 _ _ _ _ _)
      | (with_reducible exact ih3 _ _ _ _ _)
      | (with_reducible exact ih4 _ _ _ _ _)
      | (with_reducible exact ih5 _ _ _ _ _)
      | (with_reducible exact ih6 _ _ _ _ _)
      | (with_reducible exact ih7 _ _ _ _ _)
      | (with_reducible exact attestorlaw01_works.mono _)
      | (with_reducible exact field_Pow.mono _ _ _ _)
      | (with_reducible exact LeO.refl _)
      | (with_reducible exact LeO.none _)
      | (with_reducible refine LeO.ite ?_ ?_)
      | (with_reducible refine LeO.bind ?_ (fun _ => ?_))
      | exact ih0 _ _ _ _ _
      | exact ih1 _ _ _ _ _
      | exact ih2 _ _ _ _ _
      | exact ih3 _ _ _ _ _
      | exact ih4 _ _ _ _ _
      | exact ih5 _ _ _ _ _
      | exact ih6 _ _ _ _ _
      | exact ih7 _ _ _ _ _
      | exact attestorlaw01_works.mono _
      | exact field_Pow.mono _ _ _ _
      | exact LeO.none _
      | refine LeO.ite ?_ ?_
      | refine LeO.bind ?_ (fun _ => ?_)
    · intro y0 y1 y2 y3 y4
      unfold attestorlaw01_FieldPowers.j5
      repeat' first
      | (with_reducible exact ih0 _ _ _ _ _)
      | (with_reducible exact ih1 _ _ _ _ _)
      | (with_reducible exact ih2 _ _ _ _ _)
      | (with_reducible exact ih3 _ _ _ _ _)
      | (with_reducible exact ih4 _ _ _ _ _)
      | (with_reducible exact ih5 _ _ _ _ _)
      | (with_reducible exact ih6 _ _ _ _ _)
      | (with_reducible exact ih7 _ _ _ _ _)
      | (with_reducible exact attestorlaw01_works.mono _)
      | (with_reducible exact field_Pow.mono _ _ _ _)
      | (with_reducible exact LeO.refl _)
      | (with_reducible exact LeO.none _)
      | (with_reducible refine LeO.ite ?_ ?_)
      | (with_reducible refine LeO.bind ?_ (fun _ => ?_))
      | exact ih0 _ _ _ _ _
      | exact ih1 _ _ _ _ _
      | exact ih2 _ _ _ _ _
      | exact ih3 _ _ _ _ _
      | exact ih4 _ _ _ _ _
      | exact ih5 _ _ _ _ _
      | exact ih6 _ _ _ _ _
      | exact ih7 _ _ _ _ _
      | exact attestorlaw01_works.mono _
      | exact field_Pow.mono _ _ _ _
      | exact LeO.none _
      | refine LeO.ite ?_ ?_
      | refine LeO.bind ?_ (fun _ => ?_)
    · intro y0 y1 y2 y3 y4
      unfold attestorlaw01_FieldPowers.j6
      repeat' first
      | (with_reducible exact ih0 _ _ _ _ _)
      | (with_reducible exact ih1 _ _ _ _ _)
      | (with_reducible exact ih2 _ _ _ _ _)
      | (with_reducible exact ih3 _ _ _ _ _)
      | (with_reducible exact ih4 _ _ _ _ _)
      | (with_reducible exact ih5 _ _ _ _ _)
      | (with_reducible exact ih6 _ _ _ _ _)
      | (with_reducible exact ih7 _ _ _ _ _)
      | (with_reducible exact attestorlaw01_works.mono _)
      | (with_reducible exact field_Pow.mono _ _ _ _)
      | (with_reducible exact LeO.refl _)
      | (with_reducible exact LeO.none _)
      | (with_reducible refine LeO.ite ?_ ?_)
      | (with_reducible refine LeO.bind ?_ (fun _ => ?_))
      | exact ih0 _ _ _ _ _
      | exact ih1 _ _ _ _ _
      | exact ih2 _ _ _ _ _
      | exact ih3 _ _ _ _ _
      | exact ih4 _ _ _ _ _
      | exact ih5 _ _ _ _ _
      | exact ih6 _ _ _ _ _
      | exact ih7 _ _ _ _ _
      | exact attestorlaw01_works.mono _
      | exact field_Pow.mono _ _ _ _
      | exact LeO.none _
      | refine LeO.ite ?_ ?_
      | refine LeO.bind ?_ (fun _ => ?_)
    · intro y0 y1 y2 y3 y4
      unfold attestorlaw01_FieldPowers.j7
      repeat' first
      | (with_reducible exact ih0 _ _ _ _ _)
      | (with_reducible exact ih1 _ _ _ _ _)
      | (with_reducible exact ih2 _ _ _ _ _)
      | (with_reducible exact ih3 _ _ _ _ _)
      | (with_reducible exact ih4 _ _ _ _ _)
      | (with_reducible exact ih5 _ _ _ _ _)
      | (with_reducible exact ih6 _ _ _ _ _)
      | (with_reducible exact ih7 _ _ _ _ _)
      | (with_reducible exact attestorlaw01_works.mono _)
      | (with_reducible exact field_Pow.mono _ _ _ _)
      | (with_reducible exact LeO.refl _)
      | (with_reducible exact LeO.none _)
      | (with_reducible refine LeO.ite ?_ ?_)
      | (with_reducible refine LeO.bind ?_ (fun _ => ?_))
      | exact ih0 _ _ _ _ _
      | exact ih1 _ _ _ _ _
      | exact ih2 _ _ _ _ _
      | exact ih3 _ _ _ _ _
      | exact ih4 _ _ _ _ _
      | exact ih5 _ _ _ _ _
      | exact ih6 _ _ _ _ _
      | exact ih7 _ _ _ _ _
      | exact attestorlaw01_works.mono _
      | exact field_Pow.mono _ _ _ _
      | exact LeO.none _
      | refine LeO.ite ?_ ?_
      | refine LeO.bind ?_ (fun _ => ?_)
theorem attestorlaw01_FieldPowers.mono : ∀ a0 a1 a2 a3 k, LeO (attestorlaw01_FieldPowers.f k a0 a1 a2 a3) (attestorlaw01_FieldPowers.f (k + 1) a0 a1 a2 a3) := by
  intro a0 a1 a2 a3 k
  obtain ⟨ih0, ih1, ih2, ih3, ih4, ih5, ih6, ih7⟩ := attestorlaw01_FieldPowers.mono_l k
  unfold attestorlaw01_FieldPowers.f
  repeat' first
      | (with_reducible exact ih0 _ _ _ _ _)
      | (with_reducible exact ih1 _ _ _ _ _)
      | (with_reducible exact ih2 _ _ _ _ _)
      | (with_reducible exact ih3 _ _ _ _ _)
      | (with_reducible exact ih4 _ _ _ _ _)
      | (with_reducible exact ih5 _ _ _ _ _)
      | (with_reducible exact ih6 _ _ _ _ _)
      | (with_reducible exact ih7 _ _ _ _ _)
      | (with_reducible exact attestorlaw01_works.mono _)
      | (with_reducible exact field_Pow.mono _ _ _ _)
      | (with_reducible exact LeO.refl _)
      | (with_reducible exact LeO.none _)
      | (with_reducible refine LeO.ite ?_ ?_)
      | (with_reducible refine LeO.bind ?_ (fun _ => ?_))
      | exact ih0 _ _ _ _ _
      | exact ih1 _ _ _ _ _
      | exact ih2 _ _ _ _ _
      | exact ih3 _ _ _ _ _
      | exact ih4 _ _ _ _ _
      | exact ih5 _ _ _ _ _
      | exact ih6 _ _ _ _ _
      | exact ih7 _ _ _ _ _
      | exact attestorlaw01_works.mono _
      | exact field_Pow.mono _ _ _ _
      | exact LeO.none _
      | refine LeO.ite ?_ ?_
      | refine LeO.bind ?_ (fun _ => ?_)
def attestorlaw01_FieldPowers.T9 : Bool × List (List Nat × List Nat) := (true, [([], []), ([], []), ([], []), ([], []), ([3], [3]), ([4], [4]), ([1, 2, 5, 4], [1, 2, 5]), ([], []), ([0, 6, 7, 6], [0, 6, 7]), ([], []), ([], []), ([9, 10], [9, 10]), ([8, 11], [8, 11]), ([12, 8], [12]), ([13, 13], [13]), ([13, 14], [13, 14]), ([15, 14, 0, 1, 2, 3, 4, 5, 6, 7, 8, 9, 10, 11, 12, 13, 14, 15], [15])])
def attestorlaw01_FieldPowers.B9 : List Nat := [0, 0, 0, 0, 8, 24, 62, 0, 255, 0, 0, 1536, 4095, 8191, 16383, 32767, 65535]
theorem attestorlaw01_FieldPowers.tab9 : rtab .any (opsOf Tryd.f7 9) = attestorlaw01_FieldPowers.T9 := by kernel_rfl
theorem attestorlaw01_FieldPowers.bits9 : waitsOk attestorlaw01_FieldPowers.T9.2 attestorlaw01_FieldPowers.B9 = true := by kernel_rfl
set_option maxHeartbeats 8000000 in
set_option maxRecDepth 100000 in
theorem attestorlaw01_FieldPowers.calls (k : Nat) (a0 : Int) (a1 : Int) (a2 : Int) (a3 : Int) (r : Bool) (w : World) (hrG : GL w) (h : attestorlaw01_FieldPowers.f k a0 a1 a2 a3 = some r) :
    Calls Tryd.prog 7 #[.int .u8 a0, .int .u64 a1, .int .u64 a2, .int .u64 a3] w fun e w' => e = .returned (.bool r) ∧ Below w.heap.size w w' := by
  have hix37_i64_0 : ∀ (x0_0 : Int) (x1_0 : Int) (x2_0 : Int) (x3_0 : Int) (W : World), (Instr.index 37 (.agg #[.int .u64 x0_0, .int .u64 x1_0, .int .u64 x2_0, .int .u64 x3_0]) (.int .i64 0)).run Tryd.prog W = .ok (.int .u64 x0_0) W := by intros; kernel_rfl
  have hix37_i64_1 : ∀ (x0_0 : Int) (x1_0 : Int) (x2_0 : Int) (x3_0 : Int) (W : World), (Instr.index 37 (.agg #[.int .u64 x0_0, .int .u64 x1_0, .int .u64 x2_0, .int .u64 x3_0]) (.int .i64 1)).run Tryd.prog W = .ok (.int .u64 x1_0) W := by intros; kernel_rfl
  have hix37_i64_2 : ∀ (x0_0 : Int) (x1_0 : Int) (x2_0 : Int) (x3_0 : Int) (W : World), (Instr.index 37 (.agg #[.int .u64 x0_0, .int .u64 x1_0, .int .u64 x2_0, .int .u64 x3_0]) (.int .i64 2)).run Tryd.prog W = .ok (.int .u64 x2_0) W := by intros; kernel_rfl
  have hix37_i64_3 : ∀ (x0_0 : Int) (x1_0 : Int) (x2_0 : Int) (x3_0 : Int) (W : World), (Instr.index 37 (.agg #[.int .u64 x0_0, .int .u64 x1_0, .int .u64 x2_0, .int .u64 x3_0]) (.int .i64 3)).run Tryd.prog W = .ok (.int .u64 x3_0) W := by intros; kernel_rfl
  have hu37 := Tryd.underlying37
  have HRG := Aside0.mk hrG
  clear hrG
  have HB := Aside0.mk (Below.refl w.heap.size w)
  have H : (if 0 ≤ (wrap64 (Int.tmod a0 4)) then (if (wrap64 (Int.tmod a0 4)) = 0 then ((field_P.f (wrap64 (Int.tmod a0 4))).bind fun t338 => (if t338 = 0 then (attestorlaw01_FieldPowers.j0 k a1 (wrap64 (Int.tmod a0 4)) 77 t338 true) else ((field_Pow.f k (wrap64 (Int.tmod a0 4)) a1 (IntKind.u64.wrap ((Int.tmod a2 2147483648) + (Int.tmod a3 2147483648)))).bind fun t339 => ((field_Pow.f k (wrap64 (Int.tmod a0 4)) a1 (Int.tmod a2 2147483648)).bind fun t340 => ((field_Pow.f k (wrap64 (Int.tmod a0 4)) a1 (Int.tmod a3 2147483648)).bind fun t341 => ((field_Mul.f (wrap64 (Int.tmod a0 4)) t340 t341).bind fun t342 => (if t339 = t342 then ((field_Pow.f k (wrap64 (Int.tmod a0 4)) t340 (Int.tmod a3 2147483648)).bind fun t343 => ((field_Pow.f k (wrap64 (Int.tmod a0 4)) a1 (IntKind.u64.wrap ((Int.tmod a2 2147483648) * (Int.tmod a3 2147483648)))).bind fun t344 => (attestorlaw01_FieldPowers.j0 k a1 (wrap64 (Int.tmod a0 4)) 77 t338 (t343 != t344)))) else (attestorlaw01_FieldPowers.j0 k a1 (wrap64 (Int.tmod a0 4)) 77 t338 true)))))))) else (if (wrap64 (Int.tmod a0 4)) = 1 then ((field_P.f (wrap64 (Int.tmod a0 4))).bind fun t350 => (if t350 = 0 then (attestorlaw01_FieldPowers.j2 k a1 (wrap64 (Int.tmod a0 4)) 171 t350 true) else ((field_Pow.f k (wrap64 (Int.tmod a0 4)) a1 (IntKind.u64.wrap ((Int.tmod a2 2147483648) + (Int.tmod a3 2147483648)))).bind fun t351 => ((field_Pow.f k (wrap64 (Int.tmod a0 4)) a1 (Int.tmod a2 2147483648)).bind fun t352 => ((field_Pow.f k (wrap64 (Int.tmod a0 4)) a1 (Int.tmod a3 2147483648)).bind fun t353 => ((field_Mul.f (wrap64 (Int.tmod a0 4)) t352 t353).bind fun t354 => (if t351 = t354 then ((field_Pow.f k (wrap64 (Int.tmod a0 4)) t352 (Int.tmod a3 2147483648)).bind fun t355 => ((field_Pow.f k (wrap64 (Int.tmod a0 4)) a1 (IntKind.u64.wrap ((Int.tmod a2 2147483648) * (Int.tmod a3 2147483648)))).bind fun t356 => (attestorlaw01_FieldPowers.j2 k a1 (wrap64 (Int.tmod a0 4)) 171 t350 (t355 != t356)))) else (attestorlaw01_FieldPowers.j2 k a1 (wrap64 (Int.tmod a0 4)) 171 t350 true)))))))) else (if (wrap64 (Int.tmod a0 4)) = 2 then ((field_P.f (wrap64 (Int.tmod a0 4))).bind fun t362 => (if t362 = 0 then (attestorlaw01_FieldPowers.j4 k a1 (wrap64 (Int.tmod a0 4)) 7373 t362 true) else ((field_Pow.f k (wrap64 (Int.tmod a0 4)) a1 (IntKind.u64.wrap ((Int.tmod a2 2147483648) + (Int.tmod a3 2147483648)))).bind fun t363 => ((field_Pow.f k (wrap64 (Int.tmod a0 4)) a1 (Int.tmod a2 2147483648)).bind fun t364 => ((field_Pow.f k (wrap64 (Int.tmod a0 4)) a1 (Int.tmod a3 2147483648)).bind fun t365 => ((field_Mul.f (wrap64 (Int.tmod a0 4)) t364 t365).bind fun t366 => (if t363 = t366 then ((field_Pow.f k (wrap64 (Int.tmod a0 4)) t364 (Int.tmod a3 2147483648)).bind fun t367 => ((field_Pow.f k (wrap64 (Int.tmod a0 4)) a1 (IntKind.u64.wrap ((Int.tmod a2 2147483648) * (Int.tmod a3 2147483648)))).bind fun t368 => (attestorlaw01_FieldPowers.j4 k a1 (wrap64 (Int.tmod a0 4)) 7373 t362 (t367 != t368)))) else (attestorlaw01_FieldPowers.j4 k a1 (wrap64 (Int.tmod a0 4)) 7373 t362 true)))))))) else (if (wrap64 (Int.tmod a0 4)) = 3 then ((field_P.f (wrap64 (Int.tmod a0 4))).bind fun t374 => (if t374 = 0 then (attestorlaw01_FieldPowers.j6 k a1 (wrap64 (Int.tmod a0 4)) 665496235 t374 true) else ((field_Pow.f k (wrap64 (Int.tmod a0 4)) a1 (IntKind.u64.wrap ((Int.tmod a2 2147483648) + (Int.tmod a3 2147483648)))).bind fun t375 => ((field_Pow.f k (wrap64 (Int.tmod a0 4)) a1 (Int.tmod a2 2147483648)).bind fun t376 => ((field_Pow.f k (wrap64 (Int.tmod a0 4)) a1 (Int.tmod a3 2147483648)).bind fun t377 => ((field_Mul.f (wrap64 (Int.tmod a0 4)) t376 t377).bind fun t378 => (if t375 = t378 then ((field_Pow.f k (wrap64 (Int.tmod a0 4)) t376 (Int.tmod a3 2147483648)).bind fun t379 => ((field_Pow.f k (wrap64 (Int.tmod a0 4)) a1 (IntKind.u64.wrap ((Int.tmod a2 2147483648) * (Int.tmod a3 2147483648)))).bind fun t380 => (attestorlaw01_FieldPowers.j6 k a1 (wrap64 (Int.tmod a0 4)) 665496235 t374 (t379 != t380)))) else (attestorlaw01_FieldPowers.j6 k a1 (wrap64 (Int.tmod a0 4)) 665496235 t374 true)))))))) else (none))))) else (none)) = some r := h
  clear h
  obtain ⟨ji5, hji5⟩ : ∃ j_ : Int, (wrap64 (Int.tmod a0 4)) = j_ := ⟨_, rfl⟩
  (first | rw [hji5] at H | simp only [hji5] at H)
  have hji5w : (IntKind.i64.wrap (Int.tmod a0 4)) = ji5 := (i64_w _).trans hji5
  by_cases c6 : 0 ≤ (ji5)
  · rw [if_pos c6] at H
    have c6b0 : decide (0 ≤ (ji5)) = true := decide_eq_true c6
    clear c6
    by_cases c7 : (ji5) = 0
    · rw [if_pos c7] at H
      subst c7
      replace H := Option.bind_eq_some_iff.mp H
      obtain ⟨t338, A80, H⟩ := H
      (try dsimp only at H)
      have A8 := Aside0.mk A80
      clear A80
      have HC9 := Aside0.mk H
      clear H
      go_enter Tryd.func7, Tryd.ntmps7
      go_upto_region 5 with (first | ((with_reducible refine gate_callee (f := 24) rfl ?_); refine goesL_ (some 23) rfl rfl Tryd.func24 (by kernel_rfl) rfl #[.int .i64 0] rfl (by (try simp only [List.map_toArray, List.map_cons, List.map_nil]); first | done | rfl | (simp only [List.length_drop, List.length_take]; rfl) | (go_simp; done) | (go_simp; rw [Int.tmod_eq_emod_of_nonneg (by omega)]; omega)) ?_; (with_reducible refine (field_P.calls 0 t338 _ ?side1 A8.out).mono ?_); (case side1 => repeat (first | exact HRG.out | (with_reducible refine GL.alloc ?_ _) | (with_reducible refine GL.drewN ?_ _) | (with_reducible refine GL.drew ?_))); rintro e w10 ⟨rfl, hb⟩; refine ⟨_, rfl, ?_⟩; have n0_ := Aside0.mk (below_step (by repeat (first | (with_reducible first | exact HB.out | apply below_alloc | apply pw_below_drewN | apply below_drew1) | exact HB.out)) hb); clear HB; have HB := n0_; clear n0_; (try clear hb); (try clear hb2); (try clear hk); (try clear hi)))
      (try simp only [Act.put, List.setIfInBounds_toArray, List.set_cons_zero, List.set_cons_succ])
      go_cut [60] (fun v60 wc => ∃ (kq : Nat) (x60_8 : Bool), v60 = .bool x60_8 ∧ Aside0 (attestorlaw01_FieldPowers.j0 kq a1 0 77 t338 x60_8 = some r) ∧ Aside0 (kq ≤ k) ∧ Aside0 (Below w.heap.size w wc))
      case first =>
        have H := HC9.out
        clear HC9
        by_cases c11 : t338 = 0
        · rw [if_pos c11] at H
          have c11b0 : (t338 == 0) = true := beq_iff_eq.mpr c11
          have c11b1 : (t338 != 0) = false := bne_eq_false_iff_eq.mpr c11
          clear c11
          (first | rw [c11b0] | (simp only [i64_w, i32_w]; rw [c11b0]) | skip)
          have H' := Aside0.mk H
          clear H
          go_wp2
          go_meet
          case rel => exact ⟨_, (true), (by first | rfl | (simp; done) | (simp [*]; done)), H', ⟨by first | omega | exact Nat.le_refl _⟩, ⟨by repeat (first | (with_reducible first | exact HB.out | apply below_alloc | apply pw_below_drewN | apply below_drew1) | exact HB.out)⟩⟩
        · rw [if_neg c11] at H
          have c11b0 : (t338 == 0) = false := beq_eq_false_iff_ne.mpr c11
          have c11b1 : (t338 != 0) = true := bne_iff_ne.mpr c11
          (first | rw [c11b0] | (simp only [i64_w, i32_w]; rw [c11b0]) | skip)
          replace H := Option.bind_eq_some_iff.mp H
          obtain ⟨t339, A120, H⟩ := H
          (try dsimp only at H)
          have A12 := Aside0.mk A120
          clear A120
          replace H := Option.bind_eq_some_iff.mp H
          obtain ⟨t340, A130, H⟩ := H
          (try dsimp only at H)
          have A13 := Aside0.mk A130
          clear A130
          replace H := Option.bind_eq_some_iff.mp H
          obtain ⟨t341, A140, H⟩ := H
          (try dsimp only at H)
          have A14 := Aside0.mk A140
          clear A140
          replace H := Option.bind_eq_some_iff.mp H
          obtain ⟨t342, A150, H⟩ := H
          (try dsimp only at H)
          have A15 := Aside0.mk A150
          clear A150
          by_cases c16 : t339 = t342
          · rw [if_pos c16] at H
            have c16b0 : (t339 == t342) = true := beq_iff_eq.mpr c16
            have c16b1 : (t339 != t342) = false := bne_eq_false_iff_eq.mpr c16
            clear c16
            replace H := Option.bind_eq_some_iff.mp H
            obtain ⟨t343, A170, H⟩ := H
            replace H : ((field_Pow.f k (0) a1 (IntKind.u64.wrap ((Int.tmod a2 2147483648) * (Int.tmod a3 2147483648)))).bind fun t344 => (attestorlaw01_FieldPowers.j0 k a1 0 77 t338 (t343 != t344))) = some r := H
            have A17 := Aside0.mk A170
            clear A170
            replace H := Option.bind_eq_some_iff.mp H
            obtain ⟨t344, A180, H⟩ := H
            replace H : (attestorlaw01_FieldPowers.j0 k a1 0 77 t338 (t343 != t344)) = some r := H
            have A18 := Aside0.mk A180
            clear A180
            have H' := Aside0.mk H
            clear H
            go_wp2_with (first | (go_at_call 31; (with_reducible refine (field_Pow.calls k 0 a1 (IntKind.u64.wrap ((Int.tmod a2 2147483648) + (Int.tmod a3 2147483648))) t339 _ ?side1 A12.out).mono ?_); (case side1 => repeat (first | exact (GL.below HRG.out HB.out) | (with_reducible refine GL.alloc ?_ _) | (with_reducible refine GL.drewN ?_ _) | (with_reducible refine GL.drew ?_))); rintro e w19 ⟨rfl, hb⟩; have n0_ := Aside0.mk (below_step (by repeat (first | (with_reducible first | exact HB.out | apply below_alloc | apply pw_below_drewN | apply below_drew1) | exact HB.out)) hb); clear HB; have HB := n0_; clear n0_; (try clear hb); (try clear hb2); (try clear hk); (try clear hi)) | (go_at_call 31; (with_reducible refine (field_Pow.calls k 0 a1 (Int.tmod a2 2147483648) t340 _ ?side1 A13.out).mono ?_); (case side1 => repeat (first | exact (GL.below HRG.out HB.out) | (with_reducible refine GL.alloc ?_ _) | (with_reducible refine GL.drewN ?_ _) | (with_reducible refine GL.drew ?_))); rintro e w20 ⟨rfl, hb⟩; have n0_ := Aside0.mk (below_step (by repeat (first | (with_reducible first | exact HB.out | apply below_alloc | apply pw_below_drewN | apply below_drew1) | exact HB.out)) hb); clear HB; have HB := n0_; clear n0_; (try clear hb); (try clear hb2); (try clear hk); (try clear hi)) | (go_at_call 31; (with_reducible refine (field_Pow.calls k 0 a1 (Int.tmod a3 2147483648) t341 _ ?side1 A14.out).mono ?_); (case side1 => repeat (first | exact (GL.below HRG.out HB.out) | (with_reducible refine GL.alloc ?_ _) | (with_reducible refine GL.drewN ?_ _) | (with_reducible refine GL.drew ?_))); rintro e w21 ⟨rfl, hb⟩; have n0_ := Aside0.mk (below_step (by repeat (first | (with_reducible first | exact HB.out | apply below_alloc | apply pw_below_drewN | apply below_drew1) | exact HB.out)) hb); clear HB; have HB := n0_; clear n0_; (try clear hb); (try clear hb2); (try clear hk); (try clear hi)) | (go_at_call 26; (with_reducible refine (field_Mul.calls 0 t340 t341 t342 _ ?side1 A15.out).mono ?_); (case side1 => repeat (first | exact (GL.below HRG.out HB.out) | (with_reducible refine GL.alloc ?_ _) | (with_reducible refine GL.drewN ?_ _) | (with_reducible refine GL.drew ?_))); rintro e w22 ⟨rfl, hb⟩; have n0_ := Aside0.mk (below_step (by repeat (first | (with_reducible first | exact HB.out | apply below_alloc | apply pw_below_drewN | apply below_drew1) | exact HB.out)) hb); clear HB; have HB := n0_; clear n0_; (try clear hb); (try clear hb2); (try clear hk); (try clear hi)) | (go_at_call 31; (with_reducible refine (field_Pow.calls k 0 t340 (Int.tmod a3 2147483648) t343 _ ?side1 A17.out).mono ?_); (case side1 => repeat (first | exact (GL.below HRG.out HB.out) | (with_reducible refine GL.alloc ?_ _) | (with_reducible refine GL.drewN ?_ _) | (with_reducible refine GL.drew ?_))); rintro e w23 ⟨rfl, hb⟩; have n0_ := Aside0.mk (below_step (by repeat (first | (with_reducible first | exact HB.out | apply below_alloc | apply pw_below_drewN | apply below_drew1) | exact HB.out)) hb); clear HB; have HB := n0_; clear n0_; (try clear hb); (try clear hb2); (try clear hk); (try clear hi)) | (go_at_call 31; (with_reducible refine (field_Pow.calls k 0 a1 (IntKind.u64.wrap ((Int.tmod a2 2147483648) * (Int.tmod a3 2147483648))) t344 _ ?side1 A18.out).mono ?_); (case side1 => repeat (first | exact (GL.below HRG.out HB.out) | (with_reducible refine GL.alloc ?_ _) | (with_reducible refine GL.drewN ?_ _) | (with_reducible refine GL.drew ?_))); rintro e w24 ⟨rfl, hb⟩; have n0_ := Aside0.mk (below_step (by repeat (first | (with_reducible first | exact HB.out | apply below_alloc | apply pw_below_drewN | apply below_drew1) | exact HB.out)) hb); clear HB; have HB := n0_; clear n0_; (try clear hb); (try clear hb2); (try clear hk); (try clear hi)))
            go_meet
            case rel => exact ⟨_, ((t343 != t344)), (by first | rfl | (simp; done) | (simp [*]; done)), H', ⟨by first | omega | exact Nat.le_refl _⟩, ⟨by repeat (first | (with_reducible first | exact HB.out | apply below_alloc | apply pw_below_drewN | apply below_drew1) | exact HB.out)⟩⟩
          · rw [if_neg c16] at H
            have c16b0 : (t339 == t342) = false := beq_eq_false_iff_ne.mpr c16
            have c16b1 : (t339 != t342) = true := bne_iff_ne.mpr c16
            have H' := Aside0.mk H
            clear H
            go_wp2_with (first | (go_at_call 31; (with_reducible refine (field_Pow.calls k 0 a1 (IntKind.u64.wrap ((Int.tmod a2 2147483648) + (Int.tmod a3 2147483648))) t339 _ ?side1 A12.out).mono ?_); (case side1 => repeat (first | exact (GL.below HRG.out HB.out) | (with_reducible refine GL.alloc ?_ _) | (with_reducible refine GL.drewN ?_ _) | (with_reducible refine GL.drew ?_))); rintro e w25 ⟨rfl, hb⟩; have n0_ := Aside0.mk (below_step (by repeat (first | (with_reducible first | exact HB.out | apply below_alloc | apply pw_below_drewN | apply below_drew1) | exact HB.out)) hb); clear HB; have HB := n0_; clear n0_; (try clear hb); (try clear hb2); (try clear hk); (try clear hi)) | (go_at_call 31; (with_reducible refine (field_Pow.calls k 0 a1 (Int.tmod a2 2147483648) t340 _ ?side1 A13.out).mono ?_); (case side1 => repeat (first | exact (GL.below HRG.out HB.out) | (with_reducible refine GL.alloc ?_ _) | (with_reducible refine GL.drewN ?_ _) | (with_reducible refine GL.drew ?_))); rintro e w26 ⟨rfl, hb⟩; have n0_ := Aside0.mk (below_step (by repeat (first | (with_reducible first | exact HB.out | apply below_alloc | apply pw_below_drewN | apply below_drew1) | exact HB.out)) hb); clear HB; have HB := n0_; clear n0_; (try clear hb); (try clear hb2); (try clear hk); (try clear hi)) | (go_at_call 31; (with_reducible refine (field_Pow.calls k 0 a1 (Int.tmod a3 2147483648) t341 _ ?side1 A14.out).mono ?_); (case side1 => repeat (first | exact (GL.below HRG.out HB.out) | (with_reducible refine GL.alloc ?_ _) | (with_reducible refine GL.drewN ?_ _) | (with_reducible refine GL.drew ?_))); rintro e w27 ⟨rfl, hb⟩; have n0_ := Aside0.mk (below_step (by repeat (first | (with_reducible first | exact HB.out | apply below_alloc | apply pw_below_drewN | apply below_drew1) | exact HB.out)) hb); clear HB; have HB := n0_; clear n0_; (try clear hb); (try clear hb2); (try clear hk); (try clear hi)) | (go_at_call 26; (with_reducible refine (field_Mul.calls 0 t340 t341 t342 _ ?side1 A15.out).mono ?_); (case side1 => repeat (first | exact (GL.below HRG.out HB.out) | (with_reducible refine GL.alloc ?_ _) | (with_reducible refine GL.drewN ?_ _) | (with_reducible refine GL.drew ?_))); rintro e w28 ⟨rfl, hb⟩; have n0_ := Aside0.mk (below_step (by repeat (first | (with_reducible first | exact HB.out | apply below_alloc | apply pw_below_drewN | apply below_drew1) | exact HB.out)) hb); clear HB; have HB := n0_; clear n0_; (try clear hb); (try clear hb2); (try clear hk); (try clear hi)))
            go_meet
            case rel => exact ⟨_, (true), (by first | rfl | (simp; done) | (simp [*]; done)), H', ⟨by first | omega | exact Nat.le_refl _⟩, ⟨by repeat (first | (with_reducible first | exact HB.out | apply below_alloc | apply pw_below_drewN | apply below_drew1) | exact HB.out)⟩⟩
      case rest =>
        clear HC9
        try clear c1
        try clear c2
        try clear p2
        try clear c6
        try clear c6b0
        try clear p6
        try clear c7
        try clear c11
        try clear c11b0
        try clear c11b1
        try clear c16
        try clear c16b0
        try clear c16b1
        try clear c24
        obtain ⟨kq, x60_8, rfl, HA, HJ8, HB⟩ := hcut
        cases kq with
        | zero => exact absurd HA.out (by simp [attestorlaw01_FieldPowers.j0])
        | succ kj8 =>
          have H := HA.out
          clear HA
          simp only [attestorlaw01_FieldPowers.j0] at H
          by_cases c29 : x60_8 = true
          · subst c29
            have H1 : (none) = some r := by rw [if_pos rfl] at H; exact H
            clear H
            have H := H1
            clear H1
            exact absurd H (by simp)
          · replace c29 := Bool.eq_false_iff.mpr c29
            subst c29
            have H1 : (if t338 = 0 then (none) else (if (Int.tmod a1 t338) = 0 then (attestorlaw01_FieldPowers.j1 kj8 a1 0 77 t338 false) else ((field_Pow.f kj8 0 a1 (IntKind.u64.wrap (t338 - 1))).bind fun t345 => (attestorlaw01_FieldPowers.j1 kj8 a1 0 77 t338 (t345 != 1))))) = some r := by rw [if_neg (show ¬ (false = true) by decide)] at H; exact H
            clear H
            have H := H1
            clear H1
            have HC30 := Aside0.mk H
            clear H
            go_upto_region 7 with (fail)
            go_cut [72] (fun v72 wc => ∃ (kq : Nat) (x72_29 : Bool), v72 = .bool x72_29 ∧ Aside0 (attestorlaw01_FieldPowers.j1 kq a1 0 77 t338 x72_29 = some r) ∧ Aside0 (kq ≤ kj8) ∧ Aside0 (Below w.heap.size w wc))
            case first =>
              have H := HC30.out
              clear HC30
              by_cases c31 : t338 = 0
              · rw [if_pos c31] at H
                exact absurd H (by simp)
              · rw [if_neg c31] at H
                have c31b0 : (t338 == 0) = false := beq_eq_false_iff_ne.mpr c31
                have c31b1 : (t338 != 0) = true := bne_iff_ne.mpr c31
                (first | rw [c31b0] | (simp only [i64_w, i32_w]; rw [c31b0]) | skip)
                by_cases c32 : (Int.tmod a1 t338) = 0
                · rw [if_pos c32] at H
                  have c32b0 : ((Int.tmod a1 t338) == 0) = true := beq_iff_eq.mpr c32
                  have c32b1 : ((Int.tmod a1 t338) != 0) = false := bne_eq_false_iff_eq.mpr c32
                  clear c32
                  have H' := Aside0.mk H
                  clear H
                  go_wp2
                  go_meet
                  case rel => exact ⟨_, (false), (by first | rfl | (simp; done) | (simp [*]; done)), H', ⟨by have := HJ8.out; first | omega | exact Nat.le_refl _⟩, ⟨by repeat (first | (with_reducible first | exact HB.out | apply below_alloc | apply pw_below_drewN | apply below_drew1) | exact HB.out)⟩⟩
                · rw [if_neg c32] at H
                  have c32b0 : ((Int.tmod a1 t338) == 0) = false := beq_eq_false_iff_ne.mpr c32
                  have c32b1 : ((Int.tmod a1 t338) != 0) = true := bne_iff_ne.mpr c32
                  replace H := Option.bind_eq_some_iff.mp H
                  obtain ⟨t345, A330, H⟩ := H
                  replace H : (attestorlaw01_FieldPowers.j1 kj8 a1 0 77 t338 (t345 != 1)) = some r := H
                  have A33 := Aside0.mk A330
                  clear A330
                  have H' := Aside0.mk H
                  clear H
                  go_wp2_with (first | (go_at_call 31; (with_reducible refine (field_Pow.calls kj8 0 a1 (IntKind.u64.wrap (t338 - 1)) t345 _ ?side1 A33.out).mono ?_); (case side1 => repeat (first | exact (GL.below HRG.out HB.out) | (with_reducible refine GL.alloc ?_ _) | (with_reducible refine GL.drewN ?_ _) | (with_reducible refine GL.drew ?_))); rintro e w34 ⟨rfl, hb⟩; have n0_ := Aside0.mk (below_step (by repeat (first | (with_reducible first | exact HB.out | apply below_alloc | apply pw_below_drewN | apply below_drew1) | exact HB.out)) hb); clear HB; have HB := n0_; clear n0_; (try clear hb); (try clear hb2); (try clear hk); (try clear hi)))
                  go_meet
                  case rel => exact ⟨_, ((t345 != 1)), (by first | rfl | (simp; done) | (simp [*]; done)), H', ⟨by have := HJ8.out; first | omega | exact Nat.le_refl _⟩, ⟨by repeat (first | (with_reducible first | exact HB.out | apply below_alloc | apply pw_below_drewN | apply below_drew1) | exact HB.out)⟩⟩
            case rest =>
              clear HC30
              try clear c1
              try clear c2
              try clear p2
              try clear c3
              try clear c6
              try clear c6b0
              try clear p6
              try clear c7
              try clear c11
              try clear c11b0
              try clear c11b1
              try clear c16
              try clear c16b0
              try clear c16b1
              try clear c24
              try clear c29
              try clear c31
              try clear c31b0
              try clear c31b1
              try clear c32
              try clear c32b0
              try clear c32b1
              try clear p2
              try clear p6
              obtain ⟨kq, x72_29, rfl, HA, HJ29, HB⟩ := hcut
              cases kq with
              | zero => exact absurd HA.out (by simp [attestorlaw01_FieldPowers.j1])
              | succ kj29 =>
                have H := HA.out
                clear HA
                simp only [attestorlaw01_FieldPowers.j1] at H
                by_cases c35 : x72_29 = true
                · subst c35
                  have H1 : (none) = some r := by rw [if_pos rfl] at H; exact H
                  clear H
                  have H := H1
                  clear H1
                  exact absurd H (by simp)
                · replace c35 := Bool.eq_false_iff.mpr c35
                  subst c35
                  have H1 : ((field_Exponent.f 0).bind fun t346 => ((field_Pow.f kj29 0 a1 (IntKind.u64.wrap (t346))).bind fun t347 => ((field_Pow.f kj29 0 t347 77).bind fun t348 => (if t338 = 0 then (none) else (if t348 = (Int.tmod a1 t338) then ((attestorlaw01_works.f kj29).bind fun t349 => (some t349)) else (none)))))) = some r := by rw [if_neg (show ¬ (false = true) by decide)] at H; exact H
                  clear H
                  have H := H1
                  clear H1
                  replace H := Option.bind_eq_some_iff.mp H
                  obtain ⟨t346, A360, H⟩ := H
                  replace H : ((field_Pow.f kj29 0 a1 (IntKind.u64.wrap (t346))).bind fun t347 => ((field_Pow.f kj29 0 t347 77).bind fun t348 => (if t338 = 0 then (none) else (if t348 = (Int.tmod a1 t338) then ((attestorlaw01_works.f kj29).bind fun t349 => (some t349)) else (none))))) = some r := H
                  have A36 := Aside0.mk A360
                  clear A360
                  replace H := Option.bind_eq_some_iff.mp H
                  obtain ⟨t347, A370, H⟩ := H
                  replace H : ((field_Pow.f kj29 0 t347 77).bind fun t348 => (if t338 = 0 then (none) else (if t348 = (Int.tmod a1 t338) then ((attestorlaw01_works.f kj29).bind fun t349 => (some t349)) else (none)))) = some r := H
                  have A37 := Aside0.mk A370
                  clear A370
                  replace H := Option.bind_eq_some_iff.mp H
                  obtain ⟨t348, A380, H⟩ := H
                  replace H : (if t338 = 0 then (none) else (if t348 = (Int.tmod a1 t338) then ((attestorlaw01_works.f kj29).bind fun t349 => (some t349)) else (none))) = some r := H
                  have A38 := Aside0.mk A380
                  clear A380
                  by_cases c39 : t338 = 0
                  · rw [if_pos c39] at H
                    exact absurd H (by simp)
                  · rw [if_neg c39] at H
                    have c39b0 : (t338 == 0) = false := beq_eq_false_iff_ne.mpr c39
                    have c39b1 : (t338 != 0) = true := bne_iff_ne.mpr c39
                    by_cases c40 : t348 = (Int.tmod a1 t338)
                    · rw [if_pos c40] at H
                      have c40b0 : (t348 == (Int.tmod a1 t338)) = true := beq_iff_eq.mpr c40
                      have c40b1 : (t348 != (Int.tmod a1 t338)) = false := bne_eq_false_iff_eq.mpr c40
                      clear c40
                      replace H := Option.bind_eq_some_iff.mp H
                      obtain ⟨t349, A410, H⟩ := H
                      replace H : (some t349) = some r := H
                      have A41 := Aside0.mk A410
                      clear A410
                      obtain rfl := Option.some.inj H
                      try go_wp2
                      have n0_ := Aside0.mk (below_drew1 HB.out)
                      clear HB
                      have HB := n0_
                      clear n0_
                      refine start_ (n := 17) (S := fun w' => True) (ds := []) #[false, false, false, false, false, false, false, false, false, false, false, false, false, false, false, false, false] (by kernel_rfl) rfl rfl trivial (fun hHeld => ?_); refine with_tabW attestorlaw01_FieldPowers.tab9 attestorlaw01_FieldPowers.bits9 (fun HT_ HW_ => ?_)
                      generalize wc.drew = w42 at HB hHeld ⊢
                      refine pure_ (i := 0) (N := some 73) (v := ?_) (a' := ?_) #[true, false, false, false, false, false, false, false, false, false, false, false, false, false, false, false, false] rfl rfl (any_of HT_.out (by kernel_rfl)) (fun _ _ _ h => h) (Or.inl ⟨by rfl, ?_⟩) ?_ ?_
                      rotate_left
                      · intro w'
                        go_simp
                        with_reducible rfl
                      rotate_left
                      · simp only [Act.put, List.setIfInBounds_toArray, List.set_cons_zero, List.set_cons_succ, i64_w, i32_w]
                        rfl
                      refine pure_ (i := 1) (N := some 74) (v := ?_) (a' := ?_) #[true, true, false, false, false, false, false, false, false, false, false, false, false, false, false, false, false] rfl rfl (any_of HT_.out (by kernel_rfl)) (fun _ _ _ h => h) (Or.inl ⟨by rfl, ?_⟩) ?_ ?_
                      rotate_left
                      · intro w'
                        go_simp
                        with_reducible rfl
                      rotate_left
                      · simp only [Act.put, List.setIfInBounds_toArray, List.set_cons_zero, List.set_cons_succ, i64_w, i32_w]
                        rfl
                      refine pure_ (i := 2) (N := some 75) (v := ?_) (a' := ?_) #[true, true, true, false, false, false, false, false, false, false, false, false, false, false, false, false, false] rfl rfl (any_of HT_.out (by kernel_rfl)) (fun _ _ _ h => h) (Or.inl ⟨by rfl, ?_⟩) ?_ ?_
                      rotate_left
                      · intro w'
                        go_simp
                        with_reducible rfl
                      rotate_left
                      · simp only [Act.put, List.setIfInBounds_toArray, List.set_cons_zero, List.set_cons_succ, i64_w, i32_w]
                        rfl
                      refine pure_ (i := 3) (N := some 76) (v := ?_) (a' := ?_) #[true, true, true, true, false, false, false, false, false, false, false, false, false, false, false, false, false] rfl rfl (any_of HT_.out (by kernel_rfl)) (fun _ _ _ h => h) (Or.inl ⟨by rfl, ?_⟩) ?_ ?_
                      rotate_left
                      · intro w'
                        go_simp
                        with_reducible rfl
                      rotate_left
                      · simp only [Act.put, List.setIfInBounds_toArray, List.set_cons_zero, List.set_cons_succ, i64_w, i32_w]
                        rfl
                      refine pure_ (i := 7) (N := some 80) (v := ?_) (a' := ?_) #[true, true, true, true, false, false, false, true, false, false, false, false, false, false, false, false, false] rfl rfl (any_of HT_.out (by kernel_rfl)) (fun _ _ _ h => h) (Or.inl ⟨by rfl, ?_⟩) ?_ ?_
                      rotate_left
                      · intro w'
                        go_simp
                        with_reducible rfl
                      rotate_left
                      · simp only [Act.put, List.setIfInBounds_toArray, List.set_cons_zero, List.set_cons_succ, i64_w, i32_w]
                        rfl
                      refine pure_ (i := 9) (N := some 82) (v := ?_) (a' := ?_) #[true, true, true, true, false, false, false, true, false, true, false, false, false, false, false, false, false] rfl rfl (any_of HT_.out (by kernel_rfl)) (fun _ _ _ h => h) (Or.inl ⟨by rfl, ?_⟩) ?_ ?_
                      rotate_left
                      · intro w'
                        go_simp
                        with_reducible rfl
                      rotate_left
                      · simp only [Act.put, List.setIfInBounds_toArray, List.set_cons_zero, List.set_cons_succ, i64_w, i32_w]
                        rfl
                      refine pure_ (i := 10) (N := some 83) (v := ?_) (a' := ?_) #[true, true, true, true, false, false, false, true, false, true, true, false, false, false, false, false, false] rfl rfl (any_of HT_.out (by kernel_rfl)) (fun _ _ _ h => h) (Or.inl ⟨by rfl, ?_⟩) ?_ ?_
                      rotate_left
                      · intro w'
                        go_simp
                        with_reducible rfl
                      rotate_left
                      · simp only [Act.put, List.setIfInBounds_toArray, List.set_cons_zero, List.set_cons_succ, i64_w, i32_w]
                        rfl
                      refine pure_ (i := 11) (N := some 84) (v := ?_) (a' := ?_) #[true, true, true, true, false, false, false, true, false, true, true, true, false, false, false, false, false] rfl rfl (any_of HT_.out (by kernel_rfl)) (fun _ _ _ h => h) (Or.inl ⟨by rfl, ?_⟩) ?_ ?_
                      rotate_left
                      · intro w'
                        go_simp
                        with_reducible rfl
                      rotate_left
                      · simp only [Act.put, List.setIfInBounds_toArray, List.set_cons_zero, List.set_cons_succ, i64_w, i32_w]
                        rfl
                      refine one_ (i := 4) (N := some 77) #[true, true, true, true, true, false, false, true, false, true, true, true, false, false, false, false, false] rfl rfl (one_of HT_.out (by kernel_rfl)) (by decide) (fun K hK => ?_)
                      refine goes_ Tryd.func32 (by kernel_rfl) rfl #[.int .i64 0] (by rfl) rfl rfl (by (try simp only [List.map_toArray, List.map_cons, List.map_nil]); first | done | rfl | (simp only [List.length_drop, List.length_take]; rfl) | (go_simp; done) | (go_simp; rw [Int.tmod_eq_emod_of_nonneg (by omega)]; omega)) ?_
                      with_reducible refine (field_Exponent.calls 0 t346 _ ?side1 A36.out).mono ?_
                      (case side1 => repeat (first | exact (GL.below HRG.out HB.out) | (with_reducible refine GL.alloc ?_ _) | (with_reducible refine GL.drewN ?_ _) | (with_reducible refine GL.drew ?_)))
                      rintro e w43 ⟨rfl, hb⟩
                      refine ⟨_, rfl, ?_⟩
                      have n0_ := Aside0.mk (below_step (by repeat (first | (with_reducible first | exact HB.out | apply below_alloc | apply pw_below_drewN | apply below_drew1) | exact HB.out)) hb)
                      clear HB
                      have HB := n0_
                      clear n0_
                      (try clear hb)
                      (try clear hb2)
                      (try clear hk)
                      (try clear hi)
                      refine hK.out _ _ trivial (fun hHeld => ?_)
                      clear hK K
                      refine norm_ (a' := ?_) ?_ ?_
                      rotate_left
                      · show Act.put _ (some 77) _ = _
                        simp only [Act.put, List.setIfInBounds_toArray, List.set_cons_zero, List.set_cons_succ, i64_w, i32_w]
                        rfl
                      refine pure_ (i := 5) (N := some 78) (v := ?_) (a' := ?_) #[true, true, true, true, true, true, false, true, false, true, true, true, false, false, false, false, false] rfl rfl (any_of HT_.out (by kernel_rfl)) (fun _ _ _ h => h) (Or.inl ⟨by rfl, ?_⟩) ?_ ?_
                      rotate_left
                      · intro w'
                        go_simp
                        with_reducible rfl
                      rotate_left
                      · simp only [Act.put, List.setIfInBounds_toArray, List.set_cons_zero, List.set_cons_succ, i64_w, i32_w]
                        rfl
                      refine one_ (i := 6) (N := some 79) #[true, true, true, true, true, true, true, true, false, true, true, true, false, false, false, false, false] rfl rfl (one_of HT_.out (by kernel_rfl)) (by decide) (fun K hK => ?_)
                      refine goes_ Tryd.func31 (by kernel_rfl) rfl #[.int .i64 0, .int .u64 a1, .int .u64 (IntKind.u64.wrap (t346))] (by rfl) rfl rfl (by (try simp only [List.map_toArray, List.map_cons, List.map_nil]); first | done | rfl | (simp only [List.length_drop, List.length_take]; rfl) | (go_simp; done) | (go_simp; rw [Int.tmod_eq_emod_of_nonneg (by omega)]; omega)) ?_
                      with_reducible refine (field_Pow.calls kj29 0 a1 (IntKind.u64.wrap (t346)) t347 _ ?side1 A37.out).mono ?_
                      (case side1 => repeat (first | exact (GL.below HRG.out HB.out) | (with_reducible refine GL.alloc ?_ _) | (with_reducible refine GL.drewN ?_ _) | (with_reducible refine GL.drew ?_)))
                      rintro e w44 ⟨rfl, hb⟩
                      refine ⟨_, rfl, ?_⟩
                      have n0_ := Aside0.mk (below_step (by repeat (first | (with_reducible first | exact HB.out | apply below_alloc | apply pw_below_drewN | apply below_drew1) | exact HB.out)) hb)
                      clear HB
                      have HB := n0_
                      clear n0_
                      (try clear hb)
                      (try clear hb2)
                      (try clear hk)
                      (try clear hi)
                      refine hK.out _ _ trivial (fun hHeld => ?_)
                      clear hK K
                      refine norm_ (a' := ?_) ?_ ?_
                      rotate_left
                      · show Act.put _ (some 79) _ = _
                        simp only [Act.put, List.setIfInBounds_toArray, List.set_cons_zero, List.set_cons_succ, i64_w, i32_w]
                        rfl
                      refine one_ (i := 8) (N := some 81) #[true, true, true, true, true, true, true, true, true, true, true, true, false, false, false, false, false] rfl rfl (one_of HT_.out (by kernel_rfl)) (by decide) (fun K hK => ?_)
                      refine goes_ Tryd.func31 (by kernel_rfl) rfl #[.int .i64 0, .int .u64 t347, .int .u64 77] (by rfl) rfl rfl (by (try simp only [List.map_toArray, List.map_cons, List.map_nil]); first | done | rfl | (simp only [List.length_drop, List.length_take]; rfl) | (go_simp; done) | (go_simp; rw [Int.tmod_eq_emod_of_nonneg (by omega)]; omega)) ?_
                      with_reducible refine (field_Pow.calls kj29 0 t347 77 t348 _ ?side1 A38.out).mono ?_
                      (case side1 => repeat (first | exact (GL.below HRG.out HB.out) | (with_reducible refine GL.alloc ?_ _) | (with_reducible refine GL.drewN ?_ _) | (with_reducible refine GL.drew ?_)))
                      rintro e w45 ⟨rfl, hb⟩
                      refine ⟨_, rfl, ?_⟩
                      have n0_ := Aside0.mk (below_step (by repeat (first | (with_reducible first | exact HB.out | apply below_alloc | apply pw_below_drewN | apply below_drew1) | exact HB.out)) hb)
                      clear HB
                      have HB := n0_
                      clear n0_
                      (try clear hb)
                      (try clear hb2)
                      (try clear hk)
                      (try clear hi)
                      refine hK.out _ _ trivial (fun hHeld => ?_)
                      clear hK K
                      refine norm_ (a' := ?_) ?_ ?_
                      rotate_left
                      · show Act.put _ (some 81) _ = _
                        simp only [Act.put, List.setIfInBounds_toArray, List.set_cons_zero, List.set_cons_succ, i64_w, i32_w]
                        rfl
                      refine pure_ (i := 12) (N := some 85) (v := ?_) (a' := ?_) #[true, true, true, true, true, true, true, true, true, true, true, true, true, false, false, false, false] rfl rfl (any_of HT_.out (by kernel_rfl)) (fun _ _ _ h => h) (Or.inl ⟨by rfl, ?_⟩) ?_ ?_
                      rotate_left
                      · intro w'
                        go_simp
                        with_reducible rfl
                      rotate_left
                      · simp only [Act.put, List.setIfInBounds_toArray, List.set_cons_zero, List.set_cons_succ, i64_w, i32_w]
                        rfl
                      refine pure_ (i := 13) (N := some 86) (v := ?_) (a' := ?_) #[true, true, true, true, true, true, true, true, true, true, true, true, true, true, false, false, false] rfl rfl (any_of HT_.out (by kernel_rfl)) (fun _ _ _ h => h) (Or.inl ⟨by rfl, ?_⟩) ?_ ?_
                      rotate_left
                      · intro w'
                        go_simp
                        with_reducible rfl
                      rotate_left
                      · simp only [Act.put, List.setIfInBounds_toArray, List.set_cons_zero, List.set_cons_succ, i64_w, i32_w]
                        rfl
                      refine one_ (i := 14) (N := some 87) #[true, true, true, true, true, true, true, true, true, true, true, true, true, true, true, false, false] rfl rfl (one_of HT_.out (by kernel_rfl)) (by decide) (fun K hK => ?_)
                      refine goes_ Tryd.func16 (by kernel_rfl) rfl #[] (by rfl) rfl rfl (by (try simp only [List.map_toArray, List.map_cons, List.map_nil]); first | done | rfl | (simp only [List.length_drop, List.length_take]; rfl) | (go_simp; done) | (go_simp; rw [Int.tmod_eq_emod_of_nonneg (by omega)]; omega)) ?_
                      with_reducible refine (attestorlaw01_works.calls kj29  t349 _ ?side1 A41.out).mono ?_
                      (case side1 => repeat (first | exact (GL.below HRG.out HB.out) | (with_reducible refine GL.alloc ?_ _) | (with_reducible refine GL.drewN ?_ _) | (with_reducible refine GL.drew ?_)))
                      rintro e w46 ⟨rfl, hb⟩
                      refine ⟨_, rfl, ?_⟩
                      have n0_ := Aside0.mk (below_step (by repeat (first | (with_reducible first | exact HB.out | apply below_alloc | apply pw_below_drewN | apply below_drew1) | exact HB.out)) hb)
                      clear HB
                      have HB := n0_
                      clear n0_
                      (try clear hb)
                      (try clear hb2)
                      (try clear hk)
                      (try clear hi)
                      refine hK.out _ _ trivial (fun hHeld => ?_)
                      clear hK K
                      refine norm_ (a' := ?_) ?_ ?_
                      rotate_left
                      · show Act.put _ (some 87) _ = _
                        simp only [Act.put, List.setIfInBounds_toArray, List.set_cons_zero, List.set_cons_succ, i64_w, i32_w]
                        rfl
                      refine pure_ (i := 15) (N := some 88) (v := ?_) (a' := ?_) #[true, true, true, true, true, true, true, true, true, true, true, true, true, true, true, true, false] rfl rfl (any_of HT_.out (by kernel_rfl)) (fun _ _ _ h => h) (Or.inl ⟨by rfl, ?_⟩) ?_ ?_
                      rotate_left
                      · intro w'
                        go_simp
                        with_reducible rfl
                      rotate_left
                      · simp only [Act.put, List.setIfInBounds_toArray, List.set_cons_zero, List.set_cons_succ, i64_w, i32_w]
                        rfl
                      refine pure_ (i := 16) (N := some 8) (v := ?_) (a' := ?_) #[true, true, true, true, true, true, true, true, true, true, true, true, true, true, true, true, true] rfl rfl (any_of HT_.out (by kernel_rfl)) (fun _ _ _ h => h) (Or.inl ⟨by rfl, ?_⟩) ?_ ?_
                      rotate_left
                      · intro w'
                        go_simp
                        with_reducible rfl
                      rotate_left
                      · simp only [Act.put, List.setIfInBounds_toArray, List.set_cons_zero, List.set_cons_succ, i64_w, i32_w]
                        rfl
                      refine done_ (done_of HT_.out (by kernel_rfl)) ?_
                      try go_wp2
                      go_ret
                      exact ⟨by first | rfl | (simp [errW_none, errW_some] <;> rfl) | (simp only [← hji5]; first | rfl | (simp [errW_none, errW_some] <;> rfl)) | (simp [*, errW_none, errW_some] <;> rfl), by repeat (first | (with_reducible first | exact HB.out | apply below_alloc | apply pw_below_drewN | apply below_drew1) | exact HB.out)⟩
                    · rw [if_neg c40] at H
                      exact absurd H (by simp)
    · rw [if_neg c7] at H
      by_cases c47 : (ji5) = 1
      · rw [if_pos c47] at H
        subst c47
        replace H := Option.bind_eq_some_iff.mp H
        obtain ⟨t350, A480, H⟩ := H
        (try dsimp only at H)
        have A48 := Aside0.mk A480
        clear A480
        have HC49 := Aside0.mk H
        clear H
        go_enter Tryd.func7, Tryd.ntmps7
        go_upto_region 5 with (first | ((with_reducible refine gate_callee (f := 24) rfl ?_); refine goesL_ (some 23) rfl rfl Tryd.func24 (by kernel_rfl) rfl #[.int .i64 1] rfl (by (try simp only [List.map_toArray, List.map_cons, List.map_nil]); first | done | rfl | (simp only [List.length_drop, List.length_take]; rfl) | (go_simp; done) | (go_simp; rw [Int.tmod_eq_emod_of_nonneg (by omega)]; omega)) ?_; (with_reducible refine (field_P.calls 1 t350 _ ?side1 A48.out).mono ?_); (case side1 => repeat (first | exact HRG.out | (with_reducible refine GL.alloc ?_ _) | (with_reducible refine GL.drewN ?_ _) | (with_reducible refine GL.drew ?_))); rintro e w50 ⟨rfl, hb⟩; refine ⟨_, rfl, ?_⟩; have n0_ := Aside0.mk (below_step (by repeat (first | (with_reducible first | exact HB.out | apply below_alloc | apply pw_below_drewN | apply below_drew1) | exact HB.out)) hb); clear HB; have HB := n0_; clear n0_; (try clear hb); (try clear hb2); (try clear hk); (try clear hi)))
        (try simp only [Act.put, List.setIfInBounds_toArray, List.set_cons_zero, List.set_cons_succ])
        go_cut [60] (fun v60 wc => ∃ (kq : Nat) (x60_48 : Bool), v60 = .bool x60_48 ∧ Aside0 (attestorlaw01_FieldPowers.j2 kq a1 1 171 t350 x60_48 = some r) ∧ Aside0 (kq ≤ k) ∧ Aside0 (Below w.heap.size w wc))
        case first =>
          have H := HC49.out
          clear HC49
          by_cases c51 : t350 = 0
          · rw [if_pos c51] at H
            have c51b0 : (t350 == 0) = true := beq_iff_eq.mpr c51
            have c51b1 : (t350 != 0) = false := bne_eq_false_iff_eq.mpr c51
            clear c51
            (first | rw [c51b0] | (simp only [i64_w, i32_w]; rw [c51b0]) | skip)
            have H' := Aside0.mk H
            clear H
            go_wp2
            go_meet
            case rel => exact ⟨_, (true), (by first | rfl | (simp; done) | (simp [*]; done)), H', ⟨by first | omega | exact Nat.le_refl _⟩, ⟨by repeat (first | (with_reducible first | exact HB.out | apply below_alloc | apply pw_below_drewN | apply below_drew1) | exact HB.out)⟩⟩
          · rw [if_neg c51] at H
            have c51b0 : (t350 == 0) = false := beq_eq_false_iff_ne.mpr c51
            have c51b1 : (t350 != 0) = true := bne_iff_ne.mpr c51
            (first | rw [c51b0] | (simp only [i64_w, i32_w]; rw [c51b0]) | skip)
            replace H := Option.bind_eq_some_iff.mp H
            obtain ⟨t351, A520, H⟩ := H
            (try dsimp only at H)
            have A52 := Aside0.mk A520
            clear A520
            replace H := Option.bind_eq_some_iff.mp H
            obtain ⟨t352, A530, H⟩ := H
            (try dsimp only at H)
            have A53 := Aside0.mk A530
            clear A530
            replace H := Option.bind_eq_some_iff.mp H
            obtain ⟨t353, A540, H⟩ := H
            (try dsimp only at H)
            have A54 := Aside0.mk A540
            clear A540
            replace H := Option.bind_eq_some_iff.mp H
            obtain ⟨t354, A550, H⟩ := H
            (try dsimp only at H)
            have A55 := Aside0.mk A550
            clear A550
            by_cases c56 : t351 = t354
            · rw [if_pos c56] at H
              have c56b0 : (t351 == t354) = true := beq_iff_eq.mpr c56
              have c56b1 : (t351 != t354) = false := bne_eq_false_iff_eq.mpr c56
              clear c56
              replace H := Option.bind_eq_some_iff.mp H
              obtain ⟨t355, A570, H⟩ := H
              replace H : ((field_Pow.f k (1) a1 (IntKind.u64.wrap ((Int.tmod a2 2147483648) * (Int.tmod a3 2147483648)))).bind fun t356 => (attestorlaw01_FieldPowers.j2 k a1 1 171 t350 (t355 != t356))) = some r := H
              have A57 := Aside0.mk A570
              clear A570
              replace H := Option.bind_eq_some_iff.mp H
              obtain ⟨t356, A580, H⟩ := H
              replace H : (attestorlaw01_FieldPowers.j2 k a1 1 171 t350 (t355 != t356)) = some r := H
              have A58 := Aside0.mk A580
              clear A580
              have H' := Aside0.mk H
              clear H
              go_wp2_with (first | (go_at_call 31; (with_reducible refine (field_Pow.calls k 1 a1 (IntKind.u64.wrap ((Int.tmod a2 2147483648) + (Int.tmod a3 2147483648))) t351 _ ?side1 A52.out).mono ?_); (case side1 => repeat (first | exact (GL.below HRG.out HB.out) | (with_reducible refine GL.alloc ?_ _) | (with_reducible refine GL.drewN ?_ _) | (with_reducible refine GL.drew ?_))); rintro e w59 ⟨rfl, hb⟩; have n0_ := Aside0.mk (below_step (by repeat (first | (with_reducible first | exact HB.out | apply below_alloc | apply pw_below_drewN | apply below_drew1) | exact HB.out)) hb); clear HB; have HB := n0_; clear n0_; (try clear hb); (try clear hb2); (try clear hk); (try clear hi)) | (go_at_call 31; (with_reducible refine (field_Pow.calls k 1 a1 (Int.tmod a2 2147483648) t352 _ ?side1 A53.out).mono ?_); (case side1 => repeat (first | exact (GL.below HRG.out HB.out) | (with_reducible refine GL.alloc ?_ _) | (with_reducible refine GL.drewN ?_ _) | (with_reducible refine GL.drew ?_))); rintro e w60 ⟨rfl, hb⟩; have n0_ := Aside0.mk (below_step (by repeat (first | (with_reducible first | exact HB.out | apply below_alloc | apply pw_below_drewN | apply below_drew1) | exact HB.out)) hb); clear HB; have HB := n0_; clear n0_; (try clear hb); (try clear hb2); (try clear hk); (try clear hi)) | (go_at_call 31; (with_reducible refine (field_Pow.calls k 1 a1 (Int.tmod a3 2147483648) t353 _ ?side1 A54.out).mono ?_); (case side1 => repeat (first | exact (GL.below HRG.out HB.out) | (with_reducible refine GL.alloc ?_ _) | (with_reducible refine GL.drewN ?_ _) | (with_reducible refine GL.drew ?_))); rintro e w61 ⟨rfl, hb⟩; have n0_ := Aside0.mk (below_step (by repeat (first | (with_reducible first | exact HB.out | apply below_alloc | apply pw_below_drewN | apply below_drew1) | exact HB.out)) hb); clear HB; have HB := n0_; clear n0_; (try clear hb); (try clear hb2); (try clear hk); (try clear hi)) | (go_at_call 26; (with_reducible refine (field_Mul.calls 1 t352 t353 t354 _ ?side1 A55.out).mono ?_); (case side1 => repeat (first | exact (GL.below HRG.out HB.out) | (with_reducible refine GL.alloc ?_ _) | (with_reducible refine GL.drewN ?_ _) | (with_reducible refine GL.drew ?_))); rintro e w62 ⟨rfl, hb⟩; have n0_ := Aside0.mk (below_step (by repeat (first | (with_reducible first | exact HB.out | apply below_alloc | apply pw_below_drewN | apply below_drew1) | exact HB.out)) hb); clear HB; have HB := n0_; clear n0_; (try clear hb); (try clear hb2); (try clear hk); (try clear hi)) | (go_at_call 31; (with_reducible refine (field_Pow.calls k 1 t352 (Int.tmod a3 2147483648) t355 _ ?side1 A57.out).mono ?_); (case side1 => repeat (first | exact (GL.below HRG.out HB.out) | (with_reducible refine GL.alloc ?_ _) | (with_reducible refine GL.drewN ?_ _) | (with_reducible refine GL.drew ?_))); rintro e w63 ⟨rfl, hb⟩; have n0_ := Aside0.mk (below_step (by repeat (first | (with_reducible first | exact HB.out | apply below_alloc | apply pw_below_drewN | apply below_drew1) | exact HB.out)) hb); clear HB; have HB := n0_; clear n0_; (try clear hb); (try clear hb2); (try clear hk); (try clear hi)) | (go_at_call 31; (with_reducible refine (field_Pow.calls k 1 a1 (IntKind.u64.wrap ((Int.tmod a2 2147483648) * (Int.tmod a3 2147483648))) t356 _ ?side1 A58.out).mono ?_); (case side1 => repeat (first | exact (GL.below HRG.out HB.out) | (with_reducible refine GL.alloc ?_ _) | (with_reducible refine GL.drewN ?_ _) | (with_reducible refine GL.drew ?_))); rintro e w64 ⟨rfl, hb⟩; have n0_ := Aside0.mk (below_step (by repeat (first | (with_reducible first | exact HB.out | apply below_alloc | apply pw_below_drewN | apply below_drew1) | exact HB.out)) hb); clear HB; have HB := n0_; clear n0_; (try clear hb); (try clear hb2); (try clear hk); (try clear hi)))
              go_meet
              case rel => exact ⟨_, ((t355 != t356)), (by first | rfl | (simp; done) | (simp [*]; done)), H', ⟨by first | omega | exact Nat.le_refl _⟩, ⟨by repeat (first | (with_reducible first | exact HB.out | apply below_alloc | apply pw_below_drewN | apply below_drew1) | exact HB.out)⟩⟩
            · rw [if_neg c56] at H
              have c56b0 : (t351 == t354) = false := beq_eq_false_iff_ne.mpr c56
              have c56b1 : (t351 != t354) = true := bne_iff_ne.mpr c56
              have H' := Aside0.mk H
              clear H
              go_wp2_with (first | (go_at_call 31; (with_reducible refine (field_Pow.calls k 1 a1 (IntKind.u64.wrap ((Int.tmod a2 2147483648) + (Int.tmod a3 2147483648))) t351 _ ?side1 A52.out).mono ?_); (case side1 => repeat (first | exact (GL.below HRG.out HB.out) | (with_reducible refine GL.alloc ?_ _) | (with_reducible refine GL.drewN ?_ _) | (with_reducible refine GL.drew ?_))); rintro e w65 ⟨rfl, hb⟩; have n0_ := Aside0.mk (below_step (by repeat (first | (with_reducible first | exact HB.out | apply below_alloc | apply pw_below_drewN | apply below_drew1) | exact HB.out)) hb); clear HB; have HB := n0_; clear n0_; (try clear hb); (try clear hb2); (try clear hk); (try clear hi)) | (go_at_call 31; (with_reducible refine (field_Pow.calls k 1 a1 (Int.tmod a2 2147483648) t352 _ ?side1 A53.out).mono ?_); (case side1 => repeat (first | exact (GL.below HRG.out HB.out) | (with_reducible refine GL.alloc ?_ _) | (with_reducible refine GL.drewN ?_ _) | (with_reducible refine GL.drew ?_))); rintro e w66 ⟨rfl, hb⟩; have n0_ := Aside0.mk (below_step (by repeat (first | (with_reducible first | exact HB.out | apply below_alloc | apply pw_below_drewN | apply below_drew1) | exact HB.out)) hb); clear HB; have HB := n0_; clear n0_; (try clear hb); (try clear hb2); (try clear hk); (try clear hi)) | (go_at_call 31; (with_reducible refine (field_Pow.calls k 1 a1 (Int.tmod a3 2147483648) t353 _ ?side1 A54.out).mono ?_); (case side1 => repeat (first | exact (GL.below HRG.out HB.out) | (with_reducible refine GL.alloc ?_ _) | (with_reducible refine GL.drewN ?_ _) | (with_reducible refine GL.drew ?_))); rintro e w67 ⟨rfl, hb⟩; have n0_ := Aside0.mk (below_step (by repeat (first | (with_reducible first | exact HB.out | apply below_alloc | apply pw_below_drewN | apply below_drew1) | exact HB.out)) hb); clear HB; have HB := n0_; clear n0_; (try clear hb); (try clear hb2); (try clear hk); (try clear hi)) | (go_at_call 26; (with_reducible refine (field_Mul.calls 1 t352 t353 t354 _ ?side1 A55.out).mono ?_); (case side1 => repeat (first | exact (GL.below HRG.out HB.out) | (with_reducible refine GL.alloc ?_ _) | (with_reducible refine GL.drewN ?_ _) | (with_reducible refine GL.drew ?_))); rintro e w68 ⟨rfl, hb⟩; have n0_ := Aside0.mk (below_step (by repeat (first | (with_reducible first | exact HB.out | apply below_alloc | apply pw_below_drewN | apply below_drew1) | exact HB.out)) hb); clear HB; have HB := n0_; clear n0_; (try clear hb); (try clear hb2); (try clear hk); (try clear hi)))
              go_meet
              case rel => exact ⟨_, (true), (by first | rfl | (simp; done) | (simp [*]; done)), H', ⟨by first | omega | exact Nat.le_refl _⟩, ⟨by repeat (first | (with_reducible first | exact HB.out | apply below_alloc | apply pw_below_drewN | apply below_drew1) | exact HB.out)⟩⟩
        case rest =>
          clear HC49
          try clear c1
          try clear c2
          try clear p2
          try clear c3
          try clear c4
          try clear c5
          try clear c6
          try clear c6b0
          try clear p6
          try clear c7
          try clear c11
          try clear c11b0
          try clear c11b1
          try clear c16
          try clear c16b0
          try clear c16b1
          try clear c24
          try clear c29
          try clear c31
          try clear c31b0
          try clear c31b1
          try clear c32
          try clear c32b0
          try clear c32b1
          try clear c35
          try clear c39
          try clear c39b0
          try clear c39b1
          try clear c40
          try clear c40b0
          try clear c40b1
          try clear c47
          try clear c51
          try clear c51b0
          try clear c51b1
          try clear c56
          try clear c56b0
          try clear c56b1
          try clear p64
          try clear p2
          try clear p6
          obtain ⟨kq, x60_48, rfl, HA, HJ48, HB⟩ := hcut
          cases kq with
          | zero => exact absurd HA.out (by simp [attestorlaw01_FieldPowers.j2])
          | succ kj48 =>
            have H := HA.out
            clear HA
            simp only [attestorlaw01_FieldPowers.j2] at H
            by_cases c69 : x60_48 = true
            · subst c69
              have H1 : (none) = some r := by rw [if_pos rfl] at H; exact H
              clear H
              have H := H1
              clear H1
              exact absurd H (by simp)
            · replace c69 := Bool.eq_false_iff.mpr c69
              subst c69
              have H1 : (if t350 = 0 then (none) else (if (Int.tmod a1 t350) = 0 then (attestorlaw01_FieldPowers.j3 kj48 a1 1 171 t350 false) else ((field_Pow.f kj48 1 a1 (IntKind.u64.wrap (t350 - 1))).bind fun t357 => (attestorlaw01_FieldPowers.j3 kj48 a1 1 171 t350 (t357 != 1))))) = some r := by rw [if_neg (show ¬ (false = true) by decide)] at H; exact H
              clear H
              have H := H1
              clear H1
              have HC70 := Aside0.mk H
              clear H
              go_upto_region 7 with (fail)
              go_cut [72] (fun v72 wc => ∃ (kq : Nat) (x72_69 : Bool), v72 = .bool x72_69 ∧ Aside0 (attestorlaw01_FieldPowers.j3 kq a1 1 171 t350 x72_69 = some r) ∧ Aside0 (kq ≤ kj48) ∧ Aside0 (Below w.heap.size w wc))
              case first =>
                have H := HC70.out
                clear HC70
                by_cases c71 : t350 = 0
                · rw [if_pos c71] at H
                  exact absurd H (by simp)
                · rw [if_neg c71] at H
                  have c71b0 : (t350 == 0) = false := beq_eq_false_iff_ne.mpr c71
                  have c71b1 : (t350 != 0) = true := bne_iff_ne.mpr c71
                  (first | rw [c71b0] | (simp only [i64_w, i32_w]; rw [c71b0]) | skip)
                  by_cases c72 : (Int.tmod a1 t350) = 0
                  · rw [if_pos c72] at H
                    have c72b0 : ((Int.tmod a1 t350) == 0) = true := beq_iff_eq.mpr c72
                    have c72b1 : ((Int.tmod a1 t350) != 0) = false := bne_eq_false_iff_eq.mpr c72
                    clear c72
                    have H' := Aside0.mk H
                    clear H
                    go_wp2
                    go_meet
                    case rel => exact ⟨_, (false), (by first | rfl | (simp; done) | (simp [*]; done)), H', ⟨by have := HJ48.out; first | omega | exact Nat.le_refl _⟩, ⟨by repeat (first | (with_reducible first | exact HB.out | apply below_alloc | apply pw_below_drewN | apply below_drew1) | exact HB.out)⟩⟩
                  · rw [if_neg c72] at H
                    have c72b0 : ((Int.tmod a1 t350) == 0) = false := beq_eq_false_iff_ne.mpr c72
                    have c72b1 : ((Int.tmod a1 t350) != 0) = true := bne_iff_ne.mpr c72
                    replace H := Option.bind_eq_some_iff.mp H
                    obtain ⟨t357, A730, H⟩ := H
                    replace H : (attestorlaw01_FieldPowers.j3 kj48 a1 1 171 t350 (t357 != 1)) = some r := H
                    have A73 := Aside0.mk A730
                    clear A730
                    have H' := Aside0.mk H
                    clear H
                    go_wp2_with (first | (go_at_call 31; (with_reducible refine (field_Pow.calls kj48 1 a1 (IntKind.u64.wrap (t350 - 1)) t357 _ ?side1 A73.out).mono ?_); (case side1 => repeat (first | exact (GL.below HRG.out HB.out) | (with_reducible refine GL.alloc ?_ _) | (with_reducible refine GL.drewN ?_ _) | (with_reducible refine GL.drew ?_))); rintro e w74 ⟨rfl, hb⟩; have n0_ := Aside0.mk (below_step (by repeat (first | (with_reducible first | exact HB.out | apply below_alloc | apply pw_below_drewN | apply below_drew1) | exact HB.out)) hb); clear HB; have HB := n0_; clear n0_; (try clear hb); (try clear hb2); (try clear hk); (try clear hi)))
                    go_meet
                    case rel => exact ⟨_, ((t357 != 1)), (by first | rfl | (simp; done) | (simp [*]; done)), H', ⟨by have := HJ48.out; first | omega | exact Nat.le_refl _⟩, ⟨by repeat (first | (with_reducible first | exact HB.out | apply below_alloc | apply pw_below_drewN | apply below_drew1) | exact HB.out)⟩⟩
              case rest =>
                clear HC70
                try clear c1
                try clear c2
                try clear p2
                try clear c3
                try clear c4
                try clear c5
                try clear c6
                try clear c6b0
                try clear p6
                try clear c7
                try clear c11
                try clear c11b0
                try clear c11b1
                try clear c16
                try clear c16b0
                try clear c16b1
                try clear c24
                try clear c29
                try clear c31
                try clear c31b0
                try clear c31b1
                try clear c32
                try clear c32b0
                try clear c32b1
                try clear c35
                try clear c39
                try clear c39b0
                try clear c39b1
                try clear c40
                try clear c40b0
                try clear c40b1
                try clear c47
                try clear c51
                try clear c51b0
                try clear c51b1
                try clear c56
                try clear c56b0
                try clear c56b1
                try clear p64
                try clear c69
                try clear c71
                try clear c71b0
                try clear c71b1
                try clear c72
                try clear c72b0
                try clear c72b1
                try clear p2
                try clear p6
                try clear p64
                obtain ⟨kq, x72_69, rfl, HA, HJ69, HB⟩ := hcut
                cases kq with
                | zero => exact absurd HA.out (by simp [attestorlaw01_FieldPowers.j3])
                | succ kj69 =>
                  have H := HA.out
                  clear HA
                  simp only [attestorlaw01_FieldPowers.j3] at H
                  by_cases c75 : x72_69 = true
                  · subst c75
                    have H1 : (none) = some r := by rw [if_pos rfl] at H; exact H
                    clear H
                    have H := H1
                    clear H1
                    exact absurd H (by simp)
                  · replace c75 := Bool.eq_false_iff.mpr c75
                    subst c75
                    have H1 : ((field_Exponent.f 1).bind fun t358 => ((field_Pow.f kj69 1 a1 (IntKind.u64.wrap (t358))).bind fun t359 => ((field_Pow.f kj69 1 t359 171).bind fun t360 => (if t350 = 0 then (none) else (if t360 = (Int.tmod a1 t350) then ((attestorlaw01_works.f kj69).bind fun t361 => (some t361)) else (none)))))) = some r := by rw [if_neg (show ¬ (false = true) by decide)] at H; exact H
                    clear H
                    have H := H1
                    clear H1
                    replace H := Option.bind_eq_some_iff.mp H
                    obtain ⟨t358, A760, H⟩ := H
                    replace H : ((field_Pow.f kj69 1 a1 (IntKind.u64.wrap (t358))).bind fun t359 => ((field_Pow.f kj69 1 t359 171).bind fun t360 => (if t350 = 0 then (none) else (if t360 = (Int.tmod a1 t350) then ((attestorlaw01_works.f kj69).bind fun t361 => (some t361)) else (none))))) = some r := H
                    have A76 := Aside0.mk A760
                    clear A760
                    replace H := Option.bind_eq_some_iff.mp H
                    obtain ⟨t359, A770, H⟩ := H
                    replace H : ((field_Pow.f kj69 1 t359 171).bind fun t360 => (if t350 = 0 then (none) else (if t360 = (Int.tmod a1 t350) then ((attestorlaw01_works.f kj69).bind fun t361 => (some t361)) else (none)))) = some r := H
                    have A77 := Aside0.mk A770
                    clear A770
                    replace H := Option.bind_eq_some_iff.mp H
                    obtain ⟨t360, A780, H⟩ := H
                    replace H : (if t350 = 0 then (none) else (if t360 = (Int.tmod a1 t350) then ((attestorlaw01_works.f kj69).bind fun t361 => (some t361)) else (none))) = some r := H
                    have A78 := Aside0.mk A780
                    clear A780
                    by_cases c79 : t350 = 0
                    · rw [if_pos c79] at H
                      exact absurd H (by simp)
                    · rw [if_neg c79] at H
                      have c79b0 : (t350 == 0) = false := beq_eq_false_iff_ne.mpr c79
                      have c79b1 : (t350 != 0) = true := bne_iff_ne.mpr c79
                      by_cases c80 : t360 = (Int.tmod a1 t350)
                      · rw [if_pos c80] at H
                        have c80b0 : (t360 == (Int.tmod a1 t350)) = true := beq_iff_eq.mpr c80
                        have c80b1 : (t360 != (Int.tmod a1 t350)) = false := bne_eq_false_iff_eq.mpr c80
                        clear c80
                        replace H := Option.bind_eq_some_iff.mp H
                        obtain ⟨t361, A810, H⟩ := H
                        replace H : (some t361) = some r := H
                        have A81 := Aside0.mk A810
                        clear A810
                        obtain rfl := Option.some.inj H
                        try go_wp2
                        have n0_ := Aside0.mk (below_drew1 HB.out)
                        clear HB
                        have HB := n0_
                        clear n0_
                        refine start_ (n := 17) (S := fun w' => True) (ds := []) #[false, false, false, false, false, false, false, false, false, false, false, false, false, false, false, false, false] (by kernel_rfl) rfl rfl trivial (fun hHeld => ?_); refine with_tabW attestorlaw01_FieldPowers.tab9 attestorlaw01_FieldPowers.bits9 (fun HT_ HW_ => ?_)
                        generalize wc.drew = w82 at HB hHeld ⊢
                        refine pure_ (i := 0) (N := some 73) (v := ?_) (a' := ?_) #[true, false, false, false, false, false, false, false, false, false, false, false, false, false, false, false, false] rfl rfl (any_of HT_.out (by kernel_rfl)) (fun _ _ _ h => h) (Or.inl ⟨by rfl, ?_⟩) ?_ ?_
                        rotate_left
                        · intro w'
                          go_simp
                          with_reducible rfl
                        rotate_left
                        · simp only [Act.put, List.setIfInBounds_toArray, List.set_cons_zero, List.set_cons_succ, i64_w, i32_w]
                          rfl
                        refine pure_ (i := 1) (N := some 74) (v := ?_) (a' := ?_) #[true, true, false, false, false, false, false, false, false, false, false, false, false, false, false, false, false] rfl rfl (any_of HT_.out (by kernel_rfl)) (fun _ _ _ h => h) (Or.inl ⟨by rfl, ?_⟩) ?_ ?_
                        rotate_left
                        · intro w'
                          go_simp
                          with_reducible rfl
                        rotate_left
                        · simp only [Act.put, List.setIfInBounds_toArray, List.set_cons_zero, List.set_cons_succ, i64_w, i32_w]
                          rfl
                        refine pure_ (i := 2) (N := some 75) (v := ?_) (a' := ?_) #[true, true, true, false, false, false, false, false, false, false, false, false, false, false, false, false, false] rfl rfl (any_of HT_.out (by kernel_rfl)) (fun _ _ _ h => h) (Or.inl ⟨by rfl, ?_⟩) ?_ ?_
                        rotate_left
                        · intro w'
                          go_simp
                          with_reducible rfl
                        rotate_left
                        · simp only [Act.put, List.setIfInBounds_toArray, List.set_cons_zero, List.set_cons_succ, i64_w, i32_w]
                          rfl
                        refine pure_ (i := 3) (N := some 76) (v := ?_) (a' := ?_) #[true, true, true, true, false, false, false, false, false, false, false, false, false, false, false, false, false] rfl rfl (any_of HT_.out (by kernel_rfl)) (fun _ _ _ h => h) (Or.inl ⟨by rfl, ?_⟩) ?_ ?_
                        rotate_left
                        · intro w'
                          go_simp
                          with_reducible rfl
                        rotate_left
                        · simp only [Act.put, List.setIfInBounds_toArray, List.set_cons_zero, List.set_cons_succ, i64_w, i32_w]
                          rfl
                        refine pure_ (i := 7) (N := some 80) (v := ?_) (a' := ?_) #[true, true, true, true, false, false, false, true, false, false, false, false, false, false, false, false, false] rfl rfl (any_of HT_.out (by kernel_rfl)) (fun _ _ _ h => h) (Or.inl ⟨by rfl, ?_⟩) ?_ ?_
                        rotate_left
                        · intro w'
                          go_simp
                          with_reducible rfl
                        rotate_left
                        · simp only [Act.put, List.setIfInBounds_toArray, List.set_cons_zero, List.set_cons_succ, i64_w, i32_w]
                          rfl
                        refine pure_ (i := 9) (N := some 82) (v := ?_) (a' := ?_) #[true, true, true, true, false, false, false, true, false, true, false, false, false, false, false, false, false] rfl rfl (any_of HT_.out (by kernel_rfl)) (fun _ _ _ h => h) (Or.inl ⟨by rfl, ?_⟩) ?_ ?_
                        rotate_left
                        · intro w'
                          go_simp
                          with_reducible rfl
                        rotate_left
                        · simp only [Act.put, List.setIfInBounds_toArray, List.set_cons_zero, List.set_cons_succ, i64_w, i32_w]
                          rfl
                        refine pure_ (i := 10) (N := some 83) (v := ?_) (a' := ?_) #[true, true, true, true, false, false, false, true, false, true, true, false, false, false, false, false, false] rfl rfl (any_of HT_.out (by kernel_rfl)) (fun _ _ _ h => h) (Or.inl ⟨by rfl, ?_⟩) ?_ ?_
                        rotate_left
                        · intro w'
                          go_simp
                          with_reducible rfl
                        rotate_left
                        · simp only [Act.put, List.setIfInBounds_toArray, List.set_cons_zero, List.set_cons_succ, i64_w, i32_w]
                          rfl
                        refine pure_ (i := 11) (N := some 84) (v := ?_) (a' := ?_) #[true, true, true, true, false, false, false, true, false, true, true, true, false, false, false, false, false] rfl rfl (any_of HT_.out (by kernel_rfl)) (fun _ _ _ h => h) (Or.inl ⟨by rfl, ?_⟩) ?_ ?_
                        rotate_left
                        · intro w'
                          go_simp
                          with_reducible rfl
                        rotate_left
                        · simp only [Act.put, List.setIfInBounds_toArray, List.set_cons_zero, List.set_cons_succ, i64_w, i32_w]
                          rfl
                        refine one_ (i := 4) (N := some 77) #[true, true, true, true, true, false, false, true, false, true, true, true, false, false, false, false, false] rfl rfl (one_of HT_.out (by kernel_rfl)) (by decide) (fun K hK => ?_)
                        refine goes_ Tryd.func32 (by kernel_rfl) rfl #[.int .i64 1] (by rfl) rfl rfl (by (try simp only [List.map_toArray, List.map_cons, List.map_nil]); first | done | rfl | (simp only [List.length_drop, List.length_take]; rfl) | (go_simp; done) | (go_simp; rw [Int.tmod_eq_emod_of_nonneg (by omega)]; omega)) ?_
                        with_reducible refine (field_Exponent.calls 1 t358 _ ?side1 A76.out).mono ?_
                        (case side1 => repeat (first | exact (GL.below HRG.out HB.out) | (with_reducible refine GL.alloc ?_ _) | (with_reducible refine GL.drewN ?_ _) | (with_reducible refine GL.drew ?_)))
                        rintro e w83 ⟨rfl, hb⟩
                        refine ⟨_, rfl, ?_⟩
                        have n0_ := Aside0.mk (below_step (by repeat (first | (with_reducible first | exact HB.out | apply below_alloc | apply pw_below_drewN | apply below_drew1) | exact HB.out)) hb)
                        clear HB
                        have HB := n0_
                        clear n0_
                        (try clear hb)
                        (try clear hb2)
                        (try clear hk)
                        (try clear hi)
                        refine hK.out _ _ trivial (fun hHeld => ?_)
                        clear hK K
                        refine norm_ (a' := ?_) ?_ ?_
                        rotate_left
                        · show Act.put _ (some 77) _ = _
                          simp only [Act.put, List.setIfInBounds_toArray, List.set_cons_zero, List.set_cons_succ, i64_w, i32_w]
                          rfl
                        refine pure_ (i := 5) (N := some 78) (v := ?_) (a' := ?_) #[true, true, true, true, true, true, false, true, false, true, true, true, false, false, false, false, false] rfl rfl (any_of HT_.out (by kernel_rfl)) (fun _ _ _ h => h) (Or.inl ⟨by rfl, ?_⟩) ?_ ?_
                        rotate_left
                        · intro w'
                          go_simp
                          with_reducible rfl
                        rotate_left
                        · simp only [Act.put, List.setIfInBounds_toArray, List.set_cons_zero, List.set_cons_succ, i64_w, i32_w]
                          rfl
                        refine one_ (i := 6) (N := some 79) #[true, true, true, true, true, true, true, true, false, true, true, true, false, false, false, false, false] rfl rfl (one_of HT_.out (by kernel_rfl)) (by decide) (fun K hK => ?_)
                        refine goes_ Tryd.func31 (by kernel_rfl) rfl #[.int .i64 1, .int .u64 a1, .int .u64 (IntKind.u64.wrap (t358))] (by rfl) rfl rfl (by (try simp only [List.map_toArray, List.map_cons, List.map_nil]); first | done | rfl | (simp only [List.length_drop, List.length_take]; rfl) | (go_simp; done) | (go_simp; rw [Int.tmod_eq_emod_of_nonneg (by omega)]; omega)) ?_
                        with_reducible refine (field_Pow.calls kj69 1 a1 (IntKind.u64.wrap (t358)) t359 _ ?side1 A77.out).mono ?_
                        (case side1 => repeat (first | exact (GL.below HRG.out HB.out) | (with_reducible refine GL.alloc ?_ _) | (with_reducible refine GL.drewN ?_ _) | (with_reducible refine GL.drew ?_)))
                        rintro e w84 ⟨rfl, hb⟩
                        refine ⟨_, rfl, ?_⟩
                        have n0_ := Aside0.mk (below_step (by repeat (first | (with_reducible first | exact HB.out | apply below_alloc | apply pw_below_drewN | apply below_drew1) | exact HB.out)) hb)
                        clear HB
                        have HB := n0_
                        clear n0_
                        (try clear hb)
                        (try clear hb2)
                        (try clear hk)
                        (try clear hi)
                        refine hK.out _ _ trivial (fun hHeld => ?_)
                        clear hK K
                        refine norm_ (a' := ?_) ?_ ?_
                        rotate_left
                        · show Act.put _ (some 79) _ = _
                          simp only [Act.put, List.setIfInBounds_toArray, List.set_cons_zero, List.set_cons_succ, i64_w, i32_w]
                          rfl
                        refine one_ (i := 8) (N := some 81) #[true, true, true, true, true, true, true, true, true, true, true, true, false, false, false, false, false] rfl rfl (one_of HT_.out (by kernel_rfl)) (by decide) (fun K hK => ?_)
                        refine goes_ Tryd.func31 (by kernel_rfl) rfl #[.int .i64 1, .int .u64 t359, .int .u64 171] (by rfl) rfl rfl (by (try simp only [List.map_toArray, List.map_cons, List.map_nil]); first | done | rfl | (simp only [List.length_drop, List.length_take]; rfl) | (go_simp; done) | (go_simp; rw [Int.tmod_eq_emod_of_nonneg (by omega)]; omega)) ?_
                        with_reducible refine (field_Pow.calls kj69 1 t359 171 t360 _ ?side1 A78.out).mono ?_
                        (case side1 => repeat (first | exact (GL.below HRG.out HB.out) | (with_reducible refine GL.alloc ?_ _) | (with_reducible refine GL.drewN ?_ _) | (with_reducible refine GL.drew ?_)))
                        rintro e w85 ⟨rfl, hb⟩
                        refine ⟨_, rfl, ?_⟩
                        have n0_ := Aside0.mk (below_step (by repeat (first | (with_reducible first | exact HB.out | apply below_alloc | apply pw_below_drewN | apply below_drew1) | exact HB.out)) hb)
                        clear HB
                        have HB := n0_
                        clear n0_
                        (try clear hb)
                        (try clear hb2)
                        (try clear hk)
                        (try clear hi)
                        refine hK.out _ _ trivial (fun hHeld => ?_)
                        clear hK K
                        refine norm_ (a' := ?_) ?_ ?_
                        rotate_left
                        · show Act.put _ (some 81) _ = _
                          simp only [Act.put, List.setIfInBounds_toArray, List.set_cons_zero, List.set_cons_succ, i64_w, i32_w]
                          rfl
                        refine pure_ (i := 12) (N := some 85) (v := ?_) (a' := ?_) #[true, true, true, true, true, true, true, true, true, true, true, true, true, false, false, false, false] rfl rfl (any_of HT_.out (by kernel_rfl)) (fun _ _ _ h => h) (Or.inl ⟨by rfl, ?_⟩) ?_ ?_
                        rotate_left
                        · intro w'
                          go_simp
                          with_reducible rfl
                        rotate_left
                        · simp only [Act.put, List.setIfInBounds_toArray, List.set_cons_zero, List.set_cons_succ, i64_w, i32_w]
                          rfl
                        refine pure_ (i := 13) (N := some 86) (v := ?_) (a' := ?_) #[true, true, true, true, true, true, true, true, true, true, true, true, true, true, false, false, false] rfl rfl (any_of HT_.out (by kernel_rfl)) (fun _ _ _ h => h) (Or.inl ⟨by rfl, ?_⟩) ?_ ?_
                        rotate_left
                        · intro w'
                          go_simp
                          with_reducible rfl
                        rotate_left
                        · simp only [Act.put, List.setIfInBounds_toArray, List.set_cons_zero, List.set_cons_succ, i64_w, i32_w]
                          rfl
                        refine one_ (i := 14) (N := some 87) #[true, true, true, true, true, true, true, true, true, true, true, true, true, true, true, false, false] rfl rfl (one_of HT_.out (by kernel_rfl)) (by decide) (fun K hK => ?_)
                        refine goes_ Tryd.func16 (by kernel_rfl) rfl #[] (by rfl) rfl rfl (by (try simp only [List.map_toArray, List.map_cons, List.map_nil]); first | done | rfl | (simp only [List.length_drop, List.length_take]; rfl) | (go_simp; done) | (go_simp; rw [Int.tmod_eq_emod_of_nonneg (by omega)]; omega)) ?_
                        with_reducible refine (attestorlaw01_works.calls kj69  t361 _ ?side1 A81.out).mono ?_
                        (case side1 => repeat (first | exact (GL.below HRG.out HB.out) | (with_reducible refine GL.alloc ?_ _) | (with_reducible refine GL.drewN ?_ _) | (with_reducible refine GL.drew ?_)))
                        rintro e w86 ⟨rfl, hb⟩
                        refine ⟨_, rfl, ?_⟩
                        have n0_ := Aside0.mk (below_step (by repeat (first | (with_reducible first | exact HB.out | apply below_alloc | apply pw_below_drewN | apply below_drew1) | exact HB.out)) hb)
                        clear HB
                        have HB := n0_
                        clear n0_
                        (try clear hb)
                        (try clear hb2)
                        (try clear hk)
                        (try clear hi)
                        refine hK.out _ _ trivial (fun hHeld => ?_)
                        clear hK K
                        refine norm_ (a' := ?_) ?_ ?_
                        rotate_left
                        · show Act.put _ (some 87) _ = _
                          simp only [Act.put, List.setIfInBounds_toArray, List.set_cons_zero, List.set_cons_succ, i64_w, i32_w]
                          rfl
                        refine pure_ (i := 15) (N := some 88) (v := ?_) (a' := ?_) #[true, true, true, true, true, true, true, true, true, true, true, true, true, true, true, true, false] rfl rfl (any_of HT_.out (by kernel_rfl)) (fun _ _ _ h => h) (Or.inl ⟨by rfl, ?_⟩) ?_ ?_
                        rotate_left
                        · intro w'
                          go_simp
                          with_reducible rfl
                        rotate_left
                        · simp only [Act.put, List.setIfInBounds_toArray, List.set_cons_zero, List.set_cons_succ, i64_w, i32_w]
                          rfl
                        refine pure_ (i := 16) (N := some 8) (v := ?_) (a' := ?_) #[true, true, true, true, true, true, true, true, true, true, true, true, true, true, true, true, true] rfl rfl (any_of HT_.out (by kernel_rfl)) (fun _ _ _ h => h) (Or.inl ⟨by rfl, ?_⟩) ?_ ?_
                        rotate_left
                        · intro w'
                          go_simp
                          with_reducible rfl
                        rotate_left
                        · simp only [Act.put, List.setIfInBounds_toArray, List.set_cons_zero, List.set_cons_succ, i64_w, i32_w]
                          rfl
                        refine done_ (done_of HT_.out (by kernel_rfl)) ?_
                        try go_wp2
                        go_ret
                        exact ⟨by first | rfl | (simp [errW_none, errW_some] <;> rfl) | (simp only [← hji5]; first | rfl | (simp [errW_none, errW_some] <;> rfl)) | (simp [*, errW_none, errW_some] <;> rfl), by repeat (first | (with_reducible first | exact HB.out | apply below_alloc | apply pw_below_drewN | apply below_drew1) | exact HB.out)⟩
                      · rw [if_neg c80] at H
                        exact absurd H (by simp)
      · rw [if_neg c47] at H
        by_cases c87 : (ji5) = 2
        · rw [if_pos c87] at H
          subst c87
          replace H := Option.bind_eq_some_iff.mp H
          obtain ⟨t362, A880, H⟩ := H
          (try dsimp only at H)
          have A88 := Aside0.mk A880
          clear A880
          have HC89 := Aside0.mk H
          clear H
          go_enter Tryd.func7, Tryd.ntmps7
          go_upto_region 5 with (first | ((with_reducible refine gate_callee (f := 24) rfl ?_); refine goesL_ (some 23) rfl rfl Tryd.func24 (by kernel_rfl) rfl #[.int .i64 2] rfl (by (try simp only [List.map_toArray, List.map_cons, List.map_nil]); first | done | rfl | (simp only [List.length_drop, List.length_take]; rfl) | (go_simp; done) | (go_simp; rw [Int.tmod_eq_emod_of_nonneg (by omega)]; omega)) ?_; (with_reducible refine (field_P.calls 2 t362 _ ?side1 A88.out).mono ?_); (case side1 => repeat (first | exact HRG.out | (with_reducible refine GL.alloc ?_ _) | (with_reducible refine GL.drewN ?_ _) | (with_reducible refine GL.drew ?_))); rintro e w90 ⟨rfl, hb⟩; refine ⟨_, rfl, ?_⟩; have n0_ := Aside0.mk (below_step (by repeat (first | (with_reducible first | exact HB.out | apply below_alloc | apply pw_below_drewN | apply below_drew1) | exact HB.out)) hb); clear HB; have HB := n0_; clear n0_; (try clear hb); (try clear hb2); (try clear hk); (try clear hi)))
          (try simp only [Act.put, List.setIfInBounds_toArray, List.set_cons_zero, List.set_cons_succ])
          go_cut [60] (fun v60 wc => ∃ (kq : Nat) (x60_88 : Bool), v60 = .bool x60_88 ∧ Aside0 (attestorlaw01_FieldPowers.j4 kq a1 2 7373 t362 x60_88 = some r) ∧ Aside0 (kq ≤ k) ∧ Aside0 (Below w.heap.size w wc))
          case first =>
            have H := HC89.out
            clear HC89
            by_cases c91 : t362 = 0
            · rw [if_pos c91] at H
              have c91b0 : (t362 == 0) = true := beq_iff_eq.mpr c91
              have c91b1 : (t362 != 0) = false := bne_eq_false_iff_eq.mpr c91
              clear c91
              (first | rw [c91b0] | (simp only [i64_w, i32_w]; rw [c91b0]) | skip)
              have H' := Aside0.mk H
              clear H
              go_wp2
              go_meet
              case rel => exact ⟨_, (true), (by first | rfl | (simp; done) | (simp [*]; done)), H', ⟨by first | omega | exact Nat.le_refl _⟩, ⟨by repeat (first | (with_reducible first | exact HB.out | apply below_alloc | apply pw_below_drewN | apply below_drew1) | exact HB.out)⟩⟩
            · rw [if_neg c91] at H
              have c91b0 : (t362 == 0) = false := beq_eq_false_iff_ne.mpr c91
              have c91b1 : (t362 != 0) = true := bne_iff_ne.mpr c91
              (first | rw [c91b0] | (simp only [i64_w, i32_w]; rw [c91b0]) | skip)
              replace H := Option.bind_eq_some_iff.mp H
              obtain ⟨t363, A920, H⟩ := H
              (try dsimp only at H)
              have A92 := Aside0.mk A920
              clear A920
              replace H := Option.bind_eq_some_iff.mp H
              obtain ⟨t364, A930, H⟩ := H
              (try dsimp only at H)
              have A93 := Aside0.mk A930
              clear A930
              replace H := Option.bind_eq_some_iff.mp H
              obtain ⟨t365, A940, H⟩ := H
              (try dsimp only at H)
              have A94 := Aside0.mk A940
              clear A940
              replace H := Option.bind_eq_some_iff.mp H
              obtain ⟨t366, A950, H⟩ := H
              (try dsimp only at H)
              have A95 := Aside0.mk A950
              clear A950
              by_cases c96 : t363 = t366
              · rw [if_pos c96] at H
                have c96b0 : (t363 == t366) = true := beq_iff_eq.mpr c96
                have c96b1 : (t363 != t366) = false := bne_eq_false_iff_eq.mpr c96
                clear c96
                replace H := Option.bind_eq_some_iff.mp H
                obtain ⟨t367, A970, H⟩ := H
                replace H : ((field_Pow.f k (2) a1 (IntKind.u64.wrap ((Int.tmod a2 2147483648) * (Int.tmod a3 2147483648)))).bind fun t368 => (attestorlaw01_FieldPowers.j4 k a1 2 7373 t362 (t367 != t368))) = some r := H
                have A97 := Aside0.mk A970
                clear A970
                replace H := Option.bind_eq_some_iff.mp H
                obtain ⟨t368, A980, H⟩ := H
                replace H : (attestorlaw01_FieldPowers.j4 k a1 2 7373 t362 (t367 != t368)) = some r := H
                have A98 := Aside0.mk A980
                clear A980
                have H' := Aside0.mk H
                clear H
                go_wp2_with (first | (go_at_call 31; (with_reducible refine (field_Pow.calls k 2 a1 (IntKind.u64.wrap ((Int.tmod a2 2147483648) + (Int.tmod a3 2147483648))) t363 _ ?side1 A92.out).mono ?_); (case side1 => repeat (first | exact (GL.below HRG.out HB.out) | (with_reducible refine GL.alloc ?_ _) | (with_reducible refine GL.drewN ?_ _) | (with_reducible refine GL.drew ?_))); rintro e w99 ⟨rfl, hb⟩; have n0_ := Aside0.mk (below_step (by repeat (first | (with_reducible first | exact HB.out | apply below_alloc | apply pw_below_drewN | apply below_drew1) | exact HB.out)) hb); clear HB; have HB := n0_; clear n0_; (try clear hb); (try clear hb2); (try clear hk); (try clear hi)) | (go_at_call 31; (with_reducible refine (field_Pow.calls k 2 a1 (Int.tmod a2 2147483648) t364 _ ?side1 A93.out).mono ?_); (case side1 => repeat (first | exact (GL.below HRG.out HB.out) | (with_reducible refine GL.alloc ?_ _) | (with_reducible refine GL.drewN ?_ _) | (with_reducible refine GL.drew ?_))); rintro e w100 ⟨rfl, hb⟩; have n0_ := Aside0.mk (below_step (by repeat (first | (with_reducible first | exact HB.out | apply below_alloc | apply pw_below_drewN | apply below_drew1) | exact HB.out)) hb); clear HB; have HB := n0_; clear n0_; (try clear hb); (try clear hb2); (try clear hk); (try clear hi)) | (go_at_call 31; (with_reducible refine (field_Pow.calls k 2 a1 (Int.tmod a3 2147483648) t365 _ ?side1 A94.out).mono ?_); (case side1 => repeat (first | exact (GL.below HRG.out HB.out) | (with_reducible refine GL.alloc ?_ _) | (with_reducible refine GL.drewN ?_ _) | (with_reducible refine GL.drew ?_))); rintro e w101 ⟨rfl, hb⟩; have n0_ := Aside0.mk (below_step (by repeat (first | (with_reducible first | exact HB.out | apply below_alloc | apply pw_below_drewN | apply below_drew1) | exact HB.out)) hb); clear HB; have HB := n0_; clear n0_; (try clear hb); (try clear hb2); (try clear hk); (try clear hi)) | (go_at_call 26; (with_reducible refine (field_Mul.calls 2 t364 t365 t366 _ ?side1 A95.out).mono ?_); (case side1 => repeat (first | exact (GL.below HRG.out HB.out) | (with_reducible refine GL.alloc ?_ _) | (with_reducible refine GL.drewN ?_ _) | (with_reducible refine GL.drew ?_))); rintro e w102 ⟨rfl, hb⟩; have n0_ := Aside0.mk (below_step (by repeat (first | (with_reducible first | exact HB.out | apply below_alloc | apply pw_below_drewN | apply below_drew1) | exact HB.out)) hb); clear HB; have HB := n0_; clear n0_; (try clear hb); (try clear hb2); (try clear hk); (try clear hi)) | (go_at_call 31; (with_reducible refine (field_Pow.calls k 2 t364 (Int.tmod a3 2147483648) t367 _ ?side1 A97.out).mono ?_); (case side1 => repeat (first | exact (GL.below HRG.out HB.out) | (with_reducible refine GL.alloc ?_ _) | (with_reducible refine GL.drewN ?_ _) | (with_reducible refine GL.drew ?_))); rintro e w103 ⟨rfl, hb⟩; have n0_ := Aside0.mk (below_step (by repeat (first | (with_reducible first | exact HB.out | apply below_alloc | apply pw_below_drewN | apply below_drew1) | exact HB.out)) hb); clear HB; have HB := n0_; clear n0_; (try clear hb); (try clear hb2); (try clear hk); (try clear hi)) | (go_at_call 31; (with_reducible refine (field_Pow.calls k 2 a1 (IntKind.u64.wrap ((Int.tmod a2 2147483648) * (Int.tmod a3 2147483648))) t368 _ ?side1 A98.out).mono ?_); (case side1 => repeat (first | exact (GL.below HRG.out HB.out) | (with_reducible refine GL.alloc ?_ _) | (with_reducible refine GL.drewN ?_ _) | (with_reducible refine GL.drew ?_))); rintro e w104 ⟨rfl, hb⟩; have n0_ := Aside0.mk (below_step (by repeat (first | (with_reducible first | exact HB.out | apply below_alloc | apply pw_below_drewN | apply below_drew1) | exact HB.out)) hb); clear HB; have HB := n0_; clear n0_; (try clear hb); (try clear hb2); (try clear hk); (try clear hi)))
                go_meet
                case rel => exact ⟨_, ((t367 != t368)), (by first | rfl | (simp; done) | (simp [*]; done)), H', ⟨by first | omega | exact Nat.le_refl _⟩, ⟨by repeat (first | (with_reducible first | exact HB.out | apply below_alloc | apply pw_below_drewN | apply below_drew1) | exact HB.out)⟩⟩
              · rw [if_neg c96] at H
                have c96b0 : (t363 == t366) = false := beq_eq_false_iff_ne.mpr c96
                have c96b1 : (t363 != t366) = true := bne_iff_ne.mpr c96
                have H' := Aside0.mk H
                clear H
                go_wp2_with (first | (go_at_call 31; (with_reducible refine (field_Pow.calls k 2 a1 (IntKind.u64.wrap ((Int.tmod a2 2147483648) + (Int.tmod a3 2147483648))) t363 _ ?side1 A92.out).mono ?_); (case side1 => repeat (first | exact (GL.below HRG.out HB.out) | (with_reducible refine GL.alloc ?_ _) | (with_reducible refine GL.drewN ?_ _) | (with_reducible refine GL.drew ?_))); rintro e w105 ⟨rfl, hb⟩; have n0_ := Aside0.mk (below_step (by repeat (first | (with_reducible first | exact HB.out | apply below_alloc | apply pw_below_drewN | apply below_drew1) | exact HB.out)) hb); clear HB; have HB := n0_; clear n0_; (try clear hb); (try clear hb2); (try clear hk); (try clear hi)) | (go_at_call 31; (with_reducible refine (field_Pow.calls k 2 a1 (Int.tmod a2 2147483648) t364 _ ?side1 A93.out).mono ?_); (case side1 => repeat (first | exact (GL.below HRG.out HB.out) | (with_reducible refine GL.alloc ?_ _) | (with_reducible refine GL.drewN ?_ _) | (with_reducible refine GL.drew ?_))); rintro e w106 ⟨rfl, hb⟩; have n0_ := Aside0.mk (below_step (by repeat (first | (with_reducible first | exact HB.out | apply below_alloc | apply pw_below_drewN | apply below_drew1) | exact HB.out)) hb); clear HB; have HB := n0_; clear n0_; (try clear hb); (try clear hb2); (try clear hk); (try clear hi)) | (go_at_call 31; (with_reducible refine (field_Pow.calls k 2 a1 (Int.tmod a3 2147483648) t365 _ ?side1 A94.out).mono ?_); (case side1 => repeat (first | exact (GL.below HRG.out HB.out) | (with_reducible refine GL.alloc ?_ _) | (with_reducible refine GL.drewN ?_ _) | (with_reducible refine GL.drew ?_))); rintro e w107 ⟨rfl, hb⟩; have n0_ := Aside0.mk (below_step (by repeat (first | (with_reducible first | exact HB.out | apply below_alloc | apply pw_below_drewN | apply below_drew1) | exact HB.out)) hb); clear HB; have HB := n0_; clear n0_; (try clear hb); (try clear hb2); (try clear hk); (try clear hi)) | (go_at_call 26; (with_reducible refine (field_Mul.calls 2 t364 t365 t366 _ ?side1 A95.out).mono ?_); (case side1 => repeat (first | exact (GL.below HRG.out HB.out) | (with_reducible refine GL.alloc ?_ _) | (with_reducible refine GL.drewN ?_ _) | (with_reducible refine GL.drew ?_))); rintro e w108 ⟨rfl, hb⟩; have n0_ := Aside0.mk (below_step (by repeat (first | (with_reducible first | exact HB.out | apply below_alloc | apply pw_below_drewN | apply below_drew1) | exact HB.out)) hb); clear HB; have HB := n0_; clear n0_; (try clear hb); (try clear hb2); (try clear hk); (try clear hi)))
                go_meet
                case rel => exact ⟨_, (true), (by first | rfl | (simp; done) | (simp [*]; done)), H', ⟨by first | omega | exact Nat.le_refl _⟩, ⟨by repeat (first | (with_reducible first | exact HB.out | apply below_alloc | apply pw_below_drewN | apply below_drew1) | exact HB.out)⟩⟩
          case rest =>
            clear HC89
            try clear c1
            try clear c2
            try clear p2
            try clear c3
            try clear c4
            try clear c5
            try clear c6
            try clear c6b0
            try clear p6
            try clear c7
            try clear c8
            try clear c9
            try clear c11
            try clear c11b0
            try clear c11b1
            try clear c16
            try clear c16b0
            try clear c16b1
            try clear c24
            try clear c29
            try clear c31
            try clear c31b0
            try clear c31b1
            try clear c32
            try clear c32b0
            try clear c32b1
            try clear c35
            try clear c39
            try clear c39b0
            try clear c39b1
            try clear c40
            try clear c40b0
            try clear c40b1
            try clear c47
            try clear c51
            try clear c51b0
            try clear c51b1
            try clear c56
            try clear c56b0
            try clear c56b1
            try clear p64
            try clear c69
            try clear c71
            try clear c71b0
            try clear c71b1
            try clear c72
            try clear c72b0
            try clear c72b1
            try clear c75
            try clear c79
            try clear c79b0
            try clear c79b1
            try clear c80
            try clear c80b0
            try clear c80b1
            try clear c87
            try clear c91
            try clear c91b0
            try clear c91b1
            try clear c96
            try clear c96b0
            try clear c96b1
            try clear p2
            try clear p6
            try clear p64
            obtain ⟨kq, x60_88, rfl, HA, HJ88, HB⟩ := hcut
            cases kq with
            | zero => exact absurd HA.out (by simp [attestorlaw01_FieldPowers.j4])
            | succ kj88 =>
              have H := HA.out
              clear HA
              simp only [attestorlaw01_FieldPowers.j4] at H
              by_cases c109 : x60_88 = true
              · subst c109
                have H1 : (none) = some r := by rw [if_pos rfl] at H; exact H
                clear H
                have H := H1
                clear H1
                exact absurd H (by simp)
              · replace c109 := Bool.eq_false_iff.mpr c109
                subst c109
                have H1 : (if t362 = 0 then (none) else (if (Int.tmod a1 t362) = 0 then (attestorlaw01_FieldPowers.j5 kj88 a1 2 7373 t362 false) else ((field_Pow.f kj88 2 a1 (IntKind.u64.wrap (t362 - 1))).bind fun t369 => (attestorlaw01_FieldPowers.j5 kj88 a1 2 7373 t362 (t369 != 1))))) = some r := by rw [if_neg (show ¬ (false = true) by decide)] at H; exact H
                clear H
                have H := H1
                clear H1
                have HC110 := Aside0.mk H
                clear H
                go_upto_region 7 with (fail)
                go_cut [72] (fun v72 wc => ∃ (kq : Nat) (x72_109 : Bool), v72 = .bool x72_109 ∧ Aside0 (attestorlaw01_FieldPowers.j5 kq a1 2 7373 t362 x72_109 = some r) ∧ Aside0 (kq ≤ kj88) ∧ Aside0 (Below w.heap.size w wc))
                case first =>
                  have H := HC110.out
                  clear HC110
                  by_cases c111 : t362 = 0
                  · rw [if_pos c111] at H
                    exact absurd H (by simp)
                  · rw [if_neg c111] at H
                    have c111b0 : (t362 == 0) = false := beq_eq_false_iff_ne.mpr c111
                    have c111b1 : (t362 != 0) = true := bne_iff_ne.mpr c111
                    (first | rw [c111b0] | (simp only [i64_w, i32_w]; rw [c111b0]) | skip)
                    by_cases c112 : (Int.tmod a1 t362) = 0
                    · rw [if_pos c112] at H
                      have c112b0 : ((Int.tmod a1 t362) == 0) = true := beq_iff_eq.mpr c112
                      have c112b1 : ((Int.tmod a1 t362) != 0) = false := bne_eq_false_iff_eq.mpr c112
                      clear c112
                      have H' := Aside0.mk H
                      clear H
                      go_wp2
                      go_meet
                      case rel => exact ⟨_, (false), (by first | rfl | (simp; done) | (simp [*]; done)), H', ⟨by have := HJ88.out; first | omega | exact Nat.le_refl _⟩, ⟨by repeat (first | (with_reducible first | exact HB.out | apply below_alloc | apply pw_below_drewN | apply below_drew1) | exact HB.out)⟩⟩
                    · rw [if_neg c112] at H
                      have c112b0 : ((Int.tmod a1 t362) == 0) = false := beq_eq_false_iff_ne.mpr c112
                      have c112b1 : ((Int.tmod a1 t362) != 0) = true := bne_iff_ne.mpr c112
                      replace H := Option.bind_eq_some_iff.mp H
                      obtain ⟨t369, A1130, H⟩ := H
                      replace H : (attestorlaw01_FieldPowers.j5 kj88 a1 2 7373 t362 (t369 != 1)) = some r := H
                      have A113 := Aside0.mk A1130
                      clear A1130
                      have H' := Aside0.mk H
                      clear H
                      go_wp2_with (first | (go_at_call 31; (with_reducible refine (field_Pow.calls kj88 2 a1 (IntKind.u64.wrap (t362 - 1)) t369 _ ?side1 A113.out).mono ?_); (case side1 => repeat (first | exact (GL.below HRG.out HB.out) | (with_reducible refine GL.alloc ?_ _) | (with_reducible refine GL.drewN ?_ _) | (with_reducible refine GL.drew ?_))); rintro e w114 ⟨rfl, hb⟩; have n0_ := Aside0.mk (below_step (by repeat (first | (with_reducible first | exact HB.out | apply below_alloc | apply pw_below_drewN | apply below_drew1) | exact HB.out)) hb); clear HB; have HB := n0_; clear n0_; (try clear hb); (try clear hb2); (try clear hk); (try clear hi)))
                      go_meet
                      case rel => exact ⟨_, ((t369 != 1)), (by first | rfl | (simp; done) | (simp [*]; done)), H', ⟨by have := HJ88.out; first | omega | exact Nat.le_refl _⟩, ⟨by repeat (first | (with_reducible first | exact HB.out | apply below_alloc | apply pw_below_drewN | apply below_drew1) | exact HB.out)⟩⟩
                case rest =>
                  clear HC110
                  try clear c1
                  try clear c2
                  try clear p2
                  try clear c3
                  try clear c4
                  try clear c5
                  try clear c6
                  try clear c6b0
                  try clear p6
                  try clear c7
                  try clear c8
                  try clear c9
                  try clear c10
                  try clear c11
                  try clear c11b0
                  try clear c11b1
                  try clear c16
                  try clear c16b0
                  try clear c16b1
                  try clear c24
                  try clear c29
                  try clear c31
                  try clear c31b0
                  try clear c31b1
                  try clear c32
                  try clear c32b0
                  try clear c32b1
                  try clear c35
                  try clear c39
                  try clear c39b0
                  try clear c39b1
                  try clear c40
                  try clear c40b0
                  try clear c40b1
                  try clear c47
                  try clear c51
                  try clear c51b0
                  try clear c51b1
                  try clear c56
                  try clear c56b0
                  try clear c56b1
                  try clear p64
                  try clear c69
                  try clear c71
                  try clear c71b0
                  try clear c71b1
                  try clear c72
                  try clear c72b0
                  try clear c72b1
                  try clear c75
                  try clear c79
                  try clear c79b0
                  try clear c79b1
                  try clear c80
                  try clear c80b0
                  try clear c80b1
                  try clear c87
                  try clear c91
                  try clear c91b0
                  try clear c91b1
                  try clear c96
                  try clear c96b0
                  try clear c96b1
                  try clear c109
                  try clear c111
                  try clear c111b0
                  try clear c111b1
                  try clear c112
                  try clear c112b0
                  try clear c112b1
                  try clear p2
                  try clear p6
                  try clear p64
                  obtain ⟨kq, x72_109, rfl, HA, HJ109, HB⟩ := hcut
                  cases kq with
                  | zero => exact absurd HA.out (by simp [attestorlaw01_FieldPowers.j5])
                  | succ kj109 =>
                    have H := HA.out
                    clear HA
                    simp only [attestorlaw01_FieldPowers.j5] at H
                    by_cases c115 : x72_109 = true
                    · subst c115
                      have H1 : (none) = some r := by rw [if_pos rfl] at H; exact H
                      clear H
                      have H := H1
                      clear H1
                      exact absurd H (by simp)
                    · replace c115 := Bool.eq_false_iff.mpr c115
                      subst c115
                      have H1 : ((field_Exponent.f 2).bind fun t370 => ((field_Pow.f kj109 2 a1 (IntKind.u64.wrap (t370))).bind fun t371 => ((field_Pow.f kj109 2 t371 7373).bind fun t372 => (if t362 = 0 then (none) else (if t372 = (Int.tmod a1 t362) then ((attestorlaw01_works.f kj109).bind fun t373 => (some t373)) else (none)))))) = some r := by rw [if_neg (show ¬ (false = true) by decide)] at H; exact H
                      clear H
                      have H := H1
                      clear H1
                      replace H := Option.bind_eq_some_iff.mp H
                      obtain ⟨t370, A1160, H⟩ := H
                      replace H : ((field_Pow.f kj109 2 a1 (IntKind.u64.wrap (t370))).bind fun t371 => ((field_Pow.f kj109 2 t371 7373).bind fun t372 => (if t362 = 0 then (none) else (if t372 = (Int.tmod a1 t362) then ((attestorlaw01_works.f kj109).bind fun t373 => (some t373)) else (none))))) = some r := H
                      have A116 := Aside0.mk A1160
                      clear A1160
                      replace H := Option.bind_eq_some_iff.mp H
                      obtain ⟨t371, A1170, H⟩ := H
                      replace H : ((field_Pow.f kj109 2 t371 7373).bind fun t372 => (if t362 = 0 then (none) else (if t372 = (Int.tmod a1 t362) then ((attestorlaw01_works.f kj109).bind fun t373 => (some t373)) else (none)))) = some r := H
                      have A117 := Aside0.mk A1170
                      clear A1170
                      replace H := Option.bind_eq_some_iff.mp H
                      obtain ⟨t372, A1180, H⟩ := H
                      replace H : (if t362 = 0 then (none) else (if t372 = (Int.tmod a1 t362) then ((attestorlaw01_works.f kj109).bind fun t373 => (some t373)) else (none))) = some r := H
                      have A118 := Aside0.mk A1180
                      clear A1180
                      by_cases c119 : t362 = 0
                      · rw [if_pos c119] at H
                        exact absurd H (by simp)
                      · rw [if_neg c119] at H
                        have c119b0 : (t362 == 0) = false := beq_eq_false_iff_ne.mpr c119
                        have c119b1 : (t362 != 0) = true := bne_iff_ne.mpr c119
                        by_cases c120 : t372 = (Int.tmod a1 t362)
                        · rw [if_pos c120] at H
                          have c120b0 : (t372 == (Int.tmod a1 t362)) = true := beq_iff_eq.mpr c120
                          have c120b1 : (t372 != (Int.tmod a1 t362)) = false := bne_eq_false_iff_eq.mpr c120
                          clear c120
                          replace H := Option.bind_eq_some_iff.mp H
                          obtain ⟨t373, A1210, H⟩ := H
                          replace H : (some t373) = some r := H
                          have A121 := Aside0.mk A1210
                          clear A1210
                          obtain rfl := Option.some.inj H
                          try go_wp2
                          have n0_ := Aside0.mk (below_drew1 HB.out)
                          clear HB
                          have HB := n0_
                          clear n0_
                          refine start_ (n := 17) (S := fun w' => True) (ds := []) #[false, false, false, false, false, false, false, false, false, false, false, false, false, false, false, false, false] (by kernel_rfl) rfl rfl trivial (fun hHeld => ?_); refine with_tabW attestorlaw01_FieldPowers.tab9 attestorlaw01_FieldPowers.bits9 (fun HT_ HW_ => ?_)
                          generalize wc.drew = w122 at HB hHeld ⊢
                          refine pure_ (i := 0) (N := some 73) (v := ?_) (a' := ?_) #[true, false, false, false, false, false, false, false, false, false, false, false, false, false, false, false, false] rfl rfl (any_of HT_.out (by kernel_rfl)) (fun _ _ _ h => h) (Or.inl ⟨by rfl, ?_⟩) ?_ ?_
                          rotate_left
                          · intro w'
                            go_simp
                            with_reducible rfl
                          rotate_left
                          · simp only [Act.put, List.setIfInBounds_toArray, List.set_cons_zero, List.set_cons_succ, i64_w, i32_w]
                            rfl
                          refine pure_ (i := 1) (N := some 74) (v := ?_) (a' := ?_) #[true, true, false, false, false, false, false, false, false, false, false, false, false, false, false, false, false] rfl rfl (any_of HT_.out (by kernel_rfl)) (fun _ _ _ h => h) (Or.inl ⟨by rfl, ?_⟩) ?_ ?_
                          rotate_left
                          · intro w'
                            go_simp
                            with_reducible rfl
                          rotate_left
                          · simp only [Act.put, List.setIfInBounds_toArray, List.set_cons_zero, List.set_cons_succ, i64_w, i32_w]
                            rfl
                          refine pure_ (i := 2) (N := some 75) (v := ?_) (a' := ?_) #[true, true, true, false, false, false, false, false, false, false, false, false, false, false, false, false, false] rfl rfl (any_of HT_.out (by kernel_rfl)) (fun _ _ _ h => h) (Or.inl ⟨by rfl, ?_⟩) ?_ ?_
                          rotate_left
                          · intro w'
                            go_simp
                            with_reducible rfl
                          rotate_left
                          · simp only [Act.put, List.setIfInBounds_toArray, List.set_cons_zero, List.set_cons_succ, i64_w, i32_w]
                            rfl
                          refine pure_ (i := 3) (N := some 76) (v := ?_) (a' := ?_) #[true, true, true, true, false, false, false, false, false, false, false, false, false, false, false, false, false] rfl rfl (any_of HT_.out (by kernel_rfl)) (fun _ _ _ h => h) (Or.inl ⟨by rfl, ?_⟩) ?_ ?_
                          rotate_left
                          · intro w'
                            go_simp
                            with_reducible rfl
                          rotate_left
                          · simp only [Act.put, List.setIfInBounds_toArray, List.set_cons_zero, List.set_cons_succ, i64_w, i32_w]
                            rfl
                          refine pure_ (i := 7) (N := some 80) (v := ?_) (a' := ?_) #[true, true, true, true, false, false, false, true, false, false, false, false, false, false, false, false, false] rfl rfl (any_of HT_.out (by kernel_rfl)) (fun _ _ _ h => h) (Or.inl ⟨by rfl, ?_⟩) ?_ ?_
                          rotate_left
                          · intro w'
                            go_simp
                            with_reducible rfl
                          rotate_left
                          · simp only [Act.put, List.setIfInBounds_toArray, List.set_cons_zero, List.set_cons_succ, i64_w, i32_w]
                            rfl
                          refine pure_ (i := 9) (N := some 82) (v := ?_) (a' := ?_) #[true, true, true, true, false, false, false, true, false, true, false, false, false, false, false, false, false] rfl rfl (any_of HT_.out (by kernel_rfl)) (fun _ _ _ h => h) (Or.inl ⟨by rfl, ?_⟩) ?_ ?_
                          rotate_left
                          · intro w'
                            go_simp
                            with_reducible rfl
                          rotate_left
                          · simp only [Act.put, List.setIfInBounds_toArray, List.set_cons_zero, List.set_cons_succ, i64_w, i32_w]
                            rfl
                          refine pure_ (i := 10) (N := some 83) (v := ?_) (a' := ?_) #[true, true, true, true, false, false, false, true, false, true, true, false, false, false, false, false, false] rfl rfl (any_of HT_.out (by kernel_rfl)) (fun _ _ _ h => h) (Or.inl ⟨by rfl, ?_⟩) ?_ ?_
                          rotate_left
                          · intro w'
                            go_simp
                            with_reducible rfl
                          rotate_left
                          · simp only [Act.put, List.setIfInBounds_toArray, List.set_cons_zero, List.set_cons_succ, i64_w, i32_w]
                            rfl
                          refine pure_ (i := 11) (N := some 84) (v := ?_) (a' := ?_) #[true, true, true, true, false, false, false, true, false, true, true, true, false, false, false, false, false] rfl rfl (any_of HT_.out (by kernel_rfl)) (fun _ _ _ h => h) (Or.inl ⟨by rfl, ?_⟩) ?_ ?_
                          rotate_left
                          · intro w'
                            go_simp
                            with_reducible rfl
                          rotate_left
                          · simp only [Act.put, List.setIfInBounds_toArray, List.set_cons_zero, List.set_cons_succ, i64_w, i32_w]
                            rfl
                          refine one_ (i := 4) (N := some 77) #[true, true, true, true, true, false, false, true, false, true, true, true, false, false, false, false, false] rfl rfl (one_of HT_.out (by kernel_rfl)) (by decide) (fun K hK => ?_)
                          refine goes_ Tryd.func32 (by kernel_rfl) rfl #[.int .i64 2] (by rfl) rfl rfl (by (try simp only [List.map_toArray, List.map_cons, List.map_nil]); first | done | rfl | (simp only [List.length_drop, List.length_take]; rfl) | (go_simp; done) | (go_simp; rw [Int.tmod_eq_emod_of_nonneg (by omega)]; omega)) ?_
                          with_reducible refine (field_Exponent.calls 2 t370 _ ?side1 A116.out).mono ?_
                          (case side1 => repeat (first | exact (GL.below HRG.out HB.out) | (with_reducible refine GL.alloc ?_ _) | (with_reducible refine GL.drewN ?_ _) | (with_reducible refine GL.drew ?_)))
                          rintro e w123 ⟨rfl, hb⟩
                          refine ⟨_, rfl, ?_⟩
                          have n0_ := Aside0.mk (below_step (by repeat (first | (with_reducible first | exact HB.out | apply below_alloc | apply pw_below_drewN | apply below_drew1) | exact HB.out)) hb)
                          clear HB
                          have HB := n0_
                          clear n0_
                          (try clear hb)
                          (try clear hb2)
                          (try clear hk)
                          (try clear hi)
                          refine hK.out _ _ trivial (fun hHeld => ?_)
                          clear hK K
                          refine norm_ (a' := ?_) ?_ ?_
                          rotate_left
                          · show Act.put _ (some 77) _ = _
                            simp only [Act.put, List.setIfInBounds_toArray, List.set_cons_zero, List.set_cons_succ, i64_w, i32_w]
                            rfl
                          refine pure_ (i := 5) (N := some 78) (v := ?_) (a' := ?_) #[true, true, true, true, true, true, false, true, false, true, true, true, false, false, false, false, false] rfl rfl (any_of HT_.out (by kernel_rfl)) (fun _ _ _ h => h) (Or.inl ⟨by rfl, ?_⟩) ?_ ?_
                          rotate_left
                          · intro w'
                            go_simp
                            with_reducible rfl
                          rotate_left
                          · simp only [Act.put, List.setIfInBounds_toArray, List.set_cons_zero, List.set_cons_succ, i64_w, i32_w]
                            rfl
                          refine one_ (i := 6) (N := some 79) #[true, true, true, true, true, true, true, true, false, true, true, true, false, false, false, false, false] rfl rfl (one_of HT_.out (by kernel_rfl)) (by decide) (fun K hK => ?_)
                          refine goes_ Tryd.func31 (by kernel_rfl) rfl #[.int .i64 2, .int .u64 a1, .int .u64 (IntKind.u64.wrap (t370))] (by rfl) rfl rfl (by (try simp only [List.map_toArray, List.map_cons, List.map_nil]); first | done | rfl | (simp only [List.length_drop, List.length_take]; rfl) | (go_simp; done) | (go_simp; rw [Int.tmod_eq_emod_of_nonneg (by omega)]; omega)) ?_
                          with_reducible refine (field_Pow.calls kj109 2 a1 (IntKind.u64.wrap (t370)) t371 _ ?side1 A117.out).mono ?_
                          (case side1 => repeat (first | exact (GL.below HRG.out HB.out) | (with_reducible refine GL.alloc ?_ _) | (with_reducible refine GL.drewN ?_ _) | (with_reducible refine GL.drew ?_)))
                          rintro e w124 ⟨rfl, hb⟩
                          refine ⟨_, rfl, ?_⟩
                          have n0_ := Aside0.mk (below_step (by repeat (first | (with_reducible first | exact HB.out | apply below_alloc | apply pw_below_drewN | apply below_drew1) | exact HB.out)) hb)
                          clear HB
                          have HB := n0_
                          clear n0_
                          (try clear hb)
                          (try clear hb2)
                          (try clear hk)
                          (try clear hi)
                          refine hK.out _ _ trivial (fun hHeld => ?_)
                          clear hK K
                          refine norm_ (a' := ?_) ?_ ?_
                          rotate_left
                          · show Act.put _ (some 79) _ = _
                            simp only [Act.put, List.setIfInBounds_toArray, List.set_cons_zero, List.set_cons_succ, i64_w, i32_w]
                            rfl
                          refine one_ (i := 8) (N := some 81) #[true, true, true, true, true, true, true, true, true, true, true, true, false, false, false, false, false] rfl rfl (one_of HT_.out (by kernel_rfl)) (by decide) (fun K hK => ?_)
                          refine goes_ Tryd.func31 (by kernel_rfl) rfl #[.int .i64 2, .int .u64 t371, .int .u64 7373] (by rfl) rfl rfl (by (try simp only [List.map_toArray, List.map_cons, List.map_nil]); first | done | rfl | (simp only [List.length_drop, List.length_take]; rfl) | (go_simp; done) | (go_simp; rw [Int.tmod_eq_emod_of_nonneg (by omega)]; omega)) ?_
                          with_reducible refine (field_Pow.calls kj109 2 t371 7373 t372 _ ?side1 A118.out).mono ?_
                          (case side1 => repeat (first | exact (GL.below HRG.out HB.out) | (with_reducible refine GL.alloc ?_ _) | (with_reducible refine GL.drewN ?_ _) | (with_reducible refine GL.drew ?_)))
                          rintro e w125 ⟨rfl, hb⟩
                          refine ⟨_, rfl, ?_⟩
                          have n0_ := Aside0.mk (below_step (by repeat (first | (with_reducible first | exact HB.out | apply below_alloc | apply pw_below_drewN | apply below_drew1) | exact HB.out)) hb)
                          clear HB
                          have HB := n0_
                          clear n0_
                          (try clear hb)
                          (try clear hb2)
                          (try clear hk)
                          (try clear hi)
                          refine hK.out _ _ trivial (fun hHeld => ?_)
                          clear hK K
                          refine norm_ (a' := ?_) ?_ ?_
                          rotate_left
                          · show Act.put _ (some 81) _ = _
                            simp only [Act.put, List.setIfInBounds_toArray, List.set_cons_zero, List.set_cons_succ, i64_w, i32_w]
                            rfl
                          refine pure_ (i := 12) (N := some 85) (v := ?_) (a' := ?_) #[true, true, true, true, true, true, true, true, true, true, true, true, true, false, false, false, false] rfl rfl (any_of HT_.out (by kernel_rfl)) (fun _ _ _ h => h) (Or.inl ⟨by rfl, ?_⟩) ?_ ?_
                          rotate_left
                          · intro w'
                            go_simp
                            with_reducible rfl
                          rotate_left
                          · simp only [Act.put, List.setIfInBounds_toArray, List.set_cons_zero, List.set_cons_succ, i64_w, i32_w]
                            rfl
                          refine pure_ (i := 13) (N := some 86) (v := ?_) (a' := ?_) #[true, true, true, true, true, true, true, true, true, true, true, true, true, true, false, false, false] rfl rfl (any_of HT_.out (by kernel_rfl)) (fun _ _ _ h => h) (Or.inl ⟨by rfl, ?_⟩) ?_ ?_
                          rotate_left
                          · intro w'
                            go_simp
                            with_reducible rfl
                          rotate_left
                          · simp only [Act.put, List.setIfInBounds_toArray, List.set_cons_zero, List.set_cons_succ, i64_w, i32_w]
                            rfl
                          refine one_ (i := 14) (N := some 87) #[true, true, true, true, true, true, true, true, true, true, true, true, true, true, true, false, false] rfl rfl (one_of HT_.out (by kernel_rfl)) (by decide) (fun K hK => ?_)
                          refine goes_ Tryd.func16 (by kernel_rfl) rfl #[] (by rfl) rfl rfl (by (try simp only [List.map_toArray, List.map_cons, List.map_nil]); first | done | rfl | (simp only [List.length_drop, List.length_take]; rfl) | (go_simp; done) | (go_simp; rw [Int.tmod_eq_emod_of_nonneg (by omega)]; omega)) ?_
                          with_reducible refine (attestorlaw01_works.calls kj109  t373 _ ?side1 A121.out).mono ?_
                          (case side1 => repeat (first | exact (GL.below HRG.out HB.out) | (with_reducible refine GL.alloc ?_ _) | (with_reducible refine GL.drewN ?_ _) | (with_reducible refine GL.drew ?_)))
                          rintro e w126 ⟨rfl, hb⟩
                          refine ⟨_, rfl, ?_⟩
                          have n0_ := Aside0.mk (below_step (by repeat (first | (with_reducible first | exact HB.out | apply below_alloc | apply pw_below_drewN | apply below_drew1) | exact HB.out)) hb)
                          clear HB
                          have HB := n0_
                          clear n0_
                          (try clear hb)
                          (try clear hb2)
                          (try clear hk)
                          (try clear hi)
                          refine hK.out _ _ trivial (fun hHeld => ?_)
                          clear hK K
                          refine norm_ (a' := ?_) ?_ ?_
                          rotate_left
                          · show Act.put _ (some 87) _ = _
                            simp only [Act.put, List.setIfInBounds_toArray, List.set_cons_zero, List.set_cons_succ, i64_w, i32_w]
                            rfl
                          refine pure_ (i := 15) (N := some 88) (v := ?_) (a' := ?_) #[true, true, true, true, true, true, true, true, true, true, true, true, true, true, true, true, false] rfl rfl (any_of HT_.out (by kernel_rfl)) (fun _ _ _ h => h) (Or.inl ⟨by rfl, ?_⟩) ?_ ?_
                          rotate_left
                          · intro w'
                            go_simp
                            with_reducible rfl
                          rotate_left
                          · simp only [Act.put, List.setIfInBounds_toArray, List.set_cons_zero, List.set_cons_succ, i64_w, i32_w]
                            rfl
                          refine pure_ (i := 16) (N := some 8) (v := ?_) (a' := ?_) #[true, true, true, true, true, true, true, true, true, true, true, true, true, true, true, true, true] rfl rfl (any_of HT_.out (by kernel_rfl)) (fun _ _ _ h => h) (Or.inl ⟨by rfl, ?_⟩) ?_ ?_
                          rotate_left
                          · intro w'
                            go_simp
                            with_reducible rfl
                          rotate_left
                          · simp only [Act.put, List.setIfInBounds_toArray, List.set_cons_zero, List.set_cons_succ, i64_w, i32_w]
                            rfl
                          refine done_ (done_of HT_.out (by kernel_rfl)) ?_
                          try go_wp2
                          go_ret
                          exact ⟨by first | rfl | (simp [errW_none, errW_some] <;> rfl) | (simp only [← hji5]; first | rfl | (simp [errW_none, errW_some] <;> rfl)) | (simp [*, errW_none, errW_some] <;> rfl), by repeat (first | (with_reducible first | exact HB.out | apply below_alloc | apply pw_below_drewN | apply below_drew1) | exact HB.out)⟩
                        · rw [if_neg c120] at H
                          exact absurd H (by simp)
        · rw [if_neg c87] at H
          by_cases c127 : (ji5) = 3
          · rw [if_pos c127] at H
            subst c127
            replace H := Option.bind_eq_some_iff.mp H
            obtain ⟨t374, A1280, H⟩ := H
            (try dsimp only at H)
            have A128 := Aside0.mk A1280
            clear A1280
            have HC129 := Aside0.mk H
            clear H
            go_enter Tryd.func7, Tryd.ntmps7
            go_upto_region 5 with (first | ((with_reducible refine gate_callee (f := 24) rfl ?_); refine goesL_ (some 23) rfl rfl Tryd.func24 (by kernel_rfl) rfl #[.int .i64 3] rfl (by (try simp only [List.map_toArray, List.map_cons, List.map_nil]); first | done | rfl | (simp only [List.length_drop, List.length_take]; rfl) | (go_simp; done) | (go_simp; rw [Int.tmod_eq_emod_of_nonneg (by omega)]; omega)) ?_; (with_reducible refine (field_P.calls 3 t374 _ ?side1 A128.out).mono ?_); (case side1 => repeat (first | exact HRG.out | (with_reducible refine GL.alloc ?_ _) | (with_reducible refine GL.drewN ?_ _) | (with_reducible refine GL.drew ?_))); rintro e w130 ⟨rfl, hb⟩; refine ⟨_, rfl, ?_⟩; have n0_ := Aside0.mk (below_step (by repeat (first | (with_reducible first | exact HB.out | apply below_alloc | apply pw_below_drewN | apply below_drew1) | exact HB.out)) hb); clear HB; have HB := n0_; clear n0_; (try clear hb); (try clear hb2); (try clear hk); (try clear hi)))
            (try simp only [Act.put, List.setIfInBounds_toArray, List.set_cons_zero, List.set_cons_succ])
            go_cut [60] (fun v60 wc => ∃ (kq : Nat) (x60_128 : Bool), v60 = .bool x60_128 ∧ Aside0 (attestorlaw01_FieldPowers.j6 kq a1 3 665496235 t374 x60_128 = some r) ∧ Aside0 (kq ≤ k) ∧ Aside0 (Below w.heap.size w wc))
            case first =>
              have H := HC129.out
              clear HC129
              by_cases c131 : t374 = 0
              · rw [if_pos c131] at H
                have c131b0 : (t374 == 0) = true := beq_iff_eq.mpr c131
                have c131b1 : (t374 != 0) = false := bne_eq_false_iff_eq.mpr c131
                clear c131
                (first | rw [c131b0] | (simp only [i64_w, i32_w]; rw [c131b0]) | skip)
                have H' := Aside0.mk H
                clear H
                go_wp2
                go_meet
                case rel => exact ⟨_, (true), (by first | rfl | (simp; done) | (simp [*]; done)), H', ⟨by first | omega | exact Nat.le_refl _⟩, ⟨by repeat (first | (with_reducible first | exact HB.out | apply below_alloc | apply pw_below_drewN | apply below_drew1) | exact HB.out)⟩⟩
              · rw [if_neg c131] at H
                have c131b0 : (t374 == 0) = false := beq_eq_false_iff_ne.mpr c131
                have c131b1 : (t374 != 0) = true := bne_iff_ne.mpr c131
                (first | rw [c131b0] | (simp only [i64_w, i32_w]; rw [c131b0]) | skip)
                replace H := Option.bind_eq_some_iff.mp H
                obtain ⟨t375, A1320, H⟩ := H
                (try dsimp only at H)
                have A132 := Aside0.mk A1320
                clear A1320
                replace H := Option.bind_eq_some_iff.mp H
                obtain ⟨t376, A1330, H⟩ := H
                (try dsimp only at H)
                have A133 := Aside0.mk A1330
                clear A1330
                replace H := Option.bind_eq_some_iff.mp H
                obtain ⟨t377, A1340, H⟩ := H
                (try dsimp only at H)
                have A134 := Aside0.mk A1340
                clear A1340
                replace H := Option.bind_eq_some_iff.mp H
                obtain ⟨t378, A1350, H⟩ := H
                (try dsimp only at H)
                have A135 := Aside0.mk A1350
                clear A1350
                by_cases c136 : t375 = t378
                · rw [if_pos c136] at H
                  have c136b0 : (t375 == t378) = true := beq_iff_eq.mpr c136
                  have c136b1 : (t375 != t378) = false := bne_eq_false_iff_eq.mpr c136
                  clear c136
                  replace H := Option.bind_eq_some_iff.mp H
                  obtain ⟨t379, A1370, H⟩ := H
                  replace H : ((field_Pow.f k (3) a1 (IntKind.u64.wrap ((Int.tmod a2 2147483648) * (Int.tmod a3 2147483648)))).bind fun t380 => (attestorlaw01_FieldPowers.j6 k a1 3 665496235 t374 (t379 != t380))) = some r := H
                  have A137 := Aside0.mk A1370
                  clear A1370
                  replace H := Option.bind_eq_some_iff.mp H
                  obtain ⟨t380, A1380, H⟩ := H
                  replace H : (attestorlaw01_FieldPowers.j6 k a1 3 665496235 t374 (t379 != t380)) = some r := H
                  have A138 := Aside0.mk A1380
                  clear A1380
                  have H' := Aside0.mk H
                  clear H
                  go_wp2_with (first | (go_at_call 31; (with_reducible refine (field_Pow.calls k 3 a1 (IntKind.u64.wrap ((Int.tmod a2 2147483648) + (Int.tmod a3 2147483648))) t375 _ ?side1 A132.out).mono ?_); (case side1 => repeat (first | exact (GL.below HRG.out HB.out) | (with_reducible refine GL.alloc ?_ _) | (with_reducible refine GL.drewN ?_ _) | (with_reducible refine GL.drew ?_))); rintro e w139 ⟨rfl, hb⟩; have n0_ := Aside0.mk (below_step (by repeat (first | (with_reducible first | exact HB.out | apply below_alloc | apply pw_below_drewN | apply below_drew1) | exact HB.out)) hb); clear HB; have HB := n0_; clear n0_; (try clear hb); (try clear hb2); (try clear hk); (try clear hi)) | (go_at_call 31; (with_reducible refine (field_Pow.calls k 3 a1 (Int.tmod a2 2147483648) t376 _ ?side1 A133.out).mono ?_); (case side1 => repeat (first | exact (GL.below HRG.out HB.out) | (with_reducible refine GL.alloc ?_ _) | (with_reducible refine GL.drewN ?_ _) | (with_reducible refine GL.drew ?_))); rintro e w140 ⟨rfl, hb⟩; have n0_ := Aside0.mk (below_step (by repeat (first | (with_reducible first | exact HB.out | apply below_alloc | apply pw_below_drewN | apply below_drew1) | exact HB.out)) hb); clear HB; have HB := n0_; clear n0_; (try clear hb); (try clear hb2); (try clear hk); (try clear hi)) | (go_at_call 31; (with_reducible refine (field_Pow.calls k 3 a1 (Int.tmod a3 2147483648) t377 _ ?side1 A134.out).mono ?_); (case side1 => repeat (first | exact (GL.below HRG.out HB.out) | (with_reducible refine GL.alloc ?_ _) | (with_reducible refine GL.drewN ?_ _) | (with_reducible refine GL.drew ?_))); rintro e w141 ⟨rfl, hb⟩; have n0_ := Aside0.mk (below_step (by repeat (first | (with_reducible first | exact HB.out | apply below_alloc | apply pw_below_drewN | apply below_drew1) | exact HB.out)) hb); clear HB; have HB := n0_; clear n0_; (try clear hb); (try clear hb2); (try clear hk); (try clear hi)) | (go_at_call 26; (with_reducible refine (field_Mul.calls 3 t376 t377 t378 _ ?side1 A135.out).mono ?_); (case side1 => repeat (first | exact (GL.below HRG.out HB.out) | (with_reducible refine GL.alloc ?_ _) | (with_reducible refine GL.drewN ?_ _) | (with_reducible refine GL.drew ?_))); rintro e w142 ⟨rfl, hb⟩; have n0_ := Aside0.mk (below_step (by repeat (first | (with_reducible first | exact HB.out | apply below_alloc | apply pw_below_drewN | apply below_drew1) | exact HB.out)) hb); clear HB; have HB := n0_; clear n0_; (try clear hb); (try clear hb2); (try clear hk); (try clear hi)) | (go_at_call 31; (with_reducible refine (field_Pow.calls k 3 t376 (Int.tmod a3 2147483648) t379 _ ?side1 A137.out).mono ?_); (case side1 => repeat (first | exact (GL.below HRG.out HB.out) | (with_reducible refine GL.alloc ?_ _) | (with_reducible refine GL.drewN ?_ _) | (with_reducible refine GL.drew ?_))); rintro e w143 ⟨rfl, hb⟩; have n0_ := Aside0.mk (below_step (by repeat (first | (with_reducible first | exact HB.out | apply below_alloc | apply pw_below_drewN | apply below_drew1) | exact HB.out)) hb); clear HB; have HB := n0_; clear n0_; (try clear hb); (try clear hb2); (try clear hk); (try clear hi)) | (go_at_call 31; (with_reducible refine (field_Pow.calls k 3 a1 (IntKind.u64.wrap ((Int.tmod a2 2147483648) * (Int.tmod a3 2147483648))) t380 _ ?side1 A138.out).mono ?_); (case side1 => repeat (first | exact (GL.below HRG.out HB.out) | (with_reducible refine GL.alloc ?_ _) | (with_reducible refine GL.drewN ?_ _) | (with_reducible refine GL.drew ?_))); rintro e w144 ⟨rfl, hb⟩; have n0_ := Aside0.mk (below_step (by repeat (first | (with_reducible first | exact HB.out | apply below_alloc | apply pw_below_drewN | apply below_drew1) | exact HB.out)) hb); clear HB; have HB := n0_; clear n0_; (try clear hb); (try clear hb2); (try clear hk); (try clear hi)))
                  go_meet
                  case rel => exact ⟨_, ((t379 != t380)), (by first | rfl | (simp; done) | (simp [*]; done)), H', ⟨by first | omega | exact Nat.le_refl _⟩, ⟨by repeat (first | (with_reducible first | exact HB.out | apply below_alloc | apply pw_below_drewN | apply below_drew1) | exact HB.out)⟩⟩
                · rw [if_neg c136] at H
                  have c136b0 : (t375 == t378) = false := beq_eq_false_iff_ne.mpr c136
                  have c136b1 : (t375 != t378) = true := bne_iff_ne.mpr c136
                  have H' := Aside0.mk H
                  clear H
                  go_wp2_with (first | (go_at_call 31; (with_reducible refine (field_Pow.calls k 3 a1 (IntKind.u64.wrap ((Int.tmod a2 2147483648) + (Int.tmod a3 2147483648))) t375 _ ?side1 A132.out).mono ?_); (case side1 => repeat (first | exact (GL.below HRG.out HB.out) | (with_reducible refine GL.alloc ?_ _) | (with_reducible refine GL.drewN ?_ _) | (with_reducible refine GL.drew ?_))); rintro e w145 ⟨rfl, hb⟩; have n0_ := Aside0.mk (below_step (by repeat (first | (with_reducible first | exact HB.out | apply below_alloc | apply pw_below_drewN | apply below_drew1) | exact HB.out)) hb); clear HB; have HB := n0_; clear n0_; (try clear hb); (try clear hb2); (try clear hk); (try clear hi)) | (go_at_call 31; (with_reducible refine (field_Pow.calls k 3 a1 (Int.tmod a2 2147483648) t376 _ ?side1 A133.out).mono ?_); (case side1 => repeat (first | exact (GL.below HRG.out HB.out) | (with_reducible refine GL.alloc ?_ _) | (with_reducible refine GL.drewN ?_ _) | (with_reducible refine GL.drew ?_))); rintro e w146 ⟨rfl, hb⟩; have n0_ := Aside0.mk (below_step (by repeat (first | (with_reducible first | exact HB.out | apply below_alloc | apply pw_below_drewN | apply below_drew1) | exact HB.out)) hb); clear HB; have HB := n0_; clear n0_; (try clear hb); (try clear hb2); (try clear hk); (try clear hi)) | (go_at_call 31; (with_reducible refine (field_Pow.calls k 3 a1 (Int.tmod a3 2147483648) t377 _ ?side1 A134.out).mono ?_); (case side1 => repeat (first | exact (GL.below HRG.out HB.out) | (with_reducible refine GL.alloc ?_ _) | (with_reducible refine GL.drewN ?_ _) | (with_reducible refine GL.drew ?_))); rintro e w147 ⟨rfl, hb⟩; have n0_ := Aside0.mk (below_step (by repeat (first | (with_reducible first | exact HB.out | apply below_alloc | apply pw_below_drewN | apply below_drew1) | exact HB.out)) hb); clear HB; have HB := n0_; clear n0_; (try clear hb); (try clear hb2); (try clear hk); (try clear hi)) | (go_at_call 26; (with_reducible refine (field_Mul.calls 3 t376 t377 t378 _ ?side1 A135.out).mono ?_); (case side1 => repeat (first | exact (GL.below HRG.out HB.out) | (with_reducible refine GL.alloc ?_ _) | (with_reducible refine GL.drewN ?_ _) | (with_reducible refine GL.drew ?_))); rintro e w148 ⟨rfl, hb⟩; have n0_ := Aside0.mk (below_step (by repeat (first | (with_reducible first | exact HB.out | apply below_alloc | apply pw_below_drewN | apply below_drew1) | exact HB.out)) hb); clear HB; have HB := n0_; clear n0_; (try clear hb); (try clear hb2); (try clear hk); (try clear hi)))
                  go_meet
                  case rel => exact ⟨_, (true), (by first | rfl | (simp; done) | (simp [*]; done)), H', ⟨by first | omega | exact Nat.le_refl _⟩, ⟨by repeat (first | (with_reducible first | exact HB.out | apply below_alloc | apply pw_below_drewN | apply below_drew1) | exact HB.out)⟩⟩
            case rest =>
              clear HC129
              try clear c1
              try clear c2
              try clear p2
              try clear c3
              try clear c4
              try clear c5
              try clear c6
              try clear c6b0
              try clear p6
              try clear c7
              try clear c8
              try clear c9
              try clear c10
              try clear c11
              try clear c11b0
              try clear c11b1
              try clear c12
              try clear c13
              try clear c16
              try clear c16b0
              try clear c16b1
              try clear c24
              try clear c29
              try clear c31
              try clear c31b0
              try clear c31b1
              try clear c32
              try clear c32b0
              try clear c32b1
              try clear c35
              try clear c39
              try clear c39b0
              try clear c39b1
              try clear c40
              try clear c40b0
              try clear c40b1
              try clear c47
              try clear c51
              try clear c51b0
              try clear c51b1
              try clear c56
              try clear c56b0
              try clear c56b1
              try clear p64
              try clear c69
              try clear c71
              try clear c71b0
              try clear c71b1
              try clear c72
              try clear c72b0
              try clear c72b1
              try clear c75
              try clear c79
              try clear c79b0
              try clear c79b1
              try clear c80
              try clear c80b0
              try clear c80b1
              try clear c87
              try clear c91
              try clear c91b0
              try clear c91b1
              try clear c96
              try clear c96b0
              try clear c96b1
              try clear c109
              try clear c111
              try clear c111b0
              try clear c111b1
              try clear c112
              try clear c112b0
              try clear c112b1
              try clear c115
              try clear c119
              try clear c119b0
              try clear c119b1
              try clear c120
              try clear c120b0
              try clear c120b1
              try clear c127
              try clear c131
              try clear c131b0
              try clear c131b1
              try clear c136
              try clear c136b0
              try clear c136b1
              try clear p2
              try clear p6
              try clear p64
              obtain ⟨kq, x60_128, rfl, HA, HJ128, HB⟩ := hcut
              cases kq with
              | zero => exact absurd HA.out (by simp [attestorlaw01_FieldPowers.j6])
              | succ kj128 =>
                have H := HA.out
                clear HA
                simp only [attestorlaw01_FieldPowers.j6] at H
                by_cases c149 : x60_128 = true
                · subst c149
                  have H1 : (none) = some r := by rw [if_pos rfl] at H; exact H
                  clear H
                  have H := H1
                  clear H1
                  exact absurd H (by simp)
                · replace c149 := Bool.eq_false_iff.mpr c149
                  subst c149
                  have H1 : (if t374 = 0 then (none) else (if (Int.tmod a1 t374) = 0 then (attestorlaw01_FieldPowers.j7 kj128 a1 3 665496235 t374 false) else ((field_Pow.f kj128 3 a1 (IntKind.u64.wrap (t374 - 1))).bind fun t381 => (attestorlaw01_FieldPowers.j7 kj128 a1 3 665496235 t374 (t381 != 1))))) = some r := by rw [if_neg (show ¬ (false = true) by decide)] at H; exact H
                  clear H
                  have H := H1
                  clear H1
                  have HC150 := Aside0.mk H
                  clear H
                  go_upto_region 7 with (fail)
                  go_cut [72] (fun v72 wc => ∃ (kq : Nat) (x72_149 : Bool), v72 = .bool x72_149 ∧ Aside0 (attestorlaw01_FieldPowers.j7 kq a1 3 665496235 t374 x72_149 = some r) ∧ Aside0 (kq ≤ kj128) ∧ Aside0 (Below w.heap.size w wc))
                  case first =>
                    have H := HC150.out
                    clear HC150
                    by_cases c151 : t374 = 0
                    · rw [if_pos c151] at H
                      exact absurd H (by simp)
                    · rw [if_neg c151] at H
                      have c151b0 : (t374 == 0) = false := beq_eq_false_iff_ne.mpr c151
                      have c151b1 : (t374 != 0) = true := bne_iff_ne.mpr c151
                      (first | rw [c151b0] | (simp only [i64_w, i32_w]; rw [c151b0]) | skip)
                      by_cases c152 : (Int.tmod a1 t374) = 0
                      · rw [if_pos c152] at H
                        have c152b0 : ((Int.tmod a1 t374) == 0) = true := beq_iff_eq.mpr c152
                        have c152b1 : ((Int.tmod a1 t374) != 0) = false := bne_eq_false_iff_eq.mpr c152
                        clear c152
                        have H' := Aside0.mk H
                        clear H
                        go_wp2
                        go_meet
                        case rel => exact ⟨_, (false), (by first | rfl | (simp; done) | (simp [*]; done)), H', ⟨by have := HJ128.out; first | omega | exact Nat.le_refl _⟩, ⟨by repeat (first | (with_reducible first | exact HB.out | apply below_alloc | apply pw_below_drewN | apply below_drew1) | exact HB.out)⟩⟩
                      · rw [if_neg c152] at H
                        have c152b0 : ((Int.tmod a1 t374) == 0) = false := beq_eq_false_iff_ne.mpr c152
                        have c152b1 : ((Int.tmod a1 t374) != 0) = true := bne_iff_ne.mpr c152
                        replace H := Option.bind_eq_some_iff.mp H
                        obtain ⟨t381, A1530, H⟩ := H
                        replace H : (attestorlaw01_FieldPowers.j7 kj128 a1 3 665496235 t374 (t381 != 1)) = some r := H
                        have A153 := Aside0.mk A1530
                        clear A1530
                        have H' := Aside0.mk H
                        clear H
                        go_wp2_with (first | (go_at_call 31; (with_reducible refine (field_Pow.calls kj128 3 a1 (IntKind.u64.wrap (t374 - 1)) t381 _ ?side1 A153.out).mono ?_); (case side1 => repeat (first | exact (GL.below HRG.out HB.out) | (with_reducible refine GL.alloc ?_ _) | (with_reducible refine GL.drewN ?_ _) | (with_reducible refine GL.drew ?_))); rintro e w154 ⟨rfl, hb⟩; have n0_ := Aside0.mk (below_step (by repeat (first | (with_reducible first | exact HB.out | apply below_alloc | apply pw_below_drewN | apply below_drew1) | exact HB.out)) hb); clear HB; have HB := n0_; clear n0_; (try clear hb); (try clear hb2); (try clear hk); (try clear hi)))
                        go_meet
                        case rel => exact ⟨_, ((t381 != 1)), (by first | rfl | (simp; done) | (simp [*]; done)), H', ⟨by have := HJ128.out; first | omega | exact Nat.le_refl _⟩, ⟨by repeat (first | (with_reducible first | exact HB.out | apply below_alloc | apply pw_below_drewN | apply below_drew1) | exact HB.out)⟩⟩
                  case rest =>
                    clear HC150
                    try clear c1
                    try clear c2
                    try clear p2
                    try clear c3
                    try clear c4
                    try clear c5
                    try clear c6
                    try clear c6b0
                    try clear p6
                    try clear c7
                    try clear c8
                    try clear c9
                    try clear c10
                    try clear c11
                    try clear c11b0
                    try clear c11b1
                    try clear c12
                    try clear c13
                    try clear c14
                    try clear c15
                    try clear c16
                    try clear c16b0
                    try clear c16b1
                    try clear c24
                    try clear c29
                    try clear c31
                    try clear c31b0
                    try clear c31b1
                    try clear c32
                    try clear c32b0
                    try clear c32b1
                    try clear c35
                    try clear c39
                    try clear c39b0
                    try clear c39b1
                    try clear c40
                    try clear c40b0
                    try clear c40b1
                    try clear c47
                    try clear c51
                    try clear c51b0
                    try clear c51b1
                    try clear c56
                    try clear c56b0
                    try clear c56b1
                    try clear p64
                    try clear c69
                    try clear c71
                    try clear c71b0
                    try clear c71b1
                    try clear c72
                    try clear c72b0
                    try clear c72b1
                    try clear c75
                    try clear c79
                    try clear c79b0
                    try clear c79b1
                    try clear c80
                    try clear c80b0
                    try clear c80b1
                    try clear c87
                    try clear c91
                    try clear c91b0
                    try clear c91b1
                    try clear c96
                    try clear c96b0
                    try clear c96b1
                    try clear c109
                    try clear c111
                    try clear c111b0
                    try clear c111b1
                    try clear c112
                    try clear c112b0
                    try clear c112b1
                    try clear c115
                    try clear c119
                    try clear c119b0
                    try clear c119b1
                    try clear c120
                    try clear c120b0
                    try clear c120b1
                    try clear c127
                    try clear c131
                    try clear c131b0
                    try clear c131b1
                    try clear c136
                    try clear c136b0
                    try clear c136b1
                    try clear c149
                    try clear c151
                    try clear c151b0
                    try clear c151b1
                    try clear c152
                    try clear c152b0
                    try clear c152b1
                    try clear p2
                    try clear p6
                    try clear p64
                    obtain ⟨kq, x72_149, rfl, HA, HJ149, HB⟩ := hcut
                    cases kq with
                    | zero => exact absurd HA.out (by simp [attestorlaw01_FieldPowers.j7])
                    | succ kj149 =>
                      have H := HA.out
                      clear HA
                      simp only [attestorlaw01_FieldPowers.j7] at H
                      by_cases c155 : x72_149 = true
                      · subst c155
                        have H1 : (none) = some r := by rw [if_pos rfl] at H; exact H
                        clear H
                        have H := H1
                        clear H1
                        exact absurd H (by simp)
                      · replace c155 := Bool.eq_false_iff.mpr c155
                        subst c155
                        have H1 : ((field_Exponent.f 3).bind fun t382 => ((field_Pow.f kj149 3 a1 (IntKind.u64.wrap (t382))).bind fun t383 => ((field_Pow.f kj149 3 t383 665496235).bind fun t384 => (if t374 = 0 then (none) else (if t384 = (Int.tmod a1 t374) then ((attestorlaw01_works.f kj149).bind fun t385 => (some t385)) else (none)))))) = some r := by rw [if_neg (show ¬ (false = true) by decide)] at H; exact H
                        clear H
                        have H := H1
                        clear H1
                        replace H := Option.bind_eq_some_iff.mp H
                        obtain ⟨t382, A1560, H⟩ := H
                        replace H : ((field_Pow.f kj149 3 a1 (IntKind.u64.wrap (t382))).bind fun t383 => ((field_Pow.f kj149 3 t383 665496235).bind fun t384 => (if t374 = 0 then (none) else (if t384 = (Int.tmod a1 t374) then ((attestorlaw01_works.f kj149).bind fun t385 => (some t385)) else (none))))) = some r := H
                        have A156 := Aside0.mk A1560
                        clear A1560
                        replace H := Option.bind_eq_some_iff.mp H
                        obtain ⟨t383, A1570, H⟩ := H
                        replace H : ((field_Pow.f kj149 3 t383 665496235).bind fun t384 => (if t374 = 0 then (none) else (if t384 = (Int.tmod a1 t374) then ((attestorlaw01_works.f kj149).bind fun t385 => (some t385)) else (none)))) = some r := H
                        have A157 := Aside0.mk A1570
                        clear A1570
                        replace H := Option.bind_eq_some_iff.mp H
                        obtain ⟨t384, A1580, H⟩ := H
                        replace H : (if t374 = 0 then (none) else (if t384 = (Int.tmod a1 t374) then ((attestorlaw01_works.f kj149).bind fun t385 => (some t385)) else (none))) = some r := H
                        have A158 := Aside0.mk A1580
                        clear A1580
                        by_cases c159 : t374 = 0
                        · rw [if_pos c159] at H
                          exact absurd H (by simp)
                        · rw [if_neg c159] at H
                          have c159b0 : (t374 == 0) = false := beq_eq_false_iff_ne.mpr c159
                          have c159b1 : (t374 != 0) = true := bne_iff_ne.mpr c159
                          by_cases c160 : t384 = (Int.tmod a1 t374)
                          · rw [if_pos c160] at H
                            have c160b0 : (t384 == (Int.tmod a1 t374)) = true := beq_iff_eq.mpr c160
                            have c160b1 : (t384 != (Int.tmod a1 t374)) = false := bne_eq_false_iff_eq.mpr c160
                            clear c160
                            replace H := Option.bind_eq_some_iff.mp H
                            obtain ⟨t385, A1610, H⟩ := H
                            replace H : (some t385) = some r := H
                            have A161 := Aside0.mk A1610
                            clear A1610
                            obtain rfl := Option.some.inj H
                            try go_wp2
                            have n0_ := Aside0.mk (below_drew1 HB.out)
                            clear HB
                            have HB := n0_
                            clear n0_
                            refine start_ (n := 17) (S := fun w' => True) (ds := []) #[false, false, false, false, false, false, false, false, false, false, false, false, false, false, false, false, false] (by kernel_rfl) rfl rfl trivial (fun hHeld => ?_); refine with_tabW attestorlaw01_FieldPowers.tab9 attestorlaw01_FieldPowers.bits9 (fun HT_ HW_ => ?_)
                            generalize wc.drew = w162 at HB hHeld ⊢
                            refine pure_ (i := 0) (N := some 73) (v := ?_) (a' := ?_) #[true, false, false, false, false, false, false, false, false, false, false, false, false, false, false, false, false] rfl rfl (any_of HT_.out (by kernel_rfl)) (fun _ _ _ h => h) (Or.inl ⟨by rfl, ?_⟩) ?_ ?_
                            rotate_left
                            · intro w'
                              go_simp
                              with_reducible rfl
                            rotate_left
                            · simp only [Act.put, List.setIfInBounds_toArray, List.set_cons_zero, List.set_cons_succ, i64_w, i32_w]
                              rfl
                            refine pure_ (i := 1) (N := some 74) (v := ?_) (a' := ?_) #[true, true, false, false, false, false, false, false, false, false, false, false, false, false, false, false, false] rfl rfl (any_of HT_.out (by kernel_rfl)) (fun _ _ _ h => h) (Or.inl ⟨by rfl, ?_⟩) ?_ ?_
                            rotate_left
                            · intro w'
                              go_simp
                              with_reducible rfl
                            rotate_left
                            · simp only [Act.put, List.setIfInBounds_toArray, List.set_cons_zero, List.set_cons_succ, i64_w, i32_w]
                              rfl
                            refine pure_ (i := 2) (N := some 75) (v := ?_) (a' := ?_) #[true, true, true, false, false, false, false, false, false, false, false, false, false, false, false, false, false] rfl rfl (any_of HT_.out (by kernel_rfl)) (fun _ _ _ h => h) (Or.inl ⟨by rfl, ?_⟩) ?_ ?_
                            rotate_left
                            · intro w'
                              go_simp
                              with_reducible rfl
                            rotate_left
                            · simp only [Act.put, List.setIfInBounds_toArray, List.set_cons_zero, List.set_cons_succ, i64_w, i32_w]
                              rfl
                            refine pure_ (i := 3) (N := some 76) (v := ?_) (a' := ?_) #[true, true, true, true, false, false, false, false, false, false, false, false, false, false, false, false, false] rfl rfl (any_of HT_.out (by kernel_rfl)) (fun _ _ _ h => h) (Or.inl ⟨by rfl, ?_⟩) ?_ ?_
                            rotate_left
                            · intro w'
                              go_simp
                              with_reducible rfl
                            rotate_left
                            · simp only [Act.put, List.setIfInBounds_toArray, List.set_cons_zero, List.set_cons_succ, i64_w, i32_w]
                              rfl
                            refine pure_ (i := 7) (N := some 80) (v := ?_) (a' := ?_) #[true, true, true, true, false, false, false, true, false, false, false, false, false, false, false, false, false] rfl rfl (any_of HT_.out (by kernel_rfl)) (fun _ _ _ h => h) (Or.inl ⟨by rfl, ?_⟩) ?_ ?_
                            rotate_left
                            · intro w'
                              go_simp
                              with_reducible rfl
                            rotate_left
                            · simp only [Act.put, List.setIfInBounds_toArray, List.set_cons_zero, List.set_cons_succ, i64_w, i32_w]
                              rfl
                            refine pure_ (i := 9) (N := some 82) (v := ?_) (a' := ?_) #[true, true, true, true, false, false, false, true, false, true, false, false, false, false, false, false, false] rfl rfl (any_of HT_.out (by kernel_rfl)) (fun _ _ _ h => h) (Or.inl ⟨by rfl, ?_⟩) ?_ ?_
                            rotate_left
                            · intro w'
                              go_simp
                              with_reducible rfl
                            rotate_left
                            · simp only [Act.put, List.setIfInBounds_toArray, List.set_cons_zero, List.set_cons_succ, i64_w, i32_w]
                              rfl
                            refine pure_ (i := 10) (N := some 83) (v := ?_) (a' := ?_) #[true, true, true, true, false, false, false, true, false, true, true, false, false, false, false, false, false] rfl rfl (any_of HT_.out (by kernel_rfl)) (fun _ _ _ h => h) (Or.inl ⟨by rfl, ?_⟩) ?_ ?_
                            rotate_left
                            · intro w'
                              go_simp
                              with_reducible rfl
                            rotate_left
                            · simp only [Act.put, List.setIfInBounds_toArray, List.set_cons_zero, List.set_cons_succ, i64_w, i32_w]
                              rfl
                            refine pure_ (i := 11) (N := some 84) (v := ?_) (a' := ?_) #[true, true, true, true, false, false, false, true, false, true, true, true, false, false, false, false, false] rfl rfl (any_of HT_.out (by kernel_rfl)) (fun _ _ _ h => h) (Or.inl ⟨by rfl, ?_⟩) ?_ ?_
                            rotate_left
                            · intro w'
                              go_simp
                              with_reducible rfl
                            rotate_left
                            · simp only [Act.put, List.setIfInBounds_toArray, List.set_cons_zero, List.set_cons_succ, i64_w, i32_w]
                              rfl
                            refine one_ (i := 4) (N := some 77) #[true, true, true, true, true, false, false, true, false, true, true, true, false, false, false, false, false] rfl rfl (one_of HT_.out (by kernel_rfl)) (by decide) (fun K hK => ?_)
                            refine goes_ Tryd.func32 (by kernel_rfl) rfl #[.int .i64 3] (by rfl) rfl rfl (by (try simp only [List.map_toArray, List.map_cons, List.map_nil]); first | done | rfl | (simp only [List.length_drop, List.length_take]; rfl) | (go_simp; done) | (go_simp; rw [Int.tmod_eq_emod_of_nonneg (by omega)]; omega)) ?_
                            with_reducible refine (field_Exponent.calls 3 t382 _ ?side1 A156.out).mono ?_
                            (case side1 => repeat (first | exact (GL.below HRG.out HB.out) | (with_reducible refine GL.alloc ?_ _) | (with_reducible refine GL.drewN ?_ _) | (with_reducible refine GL.drew ?_)))
                            rintro e w163 ⟨rfl, hb⟩
                            refine ⟨_, rfl, ?_⟩
                            have n0_ := Aside0.mk (below_step (by repeat (first | (with_reducible first | exact HB.out | apply below_alloc | apply pw_below_drewN | apply below_drew1) | exact HB.out)) hb)
                            clear HB
                            have HB := n0_
                            clear n0_
                            (try clear hb)
                            (try clear hb2)
                            (try clear hk)
                            (try clear hi)
                            refine hK.out _ _ trivial (fun hHeld => ?_)
                            clear hK K
                            refine norm_ (a' := ?_) ?_ ?_
                            rotate_left
                            · show Act.put _ (some 77) _ = _
                              simp only [Act.put, List.setIfInBounds_toArray, List.set_cons_zero, List.set_cons_succ, i64_w, i32_w]
                              rfl
                            refine pure_ (i := 5) (N := some 78) (v := ?_) (a' := ?_) #[true, true, true, true, true, true, false, true, false, true, true, true, false, false, false, false, false] rfl rfl (any_of HT_.out (by kernel_rfl)) (fun _ _ _ h => h) (Or.inl ⟨by rfl, ?_⟩) ?_ ?_
                            rotate_left
                            · intro w'
                              go_simp
                              with_reducible rfl
                            rotate_left
                            · simp only [Act.put, List.setIfInBounds_toArray, List.set_cons_zero, List.set_cons_succ, i64_w, i32_w]
                              rfl
                            refine one_ (i := 6) (N := some 79) #[true, true, true, true, true, true, true, true, false, true, true, true, false, false, false, false, false] rfl rfl (one_of HT_.out (by kernel_rfl)) (by decide) (fun K hK => ?_)
                            refine goes_ Tryd.func31 (by kernel_rfl) rfl #[.int .i64 3, .int .u64 a1, .int .u64 (IntKind.u64.wrap (t382))] (by rfl) rfl rfl (by (try simp only [List.map_toArray, List.map_cons, List.map_nil]); first | done | rfl | (simp only [List.length_drop, List.length_take]; rfl) | (go_simp; done) | (go_simp; rw [Int.tmod_eq_emod_of_nonneg (by omega)]; omega)) ?_
                            with_reducible refine (field_Pow.calls kj149 3 a1 (IntKind.u64.wrap (t382)) t383 _ ?side1 A157.out).mono ?_
                            (case side1 => repeat (first | exact (GL.below HRG.out HB.out) | (with_reducible refine GL.alloc ?_ _) | (with_reducible refine GL.drewN ?_ _) | (with_reducible refine GL.drew ?_)))
                            rintro e w164 ⟨rfl, hb⟩
                            refine ⟨_, rfl, ?_⟩
                            have n0_ := Aside0.mk (below_step (by repeat (first | (with_reducible first | exact HB.out | apply below_alloc | apply pw_below_drewN | apply below_drew1) | exact HB.out)) hb)
                            clear HB
                            have HB := n0_
                            clear n0_
                            (try clear hb)
                            (try clear hb2)
                            (try clear hk)
                            (try clear hi)
                            refine hK.out _ _ trivial (fun hHeld => ?_)
                            clear hK K
                            refine norm_ (a' := ?_) ?_ ?_
                            rotate_left
                            · show Act.put _ (some 79) _ = _
                              simp only [Act.put, List.setIfInBounds_toArray, List.set_cons_zero, List.set_cons_succ, i64_w, i32_w]
                              rfl
                            refine one_ (i := 8) (N := some 81) #[true, true, true, true, true, true, true, true, true, true, true, true, false, false, false, false, false] rfl rfl (one_of HT_.out (by kernel_rfl)) (by decide) (fun K hK => ?_)
                            refine goes_ Tryd.func31 (by kernel_rfl) rfl #[.int .i64 3, .int .u64 t383, .int .u64 665496235] (by rfl) rfl rfl (by (try simp only [List.map_toArray, List.map_cons, List.map_nil]); first | done | rfl | (simp only [List.length_drop, List.length_take]; rfl) | (go_simp; done) | (go_simp; rw [Int.tmod_eq_emod_of_nonneg (by omega)]; omega)) ?_
                            with_reducible refine (field_Pow.calls kj149 3 t383 665496235 t384 _ ?side1 A158.out).mono ?_
                            (case side1 => repeat (first | exact (GL.below HRG.out HB.out) | (with_reducible refine GL.alloc ?_ _) | (with_reducible refine GL.drewN ?_ _) | (with_reducible refine GL.drew ?_)))
                            rintro e w165 ⟨rfl, hb⟩
                            refine ⟨_, rfl, ?_⟩
                            have n0_ := Aside0.mk (below_step (by repeat (first | (with_reducible first | exact HB.out | apply below_alloc | apply pw_below_drewN | apply below_drew1) | exact HB.out)) hb)
                            clear HB
                            have HB := n0_
                            clear n0_
                            (try clear hb)
                            (try clear hb2)
                            (try clear hk)
                            (try clear hi)
                            refine hK.out _ _ trivial (fun hHeld => ?_)
                            clear hK K
                            refine norm_ (a' := ?_) ?_ ?_
                            rotate_left
                            · show Act.put _ (some 81) _ = _
                              simp only [Act.put, List.setIfInBounds_toArray, List.set_cons_zero, List.set_cons_succ, i64_w, i32_w]
                              rfl
                            refine pure_ (i := 12) (N := some 85) (v := ?_) (a' := ?_) #[true, true, true, true, true, true, true, true, true, true, true, true, true, false, false, false, false] rfl rfl (any_of HT_.out (by kernel_rfl)) (fun _ _ _ h => h) (Or.inl ⟨by rfl, ?_⟩) ?_ ?_
                            rotate_left
                            · intro w'
                              go_simp
                              with_reducible rfl
                            rotate_left
                            · simp only [Act.put, List.setIfInBounds_toArray, List.set_cons_zero, List.set_cons_succ, i64_w, i32_w]
                              rfl
                            refine pure_ (i := 13) (N := some 86) (v := ?_) (a' := ?_) #[true, true, true, true, true, true, true, true, true, true, true, true, true, true, false, false, false] rfl rfl (any_of HT_.out (by kernel_rfl)) (fun _ _ _ h => h) (Or.inl ⟨by rfl, ?_⟩) ?_ ?_
                            rotate_left
                            · intro w'
                              go_simp
                              with_reducible rfl
                            rotate_left
                            · simp only [Act.put, List.setIfInBounds_toArray, List.set_cons_zero, List.set_cons_succ, i64_w, i32_w]
                              rfl
                            refine one_ (i := 14) (N := some 87) #[true, true, true, true, true, true, true, true, true, true, true, true, true, true, true, false, false] rfl rfl (one_of HT_.out (by kernel_rfl)) (by decide) (fun K hK => ?_)
                            refine goes_ Tryd.func16 (by kernel_rfl) rfl #[] (by rfl) rfl rfl (by (try simp only [List.map_toArray, List.map_cons, List.map_nil]); first | done | rfl | (simp only [List.length_drop, List.length_take]; rfl) | (go_simp; done) | (go_simp; rw [Int.tmod_eq_emod_of_nonneg (by omega)]; omega)) ?_
                            with_reducible refine (attestorlaw01_works.calls kj149  t385 _ ?side1 A161.out).mono ?_
                            (case side1 => repeat (first | exact (GL.below HRG.out HB.out) | (with_reducible refine GL.alloc ?_ _) | (with_reducible refine GL.drewN ?_ _) | (with_reducible refine GL.drew ?_)))
                            rintro e w166 ⟨rfl, hb⟩
                            refine ⟨_, rfl, ?_⟩
                            have n0_ := Aside0.mk (below_step (by repeat (first | (with_reducible first | exact HB.out | apply below_alloc | apply pw_below_drewN | apply below_drew1) | exact HB.out)) hb)
                            clear HB
                            have HB := n0_
                            clear n0_
                            (try clear hb)
                            (try clear hb2)
                            (try clear hk)
                            (try clear hi)
                            refine hK.out _ _ trivial (fun hHeld => ?_)
                            clear hK K
                            refine norm_ (a' := ?_) ?_ ?_
                            rotate_left
                            · show Act.put _ (some 87) _ = _
                              simp only [Act.put, List.setIfInBounds_toArray, List.set_cons_zero, List.set_cons_succ, i64_w, i32_w]
                              rfl
                            refine pure_ (i := 15) (N := some 88) (v := ?_) (a' := ?_) #[true, true, true, true, true, true, true, true, true, true, true, true, true, true, true, true, false] rfl rfl (any_of HT_.out (by kernel_rfl)) (fun _ _ _ h => h) (Or.inl ⟨by rfl, ?_⟩) ?_ ?_
                            rotate_left
                            · intro w'
                              go_simp
                              with_reducible rfl
                            rotate_left
                            · simp only [Act.put, List.setIfInBounds_toArray, List.set_cons_zero, List.set_cons_succ, i64_w, i32_w]
                              rfl
                            refine pure_ (i := 16) (N := some 8) (v := ?_) (a' := ?_) #[true, true, true, true, true, true, true, true, true, true, true, true, true, true, true, true, true] rfl rfl (any_of HT_.out (by kernel_rfl)) (fun _ _ _ h => h) (Or.inl ⟨by rfl, ?_⟩) ?_ ?_
                            rotate_left
                            · intro w'
                              go_simp
                              with_reducible rfl
                            rotate_left
                            · simp only [Act.put, List.setIfInBounds_toArray, List.set_cons_zero, List.set_cons_succ, i64_w, i32_w]
                              rfl
                            refine done_ (done_of HT_.out (by kernel_rfl)) ?_
                            try go_wp2
                            go_ret
                            exact ⟨by first | rfl | (simp [errW_none, errW_some] <;> rfl) | (simp only [← hji5]; first | rfl | (simp [errW_none, errW_some] <;> rfl)) | (simp [*, errW_none, errW_some] <;> rfl), by repeat (first | (with_reducible first | exact HB.out | apply below_alloc | apply pw_below_drewN | apply below_drew1) | exact HB.out)⟩
                          · rw [if_neg c160] at H
                            exact absurd H (by simp)
          · rw [if_neg c127] at H
            exact absurd H (by simp)
  · rw [if_neg c6] at H
    exact absurd H (by simp)

end Go.Proofs.YtdojfdjokggaiaaDoor.Q
