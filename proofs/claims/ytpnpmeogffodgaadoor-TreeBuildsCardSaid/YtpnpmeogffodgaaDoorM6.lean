/- Several texts in one, in build order. What they prove, each by its own first remark:
Of PPathsT what this claim needs.
Written by our own copy of a printing program (a twelfth state) out of the translation. Not trusted: Lean checks it.
Of PBuilds what this claim needs.
For all arguments attestorlaw07.TreeBuilds returns true and leaves them as they were, where the package-level variables hold what the program's text lays (the card ties that): no other condition. -/
import Derived.Test.YtpnpmeogffodgaaDoorM5
import Derived.Test.YtpnpmeogffodgaaDoorM2
import Derived.Test.YtpnpmeogffodgaaDoorM3
import Derived.Test.YtpnpmeogffodgaaDoorM4
import Derived.Test.YtpnpmeogffodgaaDoorCards
import Derived.Test.YtpnpmeogffodgaaDoorTie
import Derived.SevenTiedAt
import Derived.SizedLaws
import Derived.ShutString
import Derived.ChangeOld
import Derived.ProofKit
import Derived.Below
import Derived.OpenShut
section
namespace Go.Proofs.YtpnpmeogffodgaaDoor.Q
open Go.RowKit Go.Proofs.YtpnpmeogffodgaaDoorW.PrintWords Go.Proofs.YtpnpmeogffodgaaDoorW.PrintLast Go.Proofs.YtpnpmeogffodgaaDoorW.PrintMore
open Go.Proofs.YtpnpmeogffodgaaDoor.Num
set_option linter.unusedVariables false
set_option linter.unusedSimpArgs false
theorem rd_at {ls : List (List S36)} {j : Nat} (h : j < ls.length) : rd_L3 ls (j : Int) = ls[j] := by unfold rd_L3; rw [Int.toNat_natCast]; simp [List.getD, h]
structure Vt (f h c : Int) (ls : List (List S36)) : Prop where
  fv : 0 ≤ f ∧ f < 4
  h0 : 0 ≤ c
  h1 : c ≤ h
  h2 : h ≤ 18
  len : (ls.length : Int) = h - c + 1
  row : ∀ j, j < ls.length → (rd_L3 ls (j : Int)).length = 2 ^ (h.toNat - j) ∧ (rd_L3 ls (j : Int)).all (okD (fp f)) = true
theorem valid_lb {f h c : Int} (hh0 : 0 ≤ c) (hh1 : c ≤ h) (hh2 : h ≤ 18) (ls : List (List S36)) (hl : (ls.length : Int) = h - c + 1) (hr : ∀ r ∈ ls, r.length ≤ 1000) : ∀ m j k, m + j = ls.length → m + 1001 < k → ∃ b, tree_Valid.l0 k ls (ls.length : Int) (j : Int) f h c ls = some b ∧ attestorref07_Valid.l0 k (j : Int) f h c ls = some b ∧ (b = true → ∀ j', j ≤ j' → j' < ls.length → (rd_L3 ls (j' : Int)).length = 2 ^ (h.toNat - j') ∧ (rd_L3 ls (j' : Int)).all (okD (fp f)) = true)
  | _, _, 0, _, hk => by omega
  | 0, j, k + 1, hj, _ => ⟨true, by rw [tree_Valid.l0, if_neg (by omega)], by rw [attestorref07_Valid.l0, if_neg (by omega)], fun _ j' h1 h2 => by omega⟩
  | m + 1, j, k + 1, hj, hk => by
    obtain ⟨b, ih1, ih2, ih3⟩ := valid_lb hh0 hh1 hh2 ls hl hr m (j + 1) k (by omega) (by omega)
    have w : wrap64 (h - (j : Int)) = ((h.toNat - j : Nat) : Int) := by unfold wrap64; omega
    have hjl : j < ls.length := by omega
    have hrow : (rd_L3 ls (j : Int)).length ≤ 1000 := by rw [rd_at hjl]; exact hr _ (List.getElem_mem hjl)
    have hs : wrap64 ((j : Int) + 1) = ((j + 1 : Nat) : Int) := by unfold wrap64; omega
    have e1 : tree_Valid.l0 (k + 1) ls (ls.length : Int) (j : Int) f h c ls = if ((rd_L3 ls (j : Int)).length : Int) = ((2 ^ (h.toNat - j) : Nat) : Int) then (if (rd_L3 ls (j : Int)).all (okD (fp f)) = true then tree_Valid.l0 k ls (ls.length : Int) ((j + 1 : Nat) : Int) f h c ls else some false) else some false := by
      rw [tree_Valid.l0, if_pos (by omega), if_pos (by omega), if_pos (by omega), w, if_pos (by omega), shl_of _ (by omega), proper_f, Option.bind_some, hs]
    have e2 : attestorref07_Valid.l0 (k + 1) (j : Int) f h c ls = if ((rd_L3 ls (j : Int)).length : Int) = ((2 ^ (h.toNat - j) : Nat) : Int) then (if (rd_L3 ls (j : Int)).all (okD (fp f)) = true then attestorref07_Valid.l0 k ((j + 1 : Nat) : Int) f h c ls else some false) else some false := by
      rw [attestorref07_Valid.l0, if_pos (by omega), if_pos (by omega), w, if_pos (by omega), shl_of _ (by omega), All_f f _ k (by omega) (by omega), Option.bind_some, hs]
    rw [e1, e2]
    by_cases hq : ((rd_L3 ls (j : Int)).length : Int) = ((2 ^ (h.toNat - j) : Nat) : Int)
    · rw [if_pos hq, if_pos hq]
      cases ha : (rd_L3 ls (j : Int)).all (okD (fp f)) with
      | true =>
        rw [if_pos rfl, if_pos rfl]
        refine ⟨b, ih1, ih2, fun hb j' h1 h2 => ?_⟩
        by_cases e : j' = j
        · subst e; exact ⟨by omega, ha⟩
        · exact ih3 hb j' (by omega) h2
      | false =>
        rw [if_neg (by decide), if_neg (by decide)]
        exact ⟨false, rfl, rfl, fun hb => by cases hb⟩
    · rw [if_neg hq, if_neg hq]
      exact ⟨false, rfl, rfl, fun hb => by cases hb⟩
theorem valid_b (f h c : Int) (ls : List (List S36)) (hn : ls.length ≤ 8) (hr : ∀ r ∈ ls, r.length ≤ 1000) (k : Nat) (hk : 1200 < k) : ∃ b, tree_Valid.f k f h c ls = some b ∧ attestorref07_Valid.f k f h c ls = some b ∧ (b = true → Vt f h c ls) := by
  obtain ⟨k, rfl⟩ : ∃ q, k = q + 1 := ⟨k - 1, by omega⟩
  have no : ∃ b, tree_Valid.j0 (k + 1) true f h c ls = some b ∧ attestorref07_Valid.j0 (k + 1) true f h c ls = some b ∧ (b = true → Vt f h c ls) := ⟨false, by rw [tree_Valid.j0, if_pos rfl], by rw [attestorref07_Valid.j0, if_pos rfl], fun e => by cases e⟩
  unfold tree_Valid.f attestorref07_Valid.f
  rw [valid_f, rvalid_f, Option.bind_some, Option.bind_some]
  by_cases hv : 0 ≤ f ∧ f < 4
  · rw [decide_eq_true hv, if_pos rfl, if_pos rfl]
    by_cases c1 : h < 0
    · rw [if_pos c1, if_pos c1]; exact no
    rw [if_neg c1, if_neg c1]
    by_cases c2 : h > 18
    · rw [if_pos c2, if_pos c2]; exact no
    rw [if_neg c2, if_neg c2]
    by_cases c3 : c < 0
    · rw [if_pos c3, if_pos c3]; exact no
    rw [if_neg c3, if_neg c3]
    by_cases c4 : c > h
    · rw [if_pos c4, if_pos c4]; exact no
    rw [if_neg c4, if_neg c4]
    have w : wrap64 (wrap64 (h - c) + 1) = h - c + 1 := by
      rw [show wrap64 (h - c) = h - c by unfold wrap64; omega]
      unfold wrap64; omega
    rw [w]
    by_cases c5 : (ls.length : Int) = h - c + 1
    · rw [show ((ls.length : Int) != h - c + 1) = false from bne_eq_false_iff_eq.mpr c5, tree_Valid.j0, attestorref07_Valid.j0, if_neg (by decide), if_neg (by decide)]
      obtain ⟨b, h1, h2, h3⟩ := valid_lb (f := f) (Int.not_lt.mp c3) (Int.not_lt.mp c4) (by omega) ls c5 hr ls.length 0 k (by omega) (by omega)
      exact ⟨b, h1, h2, fun hb => ⟨hv, by omega, by omega, by omega, c5, fun j hj => h3 hb j (Nat.zero_le _) hj⟩⟩
    · rw [show ((ls.length : Int) != h - c + 1) = true from bne_iff_ne.mpr c5]; exact no
  · rw [decide_eq_false hv, if_neg (by decide), if_neg (by decide)]; exact no
theorem cap_b (f h c : Int) (ls : List (List S36)) (hn : ls.length ≤ 8) (hr : ∀ r ∈ ls, r.length ≤ 1000) (k : Nat) (hk : 1200 < k) : ∃ l : List S36, l.length ≤ 1000 ∧ tree_Cap.f k f h c ls = some l ∧ attestorref07_Cap.f k f h c ls = some l := by
  obtain ⟨b, h1, h2, h3⟩ := valid_b f h c ls hn hr k hk
  unfold tree_Cap.f attestorref07_Cap.f
  rw [h1, h2, Option.bind_some, Option.bind_some]
  cases b with
  | false => rw [if_neg (by decide), if_neg (by decide)]; exact ⟨[], by simp, rfl, rfl⟩
  | true =>
    have V := h3 rfl
    have hpos : 0 < ls.length := by have := V.len; have := V.h1; omega
    have w : wrap64 ((ls.length : Int) - 1) = ((ls.length - 1 : Nat) : Int) := by unfold wrap64; omega
    have hrow : (rd_L3 ls ((ls.length - 1 : Nat) : Int)).length ≤ 1000 := by rw [rd_at (by omega)]; exact hr _ (List.getElem_mem _)
    rw [if_pos rfl, if_pos rfl, w, if_pos (by omega), if_pos (by omega), if_pos (by omega), if_pos (by omega), if_pos (by simp; omega)]
    exact ⟨_, hrow, bnd (clone_f _ (by omega)) rfl, by simp⟩
theorem take_take (ls : List (List S36)) : ((((ls.take 8).map (List.take 70)).take 8).map (List.take 70)) = (ls.take 8).map (List.take 70) := by
  rw [List.take_of_length_le (by simp; omega), List.map_map]
  congr 1
  funext l
  show List.take 70 (List.take 70 l) = List.take 70 l
  rw [List.take_take, Nat.min_self]
end Go.Proofs.YtpnpmeogffodgaaDoor.Q
end
section
namespace Go.Proofs.YtpnpmeogffodgaaDoor.Q
open Go.RowKit Go.Proofs.YtpnpmeogffodgaaDoorW.PrintWords Go.Proofs.YtpnpmeogffodgaaDoorW.PrintLast Go.Proofs.YtpnpmeogffodgaaDoorW.PrintMore
attribute [local go_sem] max2_int min2_int max_two min_two max_three min_three max_four min_four run_store_fnV run_store_fnc run_store_nfn   -- for this text's walks alone
set_option linter.unusedVariables false
set_option linter.unusedSimpArgs false

abbrev z14_0_ : Array Bool := #[false, false, false, false, false, false, false, false, false, false, false, false, false, false, false]
abbrev z14_1_ : Array Bool := #[true, false, false, false, false, false, false, false, false, false, false, false, false, false, false]
abbrev z14_2_ : Array Bool := #[true, true, false, false, false, false, false, false, false, false, false, false, false, false, false]
abbrev z14_3_ : Array Bool := #[true, true, true, false, false, false, false, false, false, false, false, false, false, false, false]
abbrev z14_4_ : Array Bool := #[true, true, true, true, false, false, false, false, false, false, false, false, false, false, false]
abbrev z14_5_ : Array Bool := #[true, true, true, true, true, false, false, false, false, false, false, false, false, false, false]
abbrev z14_6_ : Array Bool := #[true, true, true, true, true, false, true, false, false, false, false, false, false, false, false]
abbrev z14_7_ : Array Bool := #[true, true, true, true, true, false, true, true, false, false, false, false, false, false, false]
abbrev z14_8_ : Array Bool := #[true, true, true, true, true, false, true, true, true, false, false, false, false, false, false]
abbrev z14_9_ : Array Bool := #[true, true, true, true, true, false, true, true, true, true, false, false, false, false, false]
abbrev z14_10_ : Array Bool := #[true, true, true, true, true, true, true, true, true, true, false, false, false, false, false]
abbrev z14_11_ : Array Bool := #[true, true, true, true, true, true, true, true, true, true, true, false, false, false, false]
abbrev z14_12_ : Array Bool := #[true, true, true, true, true, true, true, true, true, true, true, true, false, false, false]
abbrev z14_13_ : Array Bool := #[true, true, true, true, true, true, true, true, true, true, true, true, true, false, false]
abbrev z14_14_ : Array Bool := #[true, true, true, true, true, true, true, true, true, true, true, true, true, true, false]
abbrev z14_15_ : Array Bool := #[true, true, true, true, true, true, true, true, true, true, true, true, true, true, true]
/-! ### attestorref07_Build: function 14 -/
mutual
def attestorref07_Build.j0 : Nat → Int → List (S36) → Int → Int → Bool → Option (Int × Int × Int × (List (List (S36))) × Int)
  | 0, _, _, _, _, _ => none
  | k + 1, x0, x1, x2, x8, x31 => if x31 = true then (some (0, 0, 0, ([] : List (List (S36))), 1)) else ((attestorref07_All.f k x0 x1).bind fun t551 => (if t551 = true then (if ([] : List (S36)).length + x1.length < 8796093022208 then ((some (([] : List (S36)) ++ x1 : List (S36))).bind fun y553 => (if ([] : List (List (S36))).length < 5864062014805 then (attestorref07_Build.l0 k x0 x2 y553 x0 x8 x2 (([] : List (List (S36))) ++ [y553])) else (none))) else (none)) else (some (0, 0, 0, ([] : List (List (S36))), 2))))
def attestorref07_Build.l0 : Nat → Int → Int → List (S36) → Int → Int → Int → List (List (S36)) → Option (Int × Int × Int × (List (List (S36))) × Int)
  | 0, _, _, _, _, _, _, _ => none
  | k + 1, x0, x2, x10, x553000, x553001, x553002, x553003 => if 0 ≤ x2 then (if (x10.length : Int) > (shl .i64 1 x2) then (attestorref07_Build.l1 k x0 x2 x10 ([] : List (S36)) 0 x553000 x553001 x553002 x553003) else (some (x553000, x553001, x553002, x553003, 0))) else (none)
def attestorref07_Build.l1 : Nat → Int → Int → List (S36) → List (S36) → Int → Int → Int → Int → List (List (S36)) → Option (Int × Int × Int × (List (List (S36))) × Int)
  | 0, _, _, _, _, _, _, _, _, _ => none
  | k + 1, x0, x2, x10, x11, x12, x553000, x553001, x553002, x553003 => if x12 < (x10.length : Int) then (if 0 ≤ x12 then (if 0 ≤ (wrap64 (x12 + 1)) then (if (wrap64 (x12 + 1)) < (x10.length : Int) then ((attestorref06_Node.f k x0 ((rd_T36 x10 x12).f0) ((rd_T36 x10 x12).f1) ((rd_T36 x10 (wrap64 (x12 + 1))).f0) ((rd_T36 x10 (wrap64 (x12 + 1))).f1)).bind fun bt561 => (if x11.length < 8796093022208 then (attestorref07_Build.l1 k x0 x2 x10 (x11 ++ [(⟨bt561.1, bt561.2⟩ : S36)]) (wrap64 (x12 + 2)) x553000 x553001 x553002 x553003) else (none))) else (none)) else (none)) else (none)) else (if x553003.length < 5864062014805 then (attestorref07_Build.l0 k x0 x2 x11 x553000 x553001 x553002 (x553003 ++ [x11])) else (none))
end
def attestorref07_Build.f (k : Nat) (a0 : Int) (l1 : List (S36)) (a2 : Int) : Option (Int × Int × Int × (List (List (S36))) × Int) := (attestorref07_Log.f k (l1.length : Int)).bind fun t549 => ((attestorref01_Valid.f a0).bind fun t550 => (if t550 = true then (if t549 < 0 then (attestorref07_Build.j0 k a0 l1 a2 t549 true) else (if a2 < 0 then (attestorref07_Build.j0 k a0 l1 a2 t549 true) else (attestorref07_Build.j0 k a0 l1 a2 t549 (decide (a2 > t549))))) else (attestorref07_Build.j0 k a0 l1 a2 t549 true)))
theorem attestorref07_Build.mono_l : ∀ k, (∀ y0 y1 y2 y3 y4, LeO (attestorref07_Build.j0 k y0 y1 y2 y3 y4) (attestorref07_Build.j0 (k + 1) y0 y1 y2 y3 y4)) ∧ (∀ y0 y1 y2 y3 y4 y5 y6, LeO (attestorref07_Build.l0 k y0 y1 y2 y3 y4 y5 y6) (attestorref07_Build.l0 (k + 1) y0 y1 y2 y3 y4 y5 y6)) ∧ (∀ y0 y1 y2 y3 y4 y5 y6 y7 y8, LeO (attestorref07_Build.l1 k y0 y1 y2 y3 y4 y5 y6 y7 y8) (attestorref07_Build.l1 (k + 1) y0 y1 y2 y3 y4 y5 y6 y7 y8))
  | 0 => ⟨fun _ _ _ _ _ r h => by simp [attestorref07_Build.j0] at h, fun _ _ _ _ _ _ _ r h => by simp [attestorref07_Build.l0] at h, fun _ _ _ _ _ _ _ _ _ r h => by simp [attestorref07_Build.l1] at h⟩
  | k + 1 => by
    obtain ⟨ih0, ih1, ih2⟩ := attestorref07_Build.mono_l k
    refine ⟨?_, ?_, ?_⟩
    · intro y0 y1 y2 y3 y4
      unfold attestorref07_Build.j0
      repeat' first
      | (with_reducible exact ih0 _ _ _ _ _)
      | (with_reducible exact ih1 _ _ _ _ _ _ _)
      | (with_reducible exact ih2 _ _ _ _ _ _ _ _ _)
      | (with_reducible exact attestorref06_Node.mono _ _ _ _ _ _)
      | (with_reducible exact attestorref07_All.mono _ _ _)
      | (with_reducible exact attestorref07_Log.mono _ _)
      | (with_reducible exact LeO.refl _)
      | (with_reducible exact LeO.none _)
      | (with_reducible refine LeO.ite ?_ ?_)
      | (with_reducible refine LeO.bind ?_ (fun _ => ?_))
      | exact ih0 _ _ _ _ _
      | exact ih1 _ _ _ _ _ _ _
      | exact ih2 _ _ _ _ _ _ _ _ _
      | exact attestorref06_Node.mono _ _ _ _ _ _
      | exact attestorref07_All.mono _ _ _
      | exact attestorref07_Log.mono _ _
      | exact LeO.none _
      | refine LeO.ite ?_ ?_
      | refine LeO.bind ?_ (fun _ => ?_)
    · intro y0 y1 y2 y3 y4 y5 y6
      unfold attestorref07_Build.l0
      repeat' first
      | (with_reducible exact ih0 _ _ _ _ _)
      | (with_reducible exact ih1 _ _ _ _ _ _ _)
      | (with_reducible exact ih2 _ _ _ _ _ _ _ _ _)
      | (with_reducible exact attestorref06_Node.mono _ _ _ _ _ _)
      | (with_reducible exact attestorref07_All.mono _ _ _)
      | (with_reducible exact attestorref07_Log.mono _ _)
      | (with_reducible exact LeO.refl _)
      | (with_reducible exact LeO.none _)
      | (with_reducible refine LeO.ite ?_ ?_)
      | (with_reducible refine LeO.bind ?_ (fun _ => ?_))
      | exact ih0 _ _ _ _ _
      | exact ih1 _ _ _ _ _ _ _
      | exact ih2 _ _ _ _ _ _ _ _ _
      | exact attestorref06_Node.mono _ _ _ _ _ _
      | exact attestorref07_All.mono _ _ _
      | exact attestorref07_Log.mono _ _
      | exact LeO.none _
      | refine LeO.ite ?_ ?_
      | refine LeO.bind ?_ (fun _ => ?_)
    · intro y0 y1 y2 y3 y4 y5 y6 y7 y8
      unfold attestorref07_Build.l1
      repeat' first
      | (with_reducible exact ih0 _ _ _ _ _)
      | (with_reducible exact ih1 _ _ _ _ _ _ _)
      | (with_reducible exact ih2 _ _ _ _ _ _ _ _ _)
      | (with_reducible exact attestorref06_Node.mono _ _ _ _ _ _)
      | (with_reducible exact attestorref07_All.mono _ _ _)
      | (with_reducible exact attestorref07_Log.mono _ _)
      | (with_reducible exact LeO.refl _)
      | (with_reducible exact LeO.none _)
      | (with_reducible refine LeO.ite ?_ ?_)
      | (with_reducible refine LeO.bind ?_ (fun _ => ?_))
      | exact ih0 _ _ _ _ _
      | exact ih1 _ _ _ _ _ _ _
      | exact ih2 _ _ _ _ _ _ _ _ _
      | exact attestorref06_Node.mono _ _ _ _ _ _
      | exact attestorref07_All.mono _ _ _
      | exact attestorref07_Log.mono _ _
      | exact LeO.none _
      | refine LeO.ite ?_ ?_
      | refine LeO.bind ?_ (fun _ => ?_)
theorem attestorref07_Build.mono : ∀ a0 a1 a2 k, LeO (attestorref07_Build.f k a0 a1 a2) (attestorref07_Build.f (k + 1) a0 a1 a2) := by
  intro a0 a1 a2 k
  obtain ⟨ih0, ih1, ih2⟩ := attestorref07_Build.mono_l k
  unfold attestorref07_Build.f
  repeat' first
      | (with_reducible exact ih0 _ _ _ _ _)
      | (with_reducible exact ih1 _ _ _ _ _ _ _)
      | (with_reducible exact ih2 _ _ _ _ _ _ _ _ _)
      | (with_reducible exact attestorref06_Node.mono _ _ _ _ _ _)
      | (with_reducible exact attestorref07_All.mono _ _ _)
      | (with_reducible exact attestorref07_Log.mono _ _)
      | (with_reducible exact LeO.refl _)
      | (with_reducible exact LeO.none _)
      | (with_reducible refine LeO.ite ?_ ?_)
      | (with_reducible refine LeO.bind ?_ (fun _ => ?_))
      | exact ih0 _ _ _ _ _
      | exact ih1 _ _ _ _ _ _ _
      | exact ih2 _ _ _ _ _ _ _ _ _
      | exact attestorref06_Node.mono _ _ _ _ _ _
      | exact attestorref07_All.mono _ _ _
      | exact attestorref07_Log.mono _ _
      | exact LeO.none _
      | refine LeO.ite ?_ ?_
      | refine LeO.bind ?_ (fun _ => ?_)
def attestorref07_Build.T15 : Bool × List (List Nat × List Nat) := (true, [([], []), ([], []), ([], []), ([], []), ([2, 3], [2, 3]), ([4], [4]), ([], []), ([], []), ([7], [7]), ([6, 8], [6, 8]), ([9], [9]), ([1, 5, 10], [1, 5, 10]), ([11], [11]), ([0, 12, 11], [0, 12]), ([13, 13, 0, 1, 2, 3, 4, 5, 6, 7, 8, 9, 10, 11, 12, 13], [0, 13])])
def attestorref07_Build.B15 : List Nat := [0, 0, 0, 0, 12, 28, 0, 0, 128, 448, 960, 2046, 4094, 8191, 16383]
theorem attestorref07_Build.tab15 : rtab .any (opsOf Tryd.f14 15) = attestorref07_Build.T15 := by kernel_rfl
theorem attestorref07_Build.bits15 : waitsOk attestorref07_Build.T15.2 attestorref07_Build.B15 = true := by kernel_rfl
set_option maxHeartbeats 8000000 in
set_option maxRecDepth 100000 in
theorem attestorref07_Build.calls (k : Nat) (a0 : Int) (A1 : Option Addr) (c1 : Nat) (l1 : List (S36)) (a2 : Int) (r1 : Int) (r2 : Int) (r3 : Int) (r4 : List (List (S36))) (r5 : Int) (w : World) (hr1 : Kd.C k36 w A1 l1.length l1) (hc1 : l1.length ≤ c1) (h : attestorref07_Build.f k a0 l1 a2 = some (r1, r2, r3, r4, r5)) :
  Calls Tryd.prog 14 #[.int .i64 a0, .slice A1 l1.length c1, .int .i64 a2] w fun e w' => ∃ v3_ : Value, e = .returned (.tuple #[.agg #[.int .i64 r1, .int .i64 r2, .int .i64 r3, v3_], .int .i64 r5]) ∧ Kd.S (Kd.slice 36 k36) 22 w' w.heap.size (fun _ => True) v3_ r4 ∧ Below w.heap.size w w' := by
 have hu26 := Tryd.underlying26
 have hu36 := Tryd.underlying36
 have HR1 := aj hr1
 have HC1 := aj hc1
 clear hr1 hc1
 have HB := aj (Below.refl w.heap.size w)
 have H : ((attestorref07_Log.f k (l1.length : Int)).bind fun t549 => ((attestorref01_Valid.f a0).bind fun t550 => (if t550 = true then (if t549 < 0 then (attestorref07_Build.j0 k a0 l1 a2 t549 true) else (if a2 < 0 then (attestorref07_Build.j0 k a0 l1 a2 t549 true) else (attestorref07_Build.j0 k a0 l1 a2 t549 (decide (a2 > t549))))) else (attestorref07_Build.j0 k a0 l1 a2 t549 true)))) = some (r1, r2, r3, r4, r5) := h
 clear h
 replace H := Option.bind_eq_some_iff.mp H
 obtain ⟨t549, A40, H⟩ := H
 have A4 := aj A40
 clear A40
 have HC5 := aj H
 clear H
 go_enter Tryd.func14, Tryd.ntmps14
 go_upto_region 2 with (first | ((with_reducible refine gate_dst (N := 6) rfl ?_); refine box_event ?hg (N := 6) ?hd (cs := #[.int .i64 0, .int .i64 0, .int .i64 0, .slice none 0 0]) (t := 26) ?hr ?_; (case hd => rfl); (case hg => rfl); (case hr => first | (go_simp; done) | (go_simp; rfl)); intro g548 hg w6 hbox hb; have n0_ := aj (below_step HB.out hb); have n1_ := aj (hbox); have n3_ := aj ((by rw [hg]; exact (below_size HB.out) : w.heap.size ≤ g548)); clear HB; have HB := n0_; have B548 := n1_; have GE548 := n3_; clear n0_ n1_ n3_; clear hb hbox hg) | ((with_reducible refine gate_callee (f := 41) rfl ?_); refine goesL_ (some 15) rfl rfl Tryd.func41 (by kernel_rfl) rfl #[.int .i64 (l1.length : Int)] rfl (by (try simp only [List.map_toArray, List.map_cons, List.map_nil]); first | done | rfl | (go_simp; done)) ?_; (with_reducible refine (attestorref07_Log.calls k (l1.length : Int) t549 _ A4.out).mono ?_); rintro e w' ⟨rfl, ⟨nd, rfl⟩⟩; refine ⟨_, rfl, ?_⟩))
 (try simp only [Act.put, sa_, sb_, sc_])
 go_cut [31] (fun v31 wc => ∃ (kq : Nat) (x31_4 : Bool), v31 = .bool x31_4 ∧ Aside0 (attestorref07_Build.j0 kq a0 l1 a2 t549 x31_4 = some (r1, r2, r3, r4, r5)) ∧ Aside0 (kq ≤ k) ∧ Aside0 (wc.heap[g548]? = some (.cells #[.int .i64 0, .int .i64 0, .int .i64 0, (.slice none 0 0)] 26 (0, 0))) ∧ Aside0 (Below w.heap.size w wc))
 case first =>
  have H := HC5.out
  clear HC5
  replace H := Option.bind_eq_some_iff.mp H
  obtain ⟨t550, A70, H⟩ := H
  have A7 := aj A70
  clear A70
  by_cases c8 : t550 = true
  ·subst c8
   have H1 : (if t549 < 0 then (attestorref07_Build.j0 k a0 l1 a2 t549 true) else (if a2 < 0 then (attestorref07_Build.j0 k a0 l1 a2 t549 true) else (attestorref07_Build.j0 k a0 l1 a2 t549 (decide (a2 > t549))))) = some (r1, r2, r3, r4, r5) := by rw [if_pos rfl] at H; exact H
   clear H
   have H := H1
   clear H1
   by_cases c9 : t549 < 0
   ·rw [if_pos c9] at H
    have c9b0 : decide (t549 < 0) = true := decide_eq_true c9
    clear c9
    (first | rw [c9b0] | (simp only [i64_w, i32_w]; rw [c9b0]) | skip)
    have H' := aj H
    clear H
    go_wp2_with (first | ((with_reducible refine gate_callee (f := 42) rfl ?_); refine goesL_ (some 17) rfl rfl Tryd.func42 (by kernel_rfl) rfl #[.int .i64 a0] rfl (by (try simp only [List.map_toArray, List.map_cons, List.map_nil]); first | done | rfl | (go_simp; done)) ?_; (with_reducible refine (attestorref01_Valid.calls a0 true _ A7.out).mono ?_); rintro e w' ⟨rfl, ⟨nd, rfl⟩⟩; refine ⟨_, rfl, ?_⟩))
    go_meet
    case rel => exact ⟨_, (true), (by first | rfl | simp), H', ⟨by first | omega | exact Nat.le_refl _⟩, ⟨by exact B548.out⟩, ⟨(by first | exact HB.out | exact below_drew1 HB.out | exact pw_below_drewN HB.out _)⟩⟩
   ·rw [if_neg c9] at H
    have c9b0 : decide (t549 < 0) = false := decide_eq_false c9
    clear c9
    (first | rw [c9b0] | (simp only [i64_w, i32_w]; rw [c9b0]) | skip)
    by_cases c10 : a2 < 0
    ·rw [if_pos c10] at H
     have c10b0 : decide (a2 < 0) = true := decide_eq_true c10
     clear c10
     have H' := aj H
     clear H
     go_wp2_with (first | ((with_reducible refine gate_callee (f := 42) rfl ?_); refine goesL_ (some 17) rfl rfl Tryd.func42 (by kernel_rfl) rfl #[.int .i64 a0] rfl (by (try simp only [List.map_toArray, List.map_cons, List.map_nil]); first | done | rfl | (go_simp; done)) ?_; (with_reducible refine (attestorref01_Valid.calls a0 true _ A7.out).mono ?_); rintro e w' ⟨rfl, ⟨nd, rfl⟩⟩; refine ⟨_, rfl, ?_⟩))
     go_meet
     case rel => exact ⟨_, (true), (by first | rfl | simp), H', ⟨by first | omega | exact Nat.le_refl _⟩, ⟨by exact B548.out⟩, ⟨(by first | exact HB.out | exact below_drew1 HB.out | exact pw_below_drewN HB.out _)⟩⟩
    ·rw [if_neg c10] at H
     have c10b0 : decide (a2 < 0) = false := decide_eq_false c10
     clear c10
     have H' := aj H
     clear H
     go_wp2_with (first | ((with_reducible refine gate_callee (f := 42) rfl ?_); refine goesL_ (some 17) rfl rfl Tryd.func42 (by kernel_rfl) rfl #[.int .i64 a0] rfl (by (try simp only [List.map_toArray, List.map_cons, List.map_nil]); first | done | rfl | (go_simp; done)) ?_; (with_reducible refine (attestorref01_Valid.calls a0 true _ A7.out).mono ?_); rintro e w' ⟨rfl, ⟨nd, rfl⟩⟩; refine ⟨_, rfl, ?_⟩))
     go_meet
     case rel => exact ⟨_, (decide (a2 > t549)), (by first | rfl | simp), H', ⟨by first | omega | exact Nat.le_refl _⟩, ⟨by exact B548.out⟩, ⟨(by first | exact HB.out | exact below_drew1 HB.out | exact pw_below_drewN HB.out _)⟩⟩
  ·replace c8 := Bool.eq_false_iff.mpr c8
   subst c8
   have H1 : (attestorref07_Build.j0 k a0 l1 a2 t549 true) = some (r1, r2, r3, r4, r5) := by rw [if_neg (show ¬ (false = true) by decide)] at H; exact H
   clear H
   have H := H1
   clear H1
   have H' := aj H
   clear H
   go_wp2_with (first | ((with_reducible refine gate_callee (f := 42) rfl ?_); refine goesL_ (some 17) rfl rfl Tryd.func42 (by kernel_rfl) rfl #[.int .i64 a0] rfl (by (try simp only [List.map_toArray, List.map_cons, List.map_nil]); first | done | rfl | (go_simp; done)) ?_; (with_reducible refine (attestorref01_Valid.calls a0 false _ A7.out).mono ?_); rintro e w' ⟨rfl, ⟨nd, rfl⟩⟩; refine ⟨_, rfl, ?_⟩))
   go_meet
   case rel => exact ⟨_, (true), (by first | rfl | simp), H', ⟨by first | omega | exact Nat.le_refl _⟩, ⟨by exact B548.out⟩, ⟨(by first | exact HB.out | exact below_drew1 HB.out | exact pw_below_drewN HB.out _)⟩⟩
 case rest =>
  clear HC5
  obtain ⟨kq, x31_4, rfl, HA, HJ4, B548, HB⟩ := hcut
  cases kq with
  | zero => exact absurd HA.out (by simp [attestorref07_Build.j0])
  | succ kj4 =>
   have H := HA.out
   clear HA
   simp only [attestorref07_Build.j0] at H
   by_cases c11 : x31_4 = true
   ·subst c11
    have H1 : (some (0, 0, 0, ([] : List (List (S36))), 1)) = some (r1, r2, r3, r4, r5) := by rw [if_pos rfl] at H; exact H
    clear H
    have H := H1
    clear H1
    simp only [Option.some.injEq, Prod.mk.injEq] at H
    obtain ⟨rfl, rfl, rfl, rfl, rfl⟩ := H
    have hcz12_0 : wc.cell? ⟨g548, 0, none⟩ = some (.int .i64 0) := bq_ B548 0
    have hcz12_1 : wc.cell? ⟨g548, 1, none⟩ = some (.int .i64 0) := bq_ B548 1
    have hcz12_2 : wc.cell? ⟨g548, 2, none⟩ = some (.int .i64 0) := bq_ B548 2
    have hcz12_3 : wc.cell? ⟨g548, 3, none⟩ = some (.slice none 0 0) := bq_ B548 3
    have hfz12_0 := blk_frozen B548.out 0
    have hfz12_1 := blk_frozen B548.out 1
    have hfz12_2 := blk_frozen B548.out 2
    have hfz12_3 := blk_frozen B548.out 3
    go_wp2
    refine bodyPost_ret (results_ct rfl _ _ g548 26 #[.int .i64 0, .int .i64 0, .int .i64 0, .slice none 0 0] (0, 0) _ rfl (by refine blk_put (cs := #[.int .i64 0, .int .i64 0, .int .i64 0, .slice none 0 0]) ?_ 3 _ rfl; refine blk_put (cs := #[.int .i64 0, .int .i64 0, .int .i64 0, .slice none 0 0]) ?_ 2 _ rfl; refine blk_put (cs := #[.int .i64 0, .int .i64 0, .int .i64 0, .slice none 0 0]) ?_ 1 _ rfl; refine blk_put (cs := #[.int .i64 0, .int .i64 0, .int .i64 0, .slice none 0 0]) ?_ 0 _ rfl; exact B548.out) Tryd.underlying26 rfl (by kernel_rfl)) rfl ?_
    exact ⟨_, by first | rfl | (simp [errW_none, errW_some] <;> rfl) | (simp [*, errW_none, errW_some] <;> rfl), by first | exact Kd.S_nil _ _ _ _ _ | exact Kd.N_nil _ _ _ _ _ | exact Kd.V_nil _ _ _ _ _ | exact Kd.Q_nil _ _ _ _ _ | exact Kd.R_nil _ _ _ _ _, by repeat (first | (with_reducible first | exact HB.out | apply below_alloc | apply pw_below_drewN | apply below_drew1 | refine below_set ?_ GE548.out) | exact HB.out)⟩
   ·replace c11 := Bool.eq_false_iff.mpr c11
    subst c11
    have H1 : ((attestorref07_All.f kj4 a0 l1).bind fun t551 => (if t551 = true then (if ([] : List (S36)).length + l1.length < 8796093022208 then ((some (([] : List (S36)) ++ l1 : List (S36))).bind fun y553 => (if ([] : List (List (S36))).length < 5864062014805 then (attestorref07_Build.l0 kj4 a0 a2 y553 a0 t549 a2 (([] : List (List (S36))) ++ [y553])) else (none))) else (none)) else (some (0, 0, 0, ([] : List (List (S36))), 2)))) = some (r1, r2, r3, r4, r5) := by rw [if_neg (show ¬ (false = true) by decide)] at H; exact H
    clear H
    have H := H1
    clear H1
    replace H := Option.bind_eq_some_iff.mp H
    obtain ⟨t551, A130, H⟩ := H
    have A13 := aj A130
    clear A130
    by_cases c14 : t551 = true
    ·subst c14
     have H1 : (if ([] : List (S36)).length + l1.length < 8796093022208 then ((some (([] : List (S36)) ++ l1 : List (S36))).bind fun y553 => (if ([] : List (List (S36))).length < 5864062014805 then (attestorref07_Build.l0 kj4 a0 a2 y553 a0 t549 a2 (([] : List (List (S36))) ++ [y553])) else (none))) else (none)) = some (r1, r2, r3, r4, r5) := by rw [if_pos rfl] at H; exact H
     clear H
     have H := H1
     clear H1
     by_cases c15 : ([] : List (S36)).length + l1.length < 8796093022208
     ·rw [if_pos c15] at H
      have LMc15 := aj c15
      clear c15
      obtain ⟨y553, hy553⟩ : ∃ y_ : List (S36), y_ = (([] : List (S36)) ++ l1) := ⟨_, rfl⟩
      replace H : (if ([] : List (List (S36))).length < 5864062014805 then (attestorref07_Build.l0 kj4 a0 a2 y553 a0 t549 a2 (([] : List (List (S36))) ++ [y553])) else (none)) = some (r1, r2, r3, r4, r5) := by first | (rw [hy553]; with_reducible exact H) | (have H2_ := (Option.bind_some _ _).symm.trans H; rw [hy553]; with_reducible exact H2_) | (have H2_ := (Option.bind_some _ _).symm.trans H; with_reducible exact H2_) | with_reducible exact H | (rw [hy553]; exact H) | exact H
      have Ny553 := aj hy553
      clear hy553
      by_cases c16 : ([] : List (List (S36))).length < 5864062014805
      ·rw [if_pos c16] at H
       have LMc16 := aj c16
       clear c16
       obtain ⟨y556, hy556⟩ : ∃ y_ : List (List (S36)), y_ = (([] : List (List (S36))) ++ [y553]) := ⟨_, rfl⟩
       (first | rw [← hy556] at H | simp only [← hy556] at H)
       have Ny556 := aj hy556
       clear hy556
       have H' := aj H
       clear H
       go_wp2_with (first | ((with_reducible refine gate_callee (f := 43) rfl ?_); refine goesL_ (some 35) rfl rfl Tryd.func43 (by kernel_rfl) rfl #[.int .i64 a0, .slice A1 l1.length c1] rfl (by (try simp only [List.map_toArray, List.map_cons, List.map_nil]); first | done | rfl | (go_simp; done)) ?_; (with_reducible refine (attestorref07_All.calls kj4 a0 _ _ l1 true _ ?side1 ?side2 A13.out).mono ?_); (case side1 => exact (Kd.C_below HR1.out HB.out)); (case side2 => exact HC1.out); rintro e w17 ⟨rfl, hb⟩; refine ⟨_, rfl, ?_⟩; have n0_ := aj (blk_below (g := g548) (o := .cells #[.int .i64 0, .int .i64 0, .int .i64 0, .slice none 0 0] 26 (0, 0)) B548.out hb); have n1_ := aj (below_step (by repeat (first | (with_reducible first | exact HB.out | apply below_alloc | apply pw_below_drewN | apply below_drew1 | refine below_set ?_ GE548.out) | exact HB.out)) hb); clear B548; clear HB; have B548 := n0_; have HB := n1_; clear n0_ n1_; (try clear hb); (try clear hb2); (try clear hk); (try clear hi)) | ((with_reducible refine gate_dst (N := 9) rfl ?_); refine box_event ?hg (N := 9) ?hd (cs := #[.int .i64 0, .int .i64 0, .int .i64 0, .slice none 0 0]) (t := 26) ?hr ?_; (case hd => rfl); (case hg => rfl); (case hr => first | (go_simp; done) | (go_simp; rfl)); intro g552 hg w18 hbox hb; have n0_ := aj (blk_below (g := g548) (o := .cells #[.int .i64 0, .int .i64 0, .int .i64 0, .slice none 0 0] 26 (0, 0)) B548.out hb); have n1_ := aj (below_step (by repeat (first | (with_reducible first | exact HB.out | apply below_alloc | apply pw_below_drewN | apply below_drew1 | refine below_set ?_ GE548.out) | exact HB.out)) hb); have n2_ := aj (hbox); have n4_ := aj ((by rw [hg]; exact (below_size (by repeat (first | (with_reducible first | exact HB.out | apply below_alloc | apply pw_below_drewN | apply below_drew1 | refine below_set ?_ GE548.out) | exact HB.out))) : w.heap.size ≤ g552)); have n5_ := aj ((by rw [hg]; exact Nat.ne_of_lt (blk_lt (g := g548) (o := .cells #[.int .i64 0, .int .i64 0, .int .i64 0, .slice none 0 0] 26 (0, 0)) B548.out) : g548 ≠ g552)); have n6_ := aj ((by rw [hg]; exact Nat.ne_of_gt (blk_lt (g := g548) (o := .cells #[.int .i64 0, .int .i64 0, .int .i64 0, .slice none 0 0] 26 (0, 0)) B548.out) : g552 ≠ g548)); clear B548; clear HB; have B548 := n0_; have HB := n1_; have B552 := n2_; have GE552 := n4_; have NB548_552 := n5_; have NB552_548 := n6_; clear n0_ n1_ n2_ n4_ n5_ n6_; clear hb hbox hg; have hnb19 := NB552_548.out; have hnc19 := NB548_552.out; have hcz20_0 : w18.cell? ⟨g552, 0, none⟩ = some (.int .i64 0) := bq_ B552 0; have hcz20_1 : w18.cell? ⟨g552, 1, none⟩ = some (.int .i64 0) := bq_ B552 1; have hcz20_2 : w18.cell? ⟨g552, 2, none⟩ = some (.int .i64 0) := bq_ B552 2; have hcz20_3 : w18.cell? ⟨g552, 3, none⟩ = some (.slice none 0 0) := bq_ B552 3; have hfz20_0 := blk_frozen B552.out 0; have hfz20_1 := blk_frozen B552.out 1; have hfz20_2 := blk_frozen B552.out 2; have hfz20_3 := blk_frozen B552.out 3) | ((with_reducible refine gate_builtin (b := .append) (xs := #[.tmp 42, .tmp 43]) rfl ?_); at_builtin; refine Kd.R_append_rows k36 (w0 := w) w.heap.size rfl (.tmp 42) (.tmp 43) 22 36 (.agg #[(.int .u64 0), (.int .u64 0)]) 16 rfl Tryd.underlying22 info36 rfl (by decide) (by omega) (.slice none 0 0) ([] : List (S36)) l1 _ _ _ (fun _ => True) (fun _ => False) rfl rfl ?aO ?aR (fun _ _ h => h) (fun _ h => h.elim) ?aF ?aB ?aS ?aL ?_; (case aR => exact Kd.C_below HR1.out (by repeat (first | (with_reducible first | exact HB.out | apply below_alloc | apply pw_below_drewN | apply below_drew1 | refine below_set ?_ GE548.out | refine below_set ?_ GE552.out) | exact HB.out))); (case aB => exact (by repeat (first | (with_reducible first | exact HB.out | apply below_alloc | apply pw_below_drewN | apply below_drew1 | refine below_set ?_ GE548.out | refine below_set ?_ GE552.out) | exact HB.out))); (case aF => exact (fun _ _ => trivial)); (case aO => exact ((Kd.R_nil _ _ _ _ (fun _ => True)))); (case aS => exact (below_size (by repeat (first | (with_reducible first | exact HB.out | apply below_alloc | apply pw_below_drewN | apply below_drew1 | refine below_set ?_ GE548.out | refine below_set ?_ GE552.out) | exact HB.out)))); (case aL => have := LMc15.out; omega); intro v554 w21 ho hb hg hat; rw [← Ny553.out] at ho; have n0_ := aj (blk_grown (g := g548) (o := .cells #[.int .i64 0, .int .i64 0, .int .i64 0, .slice none 0 0] 26 (0, 0)) (by refine blk_far ?_ NB548_552.out _; refine blk_far ?_ NB548_552.out _; refine blk_far ?_ NB548_552.out _; refine blk_far ?_ NB548_552.out _; exact B548.out) hg (by simp [Value.ownBlock])); have n1_ := aj (blk_grown (g := g552) (o := .cells #[.int .i64 a0, .int .i64 t549, .int .i64 a2, .slice none 0 0] 26 (0, 0)) (by refine blk_put (cs := #[.int .i64 a0, .int .i64 t549, .int .i64 a2, .slice none 0 0]) ?_ 3 _ rfl; refine blk_put (cs := #[.int .i64 a0, .int .i64 t549, .int .i64 0, .slice none 0 0]) ?_ 2 _ rfl; refine blk_put (cs := #[.int .i64 a0, .int .i64 0, .int .i64 0, .slice none 0 0]) ?_ 1 _ rfl; refine blk_put (cs := #[.int .i64 0, .int .i64 0, .int .i64 0, .slice none 0 0]) ?_ 0 _ rfl; exact B552.out) hg (by simp [Value.ownBlock])); have n2_ := aj (hb); have n3_ := aj (ho); clear B548; clear B552; clear HB; have B548 := n0_; have B552 := n1_; have HB := n2_; have HO555 := n3_; clear n0_ n1_ n2_ n3_; clear ho hb hg hat; have hcz22_0 : w21.cell? ⟨g552, 0, none⟩ = some (.int .i64 a0) := bq_ B552 0; have hcz22_1 : w21.cell? ⟨g552, 1, none⟩ = some (.int .i64 t549) := bq_ B552 1; have hcz22_2 : w21.cell? ⟨g552, 2, none⟩ = some (.int .i64 a2) := bq_ B552 2; have hcz22_3 : w21.cell? ⟨g552, 3, none⟩ = some (.slice none 0 0) := bq_ B552 3; have hfz22_0 := blk_frozen B552.out 0; have hfz22_1 := blk_frozen B552.out 1; have hfz22_2 := blk_frozen B552.out 2; have hfz22_3 := blk_frozen B552.out 3; obtain ⟨Ao24, co24, eo24⟩ := Kd.R_slice HO555.out; subst eo24) | ((with_reducible refine gate_builtin (b := .append) (xs := #[.tmp 46, .tmp 48]) rfl ?_); at_builtin; refine Kd.S_append (Kd.slice 36 k36) (w0 := w) w.heap.size rfl (.tmp 46) (.tmp 48) 24 22 (.slice none 0 0) 24 rfl Tryd.underlying24 info22 rfl (by decide) (by omega) (.slice none 0 0) ([] : List (List (S36))) y553 [.slice Ao24 y553.length co24] (fun _ => True) (fun k_ => some k_ = (.slice Ao24 y553.length co24 : Value).ownBlock) rfl rfl ?aP (fun k_ hk_ => ((Kd.R_mono (ok' := fun k_ => ((fun _ => True)) k_ ∧ some k_ ≠ (.slice none 0 0 : Value).ownBlock) (HO555.out) (fun k_ hk => ⟨trivial, (by simp [Value.ownBlock])⟩))).1 k_ hk_.symm) ?aF ?aO ?aB ?aS ?aL ?_; (case aP => exact Kd.M_row (Kd.R_mono (Kd.R_tight rfl (Kd.R_mono (ok' := fun k_ => ((fun _ => True)) k_ ∧ some k_ ≠ (.slice none 0 0 : Value).ownBlock) (HO555.out) (fun k_ hk => ⟨trivial, (by simp [Value.ownBlock])⟩))) (fun _ h_ => h_))); (case aB => exact (by repeat (first | (with_reducible first | exact HB.out | apply below_alloc | apply pw_below_drewN | apply below_drew1 | refine below_set ?_ GE548.out | refine below_set ?_ GE552.out) | exact HB.out))); (case aF => exact (fun _ _ => trivial)); (case aO => exact ((Kd.S_nil _ _ _ _ _))); (case aS => exact (below_size (by repeat (first | (with_reducible first | exact HB.out | apply below_alloc | apply pw_below_drewN | apply below_drew1 | refine below_set ?_ GE548.out | refine below_set ?_ GE552.out) | exact HB.out)))); (case aL => have := LMc16.out; omega); intro v557 w23 ho hb hg hat; rw [← Ny556.out] at ho; have n9_ := aj (Kd.R_over' (HO555.out) (Kd.S_typed (Kd.S_nil (Kd.slice 36 k36) 22 _ w.heap.size (fun _ => True))) (by decide) hg); have n0_ := aj (blk_grown (g := g548) (o := .cells #[.int .i64 0, .int .i64 0, .int .i64 0, .slice none 0 0] 26 (0, 0)) B548.out hg (by simp [Value.ownBlock])); have n1_ := aj (blk_grown (g := g552) (o := .cells #[.int .i64 a0, .int .i64 t549, .int .i64 a2, .slice none 0 0] 26 (0, 0)) B552.out hg (by simp [Value.ownBlock])); have n2_ := aj (hb); have n3_ := aj (ho); clear B548; clear B552; clear HB; clear HO555; have B548 := n0_; have B552 := n1_; have HB := n2_; have HO558 := n3_; clear n0_ n1_ n2_ n3_; have HO555 := n9_; clear n9_; clear ho hb hg hat; obtain ⟨Ao25, co25, eo25⟩ := Kd.S_slice HO558.out; subst eo25; have hcz26_0 : w23.cell? ⟨g552, 0, none⟩ = some (.int .i64 a0) := bq_ B552 0; have hcz26_1 : w23.cell? ⟨g552, 1, none⟩ = some (.int .i64 t549) := bq_ B552 1; have hcz26_2 : w23.cell? ⟨g552, 2, none⟩ = some (.int .i64 a2) := bq_ B552 2; have hcz26_3 : w23.cell? ⟨g552, 3, none⟩ = some (.slice none 0 0) := bq_ B552 3; have hfz26_0 := blk_frozen B552.out 0; have hfz26_1 := blk_frozen B552.out 1; have hfz26_2 := blk_frozen B552.out 2; have hfz26_3 := blk_frozen B552.out 3))
       go_loopg [10] kj4 (fun kq v10 w' => ∃ (x10_2 : List (S36)) (x553003_2 : List (List (S36))) (u553003 : Value), Aside0 (attestorref07_Build.l0 kq a0 a2 x10_2 a0 t549 a2 x553003_2 = some (r1, r2, r3, r4, r5)) ∧ Aside0 (kq ≤ kj4) ∧ Aside0 (Kd.R k36 36 w' w.heap.size (fun _ => True) v10 x10_2) ∧ Aside0 (Kd.S (Kd.slice 36 k36) 22 w' w.heap.size (fun _ => True) u553003 x553003_2) ∧ Aside0 (w'.heap[g548]? = some (.cells #[.int .i64 0, .int .i64 0, .int .i64 0, (.slice none 0 0)] 26 (0, 0))) ∧ Aside0 (w'.heap[g552]? = some (.cells #[.int .i64 a0, .int .i64 t549, .int .i64 a2, u553003] 26 (0, 0))) ∧ Aside0 (Below w.heap.size w w'))
       case atStart => exact ⟨(y553), (y556), (.slice Ao25 y556.length co25), H', ⟨Nat.le_refl _⟩, ⟨by (with_reducible repeat (first | apply Kd.R_alloc | apply Kd.R_drewN | apply Kd.R_drew)); exact Kd.R_mono (Kd.R_far (p := ⟨g552, 3, none⟩) (Kd.R_types HO555.out B552.out (by decide)) (fun _ hk => hk.2) (.slice Ao25 y556.length co25)) (fun _ hk => trivial)⟩, ⟨by (with_reducible repeat (first | apply Kd.S_alloc | apply Kd.S_drewN | apply Kd.S_drew)); exact Kd.S_mono (Kd.S_far (p := ⟨g552, 3, none⟩) (Kd.S_types HO558.out B552.out (by decide)) (fun _ hk => hk.2) (.slice Ao25 y556.length co25)) (fun _ hk => trivial)⟩, ⟨by refine blk_far ?_ NB548_552.out _; exact B548.out⟩, ⟨by refine blk_put (cs := #[.int .i64 a0, .int .i64 t549, .int .i64 a2, .slice none 0 0]) ?_ 3 _ rfl; exact B552.out⟩, ⟨by repeat (first | (with_reducible first | exact HB.out | apply below_alloc | apply pw_below_drewN | apply below_drew1 | refine below_set ?_ GE548.out | refine below_set ?_ GE552.out) | exact HB.out)⟩⟩
       case round =>
        clear H'
        obtain ⟨x10_2, x553003_2, u553003, HA, HK2, HO_10, HO_553003, B548, B552, HB⟩ := hrel
        cases gk with
        | zero => exact absurd HA.out (by simp [attestorref07_Build.l0])
        | succ k2 =>
         have H := HA.out
         clear HA
         simp only [attestorref07_Build.l0] at H
         by_cases c27 : 0 ≤ a2
         ·rw [if_pos c27] at H
          have c27b0 := eq_true c27
          have c27b1 : decide (0 ≤ a2) = true := decide_eq_true c27
          clear c27
          obtain ⟨ji28, hji28⟩ : ∃ j_ : Int, (shl .i64 1 a2) = j_ := ⟨_, rfl⟩
          replace H : (if (x10_2.length : Int) > (ji28) then (attestorref07_Build.l1 k2 a0 a2 x10_2 ([] : List (S36)) 0 a0 t549 a2 x553003_2) else (some (a0, t549, a2, x553003_2, 0))) = some (r1, r2, r3, r4, r5) := by first | (rw [hji28] at H; exact H) | (simp only [hji28] at H ⊢; exact H)
          have hji28_ : (IntKind.i64.wrap (1 * 2 ^ min a2.toNat 64)) = ji28 := hji28
          have hji28z : a2 ≤ 64 → (IntKind.i64.wrap (1 * 2 ^ a2.toNat)) = ji28 := shl_small hji28
          have hji28u : (IntKind.i64.wrap (2 ^ min a2.toNat 64)) = ji28 := by have h_ := hji28_; rw [Int.one_mul] at h_; exact h_
          have hji28v : a2 ≤ 64 → (IntKind.i64.wrap (2 ^ a2.toNat)) = ji28 := fun hle_ => by have h_ := hji28z hle_; rw [Int.one_mul] at h_; exact h_
          have hji28y : (wrap64 (1 * 2 ^ min a2.toNat 64)) = ji28 := (i64_w _).symm.trans hji28_
          have hji28x : a2 ≤ 64 → (wrap64 (1 * 2 ^ a2.toNat)) = ji28 := fun h_ => (i64_w _).symm.trans (hji28z h_)
          by_cases c29 : (x10_2.length : Int) > (ji28)
          ·rw [if_pos c29] at H
           have c29b0 : decide ((ji28) < (x10_2.length : Int)) = true := decide_eq_true c29
           clear c29
           have H' := aj H
           clear H
           obtain ⟨Ao30, co30, eo30⟩ := Kd.R_slice HO_10.out
           subst eo30
           go_wp2
           go_loopg [11, 12] k2 (fun kq v11 v12 w' => ∃ (x11_3 : List (S36)) (x12_3 : Int), v12 = .int .i64 x12_3 ∧ Aside0 (attestorref07_Build.l1 kq a0 a2 x10_2 x11_3 x12_3 a0 t549 a2 x553003_2 = some (r1, r2, r3, r4, r5)) ∧ Aside0 (kq ≤ k2) ∧ Aside0 (Kd.R k36 36 w' w.heap.size (fun k_ => some k_ ≠ (v11 : Value).ownBlock) (.slice Ao30 x10_2.length co30) x10_2) ∧ Aside0 (Kd.R k36 36 w' w.heap.size (fun k_ => some k_ ≠ ((.slice Ao30 x10_2.length co30) : Value).ownBlock) v11 x11_3) ∧ Aside0 (Kd.S (Kd.slice 36 k36) 22 w' w.heap.size (fun k_ => some k_ ≠ (v11 : Value).ownBlock) u553003 x553003_2) ∧ Aside0 (w'.heap[g548]? = some (.cells #[.int .i64 0, .int .i64 0, .int .i64 0, (.slice none 0 0)] 26 (0, 0))) ∧ Aside0 (w'.heap[g552]? = some (.cells #[.int .i64 a0, .int .i64 t549, .int .i64 a2, u553003] 26 (0, 0))) ∧ Aside0 (Below w.heap.size w w'))
           case atStart => exact ⟨(([] : List (S36))), (0), (by first | rfl | simp), H', ⟨Nat.le_refl _⟩, ⟨by (with_reducible repeat (first | apply Kd.R_alloc | apply Kd.R_drewN | apply Kd.R_drew)); exact Kd.R_mono HO_10.out (fun _ hk => (by simp [Value.ownBlock]))⟩, ⟨by first | exact Kd.R_nil _ _ _ _ _ | exact Kd.N_nil _ _ _ _ _ | exact Kd.V_nil _ _ _ _ _ | exact Kd.Q_nil _ _ _ _ _ | exact Kd.S_nil _ _ _ _ _⟩, ⟨by (with_reducible repeat (first | apply Kd.S_alloc | apply Kd.S_drewN | apply Kd.S_drew)); exact Kd.S_mono HO_553003.out (fun _ hk => (by simp [Value.ownBlock]))⟩, ⟨by exact B548.out⟩, ⟨by exact B552.out⟩, ⟨HB.out⟩⟩
           case round =>
            clear H'
            obtain ⟨x11_3, x12_3, rfl, HA, HK3, HO_10, HO_11, HO_553003, B548, B552, HB⟩ := hrel
            cases gk with
            | zero => exact absurd HA.out (by simp [attestorref07_Build.l1])
            | succ k3 =>
             have H := HA.out
             clear HA
             simp only [attestorref07_Build.l1] at H
             by_cases c31 : x12_3 < (x10_2.length : Int)
             ·rw [if_pos c31] at H
              have c31b0 : decide (x12_3 < (x10_2.length : Int)) = true := decide_eq_true c31
              clear c31
              by_cases c32 : 0 ≤ x12_3
              ·rw [if_pos c32] at H
               have c32b0 : decide (0 ≤ x12_3) = true := decide_eq_true c32
               clear c32
               obtain ⟨ji33, hji33⟩ : ∃ j_ : Int, (wrap64 (x12_3 + 1)) = j_ := ⟨_, rfl⟩
               replace H : (if 0 ≤ (ji33) then (if (ji33) < (x10_2.length : Int) then ((attestorref06_Node.f k3 a0 ((rd_T36 x10_2 x12_3).f0) ((rd_T36 x10_2 x12_3).f1) ((rd_T36 x10_2 (ji33)).f0) ((rd_T36 x10_2 (ji33)).f1)).bind fun bt561 => (if x11_3.length < 8796093022208 then (attestorref07_Build.l1 k3 a0 a2 x10_2 (x11_3 ++ [(⟨bt561.1, bt561.2⟩ : S36)]) (wrap64 (x12_3 + 2)) a0 t549 a2 x553003_2) else (none))) else (none)) else (none)) = some (r1, r2, r3, r4, r5) := by first | (rw [hji33] at H; exact H) | (simp only [hji33] at H ⊢; exact H)
               have hji33w : (IntKind.i64.wrap (x12_3 + 1)) = ji33 := (i64_w _).trans hji33
               by_cases c34 : 0 ≤ (ji33)
               ·rw [if_pos c34] at H
                have c34b0 : decide (0 ≤ (ji33)) = true := decide_eq_true c34
                clear c34
                by_cases c35 : (ji33) < (x10_2.length : Int)
                ·rw [if_pos c35] at H
                 have c35b0 : decide ((ji33) < (x10_2.length : Int)) = true := decide_eq_true c35
                 clear c35
                 replace H := Option.bind_eq_some_iff.mp H
                 obtain ⟨⟨t561, t562⟩, A360, H⟩ := H
                 replace H : (if x11_3.length < 8796093022208 then (attestorref07_Build.l1 k3 a0 a2 x10_2 (x11_3 ++ [(⟨t561, t562⟩ : S36)]) (wrap64 (x12_3 + 2)) a0 t549 a2 x553003_2) else (none)) = some (r1, r2, r3, r4, r5) := H
                 have A36 := aj A360
                 clear A360
                 by_cases c37 : x11_3.length < 8796093022208
                 ·rw [if_pos c37] at H
                  have LMc37 := aj c37
                  clear c37
                  obtain ⟨y563, hy563⟩ : ∃ y_ : List (S36), y_ = (x11_3 ++ [(⟨t561, t562⟩ : S36)]) := ⟨_, rfl⟩
                  (first | rw [← hy563] at H | simp only [← hy563] at H)
                  have Ny563 := aj hy563
                  clear hy563
                  have H' := aj H
                  clear H
                  try go_wp2
                  have n0_ := aj (Kd.R_drew HO_10.out)
                  have n1_ := aj (Kd.R_drew HO_11.out)
                  have n2_ := aj (Kd.S_drew HO_553003.out)
                  have n3_ := aj (blk_drew B548.out)
                  have n4_ := aj (blk_drew B552.out)
                  have n5_ := aj (below_drew1 HB.out)
                  clear HO_10
                  clear HO_11
                  clear HO_553003
                  clear B548
                  clear B552
                  clear HB
                  have HO_10 := n0_
                  have HO_11 := n1_
                  have HO_553003 := n2_
                  have B548 := n3_
                  have B552 := n4_
                  have HB := n5_
                  have p559 : 0 ≤ (x12_3 : Int) := of_decide_eq_true (by assumption)
                  have q559 : x12_3 < (x10_2.length : Int) := of_decide_eq_true (by assumption)
                  obtain ⟨ad559, e559, hx559_0, hx559_1⟩ := at_T36 (Kd.R_reads' HO_10.out).2.2 x12_3 p559 q559
                  cases e559
                  replace p559 := eq_true p559
                  replace q559 := eq_true q559
                  have p560 : 0 ≤ ((ji33) : Int) := of_decide_eq_true (by assumption)
                  have q560 : (ji33) < (x10_2.length : Int) := of_decide_eq_true (by assumption)
                  obtain ⟨ad560, e560, hx560_0, hx560_1⟩ := at_T36 (Kd.R_reads' HO_10.out).2.2 (ji33) p560 q560
                  obtain rfl : ad559 = ad560 := (by injection e560)
                  replace p560 := eq_true p560
                  replace q560 := eq_true q560
                  refine start_ (n := 15) (S := fun w' => w'.cell? (ad559.add ((x12_3).toNat * 2)) = some (.int .u64 ((rd_T36 x10_2 x12_3).f0)) ∧ w'.cell? ⟨(ad559.add ((x12_3).toNat * 2)).block, (ad559.add ((x12_3).toNat * 2)).off + 1, none⟩ = some (.int .u64 ((rd_T36 x10_2 x12_3).f1)) ∧ w'.cell? (ad559.add (((ji33)).toNat * 2)) = some (.int .u64 ((rd_T36 x10_2 (ji33)).f0)) ∧ w'.cell? ⟨(ad559.add (((ji33)).toNat * 2)).block, (ad559.add (((ji33)).toNat * 2)).off + 1, none⟩ = some (.int .u64 ((rd_T36 x10_2 (ji33)).f1))) (ds := [12, 13]) z14_0_ (by kernel_rfl) rfl rfl ⟨hx559_0, hx559_1, hx560_0, hx560_1⟩ (fun hL => ?_); refine with_tabW attestorref07_Build.tab15 attestorref07_Build.bits15 (fun T_ W_ => ?_)
                  generalize wr.drew = w38 at HO_10 HO_11 HO_553003 B548 B552 HB hx559_0 hx559_1 hx560_0 hx560_1 hL ⊢
                  refine pure_ (i := 0) (N := some 62) (v := ?_) (a' := ?_) z14_1_ rfl rfl (an_ T_) (fun _ _ _ h => h) (Or.inl ⟨by rfl, ?_⟩) ?_ ?_
                  rotate_left; · intro w'; go_simp; with_reducible rfl
                  rotate_left; · simp only [Act.put, sa_, sb_, sc_, i64_w, i32_w]; rfl
                  refine pure_ (i := 1) (N := some 63) (v := ?_) (a' := ?_) z14_2_ rfl rfl (an_ T_) (fun _ _ _ h => h) (Or.inl ⟨by rfl, ?_⟩) ?_ ?_
                  rotate_left; · intro w'; go_simp; with_reducible rfl
                  rotate_left; · simp only [Act.put, sa_, sb_, sc_, i64_w, i32_w]; rfl
                  refine pure_ (i := 2) (N := some 64) (v := ?_) (a' := ?_) z14_3_ rfl rfl (an_ T_) (fun _ _ _ h => h) (Or.inl ⟨by rfl, ?_⟩) ?_ ?_
                  rotate_left; · intro w'; go_simp; with_reducible rfl
                  rotate_left; · simp only [Act.put, sa_, sb_, sc_, i64_w, i32_w]; rfl
                  refine pure_ (i := 3) (N := some 65) (v := ?_) (a' := ?_) z14_4_ rfl rfl (an_ T_) (fun _ _ _ h => h) (Or.inl ⟨by rfl, ?_⟩) ?_ ?_
                  rotate_left; · intro w'; go_simp; with_reducible rfl
                  rotate_left; · simp only [Act.put, sa_, sb_, sc_, i64_w, i32_w]; rfl
                  refine pure_ (i := 4) (N := some 66) (v := ?_) (a' := ?_) z14_5_ rfl rfl (an_ T_) (fun _ _ _ h => h) (Or.inl ⟨by rfl, ?_⟩) ?_ ?_
                  rotate_left; · intro w'; go_simp; with_reducible rfl
                  rotate_left; · simp only [Act.put, sa_, sb_, sc_, i64_w, i32_w]; rfl
                  refine pure_ (i := 6) (N := some 68) (v := ?_) (a' := ?_) z14_6_ rfl rfl (an_ T_) (fun _ _ _ h => h) (Or.inl ⟨by rfl, ?_⟩) ?_ ?_
                  rotate_left; · intro w'; go_simp; with_reducible rfl
                  rotate_left; · simp only [Act.put, sa_, sb_, sc_, i64_w, i32_w]; rfl
                  refine pure_ (i := 7) (N := some 69) (v := ?_) (a' := ?_) z14_7_ rfl rfl (an_ T_) (fun _ _ _ h => h) (Or.inl ⟨by rfl, ?_⟩) ?_ ?_
                  rotate_left; · intro w'; go_simp; with_reducible rfl
                  rotate_left; · simp only [Act.put, sa_, sb_, sc_, i64_w, i32_w]; rfl
                  refine pure_ (i := 8) (N := some 70) (v := ?_) (a' := ?_) z14_8_ rfl rfl (an_ T_) (fun _ _ _ h => h) (Or.inl ⟨by rfl, ?_⟩) ?_ ?_
                  rotate_left; · intro w'; go_simp; with_reducible rfl
                  rotate_left; · simp only [Act.put, sa_, sb_, sc_, i64_w, i32_w]; rfl
                  refine pure_ (i := 9) (N := some 71) (v := ?_) (a' := ?_) z14_9_ rfl rfl (an_ T_) (fun _ _ _ h => h) (Or.inl ⟨by rfl, ?_⟩) ?_ ?_
                  rotate_left; · intro w'; go_simp; with_reducible rfl
                  rotate_left; · simp only [Act.put, sa_, sb_, sc_, i64_w, i32_w]; rfl
                  refine take_ (i := 5) (N := some 67) (v := ?_) (a' := ?_) z14_10_ rfl rfl (tk_ T_ W_) (fun _ _ _ h => h) (Or.inl ⟨by rfl, ?_⟩) hL ?_ ?_
                  rotate_left
                  ·rintro w' ⟨s0, s1, s2, s3⟩
                   go_simp
                   with_reducible rfl
                  rotate_left
                  ·simp only [Act.put, sa_, sb_, sc_, i64_w, i32_w]
                   rfl
                  refine take_ (i := 10) (N := some 72) (v := ?_) (a' := ?_) z14_11_ rfl rfl (tk_ T_ W_) (fun _ _ _ h => h) (Or.inl ⟨by rfl, ?_⟩) hL ?_ ?_
                  rotate_left
                  ·rintro w' ⟨s0, s1, s2, s3⟩
                   go_simp
                   with_reducible rfl
                  rotate_left
                  ·simp only [Act.put, sa_, sb_, sc_, i64_w, i32_w]
                   rfl
                  refine one_ (i := 11) (N := some 73) z14_12_ rfl rfl (on_ T_) (by decide) (fun K hK => ?_)
                  refine goes_ Tryd.func44 (by kernel_rfl) rfl #[.int .i64 a0, .agg #[.int .u64 ((rd_T36 x10_2 x12_3).f0), .int .u64 ((rd_T36 x10_2 x12_3).f1)], .agg #[.int .u64 ((rd_T36 x10_2 (ji33)).f0), .int .u64 ((rd_T36 x10_2 (ji33)).f1)]] (by rfl) rfl rfl (by (try simp only [List.map_toArray, List.map_cons, List.map_nil]); first | done | (simp only [hji33]; rfl) | rfl | (simp only [List.length_drop, List.length_take]; rfl) | (go_simp; done) | (go_simp; rw [Int.tmod_eq_emod_of_nonneg (by omega)]; omega)) ?_
                  with_reducible refine (attestorref06_Node.calls k3 a0 ((rd_T36 x10_2 x12_3).f0) ((rd_T36 x10_2 x12_3).f1) ((rd_T36 x10_2 (ji33)).f0) ((rd_T36 x10_2 (ji33)).f1) t561 t562 _ A36.out).mono ?_
                  rintro e w39 ⟨rfl, hb⟩
                  have HS0_ := (hb.cell (World.block_lt_of_cell? _ _ (hL.1))).trans (hL.1)
                  have HS1_ := (hb.cell (World.block_lt_of_cell? _ _ (hL.2.1))).trans (hL.2.1)
                  have HS2_ := (hb.cell (World.block_lt_of_cell? _ _ (hL.2.2.1))).trans (hL.2.2.1)
                  have HS3_ := (hb.cell (World.block_lt_of_cell? _ _ (hL.2.2.2))).trans (hL.2.2.2)
                  refine ⟨_, rfl, ?_⟩
                  have n0_ := aj (Kd.R_below (HO_10.out) hb)
                  have n1_ := aj (Kd.R_below (HO_11.out) hb)
                  have n2_ := aj (Kd.S_below (HO_553003.out) hb)
                  have n3_ := aj (blk_below B548.out hb)
                  have n4_ := aj (blk_below B552.out hb)
                  have n5_ := aj (below_step HB.out hb)
                  clear HO_10
                  clear HO_11
                  clear HO_553003
                  clear B548
                  clear B552
                  clear HB
                  have HO_10 := n0_
                  have HO_11 := n1_
                  have HO_553003 := n2_
                  have B548 := n3_
                  have B552 := n4_
                  have HB := n5_
                  refine hK.out _ _ ⟨HS0_, HS1_, HS2_, HS3_⟩ (fun hL => ?_)
                  clear hK K
                  refine norm_ (a' := ?_) ?_ ?_
                  rotate_left
                  ·show Act.put _ (some 73) _ = _
                   simp only [Act.put, sa_, sb_, sc_, i64_w, i32_w]
                   rfl
                  refine last_ (i := 12) (N := some 74) z14_13_ rfl rfl (on_ T_) (by decide) (fun K hK => ?_)
                  refine value_ (w1 := ?_) (v := ?_) (by rfl) rfl ?_ ?_
                  rotate_left 2
                  ·go_simp
                   constructor
                   ·rfl
                   ·rfl
                  refine hK.out _ _ ?_
                  clear hK K
                  refine norm_ (a' := ?_) ?_ ?_
                  rotate_left
                  ·show Act.put _ (some 74) _ = _
                   simp only [Act.put, sa_, sb_, sc_, i64_w, i32_w]
                   rfl
                  refine last_ (i := 13) (N := some 75) z14_14_ rfl rfl (on_ T_) (by decide) (fun K hK => ?_)
                  refine Kd.R_append_step k36 (w0 := w) w.heap.size (by rfl) (.tmp 62) (.tmp 74) 22 36 (.agg #[(.int .u64 0), (.int .u64 0)]) 16 rfl Tryd.underlying22 info36 rfl (by decide) (by omega) u11 x11_3 (⟨t561, t562⟩ : S36) [.int .u64 t561, .int .u64 t562] (fun k_ => some k_ ≠ (.slice (some ad559) x10_2.length co30 : Value).ownBlock) (fun _ => False) rfl rfl ?aP (fun _ hk => hk.elim) ?aF ?aO ?aB ?aS ?aL ?_
                  (case aP => exact k36_mkM _ _ _ (⟨t561, t562⟩ : S36))
                  (case aB => exact HB.out)
                  (case aF => exact (fun k_ hk => Kd.fresh' (Kd.R_lt (HO_10.out)) k_ hk))
                  (case aO => exact (HO_11.out))
                  (case aS => exact (below_size HB.out))
                  (case aL => have := LMc37.out; omega)
                  intro v564 w40 ho hb hg hat
                  rw [← Ny563.out] at ho
                  have n0_ := aj (Kd.R_after (ok := (fun _ => True)) (Kd.R_mono HO_10.out (fun _ hk => ⟨trivial, hk⟩)) hg hat)
                  have n1_ := aj (Kd.S_after (ok := (fun _ => True)) (Kd.S_mono HO_553003.out (fun _ hk => ⟨trivial, hk⟩)) hg hat)
                  have n2_ := aj (blk_grown B548.out hg (Kd.R_ne HO_11.out B548.out (by decide)))
                  have n3_ := aj (blk_grown B552.out hg (Kd.R_ne HO_11.out B552.out (by decide)))
                  have n4_ := aj (hb)
                  have n5_ := aj (ho)
                  clear HO_10
                  clear HO_553003
                  clear B548
                  clear B552
                  clear HB
                  clear HO_11
                  have HO_10 := n0_
                  have HO_553003 := n1_
                  have B548 := n2_
                  have B552 := n3_
                  have HB := n4_
                  have HO565 := n5_
                  clear ho hb hg hat
                  refine hK.out _ _ ?_
                  clear hK K
                  refine norm_ (a' := ?_) ?_ ?_
                  rotate_left
                  ·show Act.put _ (some 75) _ = _
                   simp only [Act.put, sa_, sb_, sc_, i64_w, i32_w]
                   rfl
                  refine pure_ (i := 14) (N := some 11) (v := ?_) (a' := ?_) z14_15_ rfl rfl (an_ T_) (fun _ _ _ h => h) (Or.inl ⟨by rfl, ?_⟩) ?_ ?_
                  rotate_left; · intro w'; go_simp; with_reducible rfl
                  rotate_left; · simp only [Act.put, sa_, sb_, sc_, i64_w, i32_w]; rfl
                  refine done_ (done_of T_.out (by kernel_rfl)) ?_
                  try go_wp2
                  go_roundg k3
                  case measure => have := HJ4.out; have := HK2.out; have := HK3.out; omega
                  case rel => exact ⟨(y563), (wrap64 (x12_3 + 2)), (by first | rfl | simp), H', ⟨by have := HJ4.out; have := HK2.out; have := HK3.out; omega⟩, ⟨by (with_reducible repeat (first | apply Kd.R_alloc | apply Kd.R_drewN | apply Kd.R_drew)); exact Kd.R_mono HO_10.out (fun _ hk => hk.2)⟩, ⟨by (with_reducible repeat (first | apply Kd.R_alloc | apply Kd.R_drewN | apply Kd.R_drew)); exact HO565.out⟩, ⟨by (with_reducible repeat (first | apply Kd.S_alloc | apply Kd.S_drewN | apply Kd.S_drew)); exact Kd.S_mono HO_553003.out (fun _ hk => hk.2)⟩, ⟨by exact B548.out⟩, ⟨by exact B552.out⟩, ⟨HB.out⟩⟩
                 ·rw [if_neg c37] at H
                  exact absurd H (by simp)
                ·rw [if_neg c35] at H
                 exact absurd H (by simp)
               ·rw [if_neg c34] at H
                exact absurd H (by simp)
              ·rw [if_neg c32] at H
               exact absurd H (by simp)
             ·rw [if_neg c31] at H
              have c31b0 : decide (x12_3 < (x10_2.length : Int)) = false := decide_eq_false c31
              clear c31
              by_cases c41 : x553003_2.length < 5864062014805
              ·rw [if_pos c41] at H
               have LMc41 := aj c41
               clear c41
               obtain ⟨y566, hy566⟩ : ∃ y_ : List (List (S36)), y_ = (x553003_2 ++ [x11_3]) := ⟨_, rfl⟩
               replace H : (attestorref07_Build.l0 k3 a0 a2 x11_3 a0 t549 a2 y566) = some (r1, r2, r3, r4, r5) := by first | (rw [hy566]; with_reducible exact H) | (have H2_ := (Option.bind_some _ _).symm.trans H; rw [hy566]; with_reducible exact H2_) | (have H2_ := (Option.bind_some _ _).symm.trans H; with_reducible exact H2_) | with_reducible exact H | (rw [hy566]; exact H) | exact H
               have Ny566 := aj hy566
               clear hy566
               have H' := aj H
               clear H
               have hcz43_0 : wr.cell? ⟨g552, 0, none⟩ = some (.int .i64 a0) := bq_ B552 0
               have hcz43_1 : wr.cell? ⟨g552, 1, none⟩ = some (.int .i64 t549) := bq_ B552 1
               have hcz43_2 : wr.cell? ⟨g552, 2, none⟩ = some (.int .i64 a2) := bq_ B552 2
               have hcz43_3 : wr.cell? ⟨g552, 3, none⟩ = some (u553003) := bq_ B552 3
               have hfz43_0 := blk_frozen B552.out 0
               have hfz43_1 := blk_frozen B552.out 1
               have hfz43_2 := blk_frozen B552.out 2
               have hfz43_3 := blk_frozen B552.out 3
               obtain ⟨Ao45, co45, eo45⟩ := Kd.R_slice HO_11.out
               subst eo45
               go_wp2_with (first | ((with_reducible refine gate_builtin (b := .append) (xs := #[.tmp 78, .tmp 80]) rfl ?_); at_builtin; refine Kd.S_append (Kd.slice 36 k36) (w0 := w) w.heap.size rfl (.tmp 78) (.tmp 80) 24 22 (.slice none 0 0) 24 rfl Tryd.underlying24 info22 rfl (by decide) (by omega) u553003 x553003_2 x11_3 [.slice Ao45 x11_3.length co45] (fun _ => True) (fun k_ => some k_ = (.slice Ao45 x11_3.length co45 : Value).ownBlock) rfl rfl ?aP (fun k_ hk_ => ((Kd.R_mono (ok' := fun k_ => ((fun _ => True)) k_ ∧ some k_ ≠ (u553003 : Value).ownBlock) (Kd.R_apart' (HO_11.out) (Kd.S_typed HO_553003.out) (by decide)) (fun k_ hk => ⟨trivial, hk.2⟩))).1 k_ hk_.symm) ?aF ?aO ?aB ?aS ?aL ?_; (case aP => exact Kd.M_row (Kd.R_mono (Kd.R_tight rfl (Kd.R_mono (ok' := fun k_ => ((fun _ => True)) k_ ∧ some k_ ≠ (u553003 : Value).ownBlock) (Kd.R_apart' (HO_11.out) (Kd.S_typed HO_553003.out) (by decide)) (fun k_ hk => ⟨trivial, hk.2⟩))) (fun _ h_ => h_))); (case aB => exact HB.out); (case aF => exact (fun _ _ => trivial)); (case aO => exact (Kd.S_mono HO_553003.out (fun k_ hk => ⟨trivial, fun e_ => hk e_⟩))); (case aS => exact (below_size HB.out)); (case aL => have := LMc41.out; omega); intro v567 w44 ho hb hg hat; rw [← Ny566.out] at ho; have n9_ := aj (Kd.R_over' (HO_11.out) (Kd.S_typed (HO_553003.out)) (by decide) hg); have n0_ := aj (Kd.R_over' (HO_10.out) (Kd.S_typed (HO_553003.out)) (by decide) hg); have n1_ := aj (blk_grown B548.out hg (Kd.S_ne HO_553003.out B548.out (by decide))); have n2_ := aj (blk_grown B552.out hg (Kd.S_ne HO_553003.out B552.out (by decide))); have n3_ := aj (hb); have n4_ := aj (ho); clear HO_10; clear B548; clear B552; clear HB; clear HO_553003; clear HO_11; have HO_10 := n0_; have B548 := n1_; have B552 := n2_; have HB := n3_; have HO568 := n4_; have HO_11 := n9_; obtain ⟨Ao46, co46, eo46⟩ := Kd.S_slice HO568.out; subst eo46; have hcz47_0 : w44.cell? ⟨g552, 0, none⟩ = some (.int .i64 a0) := bq_ B552 0; have hcz47_1 : w44.cell? ⟨g552, 1, none⟩ = some (.int .i64 t549) := bq_ B552 1; have hcz47_2 : w44.cell? ⟨g552, 2, none⟩ = some (.int .i64 a2) := bq_ B552 2; have hcz47_3 : w44.cell? ⟨g552, 3, none⟩ = some (u553003) := bq_ B552 3; have hfz47_0 := blk_frozen B552.out 0; have hfz47_1 := blk_frozen B552.out 1; have hfz47_2 := blk_frozen B552.out 2; have hfz47_3 := blk_frozen B552.out 3))
               go_roundg k3
               case measure => have := HJ4.out; have := HK2.out; have := HK3.out; omega
               case rel => exact ⟨(x11_3), (y566), (.slice Ao46 y566.length co46), H', ⟨by have := HJ4.out; have := HK2.out; have := HK3.out; omega⟩, ⟨by (with_reducible repeat (first | apply Kd.R_alloc | apply Kd.R_drewN | apply Kd.R_drew)); exact Kd.R_mono (Kd.R_far (p := ⟨g552, 3, none⟩) (Kd.R_types HO_11.out B552.out (by decide)) (fun _ hk => hk.2) (.slice Ao46 y566.length co46)) (fun _ hk => trivial)⟩, ⟨by (with_reducible repeat (first | apply Kd.S_alloc | apply Kd.S_drewN | apply Kd.S_drew)); exact Kd.S_mono (Kd.S_far (p := ⟨g552, 3, none⟩) (Kd.S_types HO568.out B552.out (by decide)) (fun _ hk => hk.2) (.slice Ao46 y566.length co46)) (fun _ hk => trivial)⟩, ⟨by refine blk_far ?_ NB548_552.out _; exact B548.out⟩, ⟨by refine blk_put (cs := #[.int .i64 a0, .int .i64 t549, .int .i64 a2, u553003]) ?_ 3 _ rfl; exact B552.out⟩, ⟨by repeat (first | (with_reducible first | exact HB.out | apply below_alloc | apply pw_below_drewN | apply below_drew1 | refine below_set ?_ GE548.out | refine below_set ?_ GE552.out) | exact HB.out)⟩⟩
              ·rw [if_neg c41] at H
               exact absurd H (by simp)
          ·rw [if_neg c29] at H
           have c29b0 : decide ((ji28) < (x10_2.length : Int)) = false := decide_eq_false c29
           clear c29
           simp only [Option.some.injEq, Prod.mk.injEq] at H
           obtain ⟨rfl, rfl, rfl, rfl, rfl⟩ := H
           obtain ⟨Ao48, co48, eo48⟩ := Kd.R_slice HO_10.out
           subst eo48
           have hcz50_0 : wr.cell? ⟨g552, 0, none⟩ = some (.int .i64 a0) := bq_ B552 0
           have hcz50_1 : wr.cell? ⟨g552, 1, none⟩ = some (.int .i64 t549) := bq_ B552 1
           have hcz50_2 : wr.cell? ⟨g552, 2, none⟩ = some (.int .i64 a2) := bq_ B552 2
           have hcz50_3 : wr.cell? ⟨g552, 3, none⟩ = some (u553003) := bq_ B552 3
           have hfz50_0 := blk_frozen B552.out 0
           have hfz50_1 := blk_frozen B552.out 1
           have hfz50_2 := blk_frozen B552.out 2
           have hfz50_3 := blk_frozen B552.out 3
           have hcz51_0 : wr.cell? ⟨g548, 0, none⟩ = some (.int .i64 0) := bq_ B548 0
           have hcz51_1 : wr.cell? ⟨g548, 1, none⟩ = some (.int .i64 0) := bq_ B548 1
           have hcz51_2 : wr.cell? ⟨g548, 2, none⟩ = some (.int .i64 0) := bq_ B548 2
           have hcz51_3 : wr.cell? ⟨g548, 3, none⟩ = some (.slice none 0 0) := bq_ B548 3
           have hfz51_0 := blk_frozen B548.out 0
           have hfz51_1 := blk_frozen B548.out 1
           have hfz51_2 := blk_frozen B548.out 2
           have hfz51_3 := blk_frozen B548.out 3
           obtain ⟨Ao52, co52, eo52⟩ := Kd.S_slice HO_553003.out
           subst eo52
           go_wp2
           refine bodyPost_ret (results_ct rfl _ _ g548 26 #[.int .i64 a0, .int .i64 t549, .int .i64 a2, .slice Ao52 x553003_2.length co52] (0, 0) _ rfl (by refine blk_put (cs := #[.int .i64 a0, .int .i64 t549, .int .i64 a2, .slice none 0 0]) ?_ 3 _ rfl; refine blk_put (cs := #[.int .i64 a0, .int .i64 t549, .int .i64 0, .slice none 0 0]) ?_ 2 _ rfl; refine blk_put (cs := #[.int .i64 a0, .int .i64 0, .int .i64 0, .slice none 0 0]) ?_ 1 _ rfl; refine blk_put (cs := #[.int .i64 0, .int .i64 0, .int .i64 0, .slice none 0 0]) ?_ 0 _ rfl; exact B548.out) Tryd.underlying26 rfl (by kernel_rfl)) rfl ?_
           exact ⟨_, by first | rfl | (simp [errW_none, errW_some] <;> rfl) | (simp only [← hji28]; first | rfl | (simp [errW_none, errW_some] <;> rfl)) | (simp [*, errW_none, errW_some] <;> rfl), by (with_reducible repeat (first | apply Kd.S_alloc | apply Kd.S_drewN | apply Kd.S_drew)); exact Kd.S_mono (Kd.S_far (p := ⟨g548, 3, none⟩) (Kd.S_far (p := ⟨g548, 2, none⟩) (Kd.S_far (p := ⟨g548, 1, none⟩) (Kd.S_far (p := ⟨g548, 0, none⟩) (Kd.S_types HO_553003.out B548.out (by decide)) (fun _ hk => hk.2) (.int .i64 a0)) (fun _ hk => hk.2) (.int .i64 t549)) (fun _ hk => hk.2) (.int .i64 a2)) (fun _ hk => hk.2) (.slice Ao52 x553003_2.length co52)) (fun _ hk => trivial), by repeat (first | (with_reducible first | exact HB.out | apply below_alloc | apply pw_below_drewN | apply below_drew1 | refine below_set ?_ GE548.out | refine below_set ?_ GE552.out) | exact HB.out)⟩
         ·rw [if_neg c27] at H
          exact absurd H (by simp)
      ·rw [if_neg c16] at H
       exact absurd H (by simp)
     ·rw [if_neg c15] at H
      exact absurd H (by simp)
    ·replace c14 := Bool.eq_false_iff.mpr c14
     subst c14
     have H1 : (some (0, 0, 0, ([] : List (List (S36))), 2)) = some (r1, r2, r3, r4, r5) := by rw [if_neg (show ¬ (false = true) by decide)] at H; exact H
     clear H
     have H := H1
     clear H1
     simp only [Option.some.injEq, Prod.mk.injEq] at H
     obtain ⟨rfl, rfl, rfl, rfl, rfl⟩ := H
     go_wp2_with (first | ((with_reducible refine gate_callee (f := 43) rfl ?_); refine goesL_ (some 35) rfl rfl Tryd.func43 (by kernel_rfl) rfl #[.int .i64 a0, .slice A1 l1.length c1] rfl (by (try simp only [List.map_toArray, List.map_cons, List.map_nil]); first | done | rfl | (go_simp; done)) ?_; (with_reducible refine (attestorref07_All.calls kj4 a0 _ _ l1 false _ ?side1 ?side2 A13.out).mono ?_); (case side1 => exact (Kd.C_below HR1.out HB.out)); (case side2 => exact HC1.out); rintro e w53 ⟨rfl, hb⟩; refine ⟨_, rfl, ?_⟩; have n0_ := aj (blk_below B548.out hb); have n1_ := aj (below_step HB.out hb); clear B548; clear HB; have B548 := n0_; have HB := n1_; clear n0_ n1_; (try clear hb); (try clear hb2); (try clear hk); (try clear hi); have hcz54_0 : w53.cell? ⟨g548, 0, none⟩ = some (.int .i64 0) := bq_ B548 0; have hcz54_1 : w53.cell? ⟨g548, 1, none⟩ = some (.int .i64 0) := bq_ B548 1; have hcz54_2 : w53.cell? ⟨g548, 2, none⟩ = some (.int .i64 0) := bq_ B548 2; have hcz54_3 : w53.cell? ⟨g548, 3, none⟩ = some (.slice none 0 0) := bq_ B548 3; have hfz54_0 := blk_frozen B548.out 0; have hfz54_1 := blk_frozen B548.out 1; have hfz54_2 := blk_frozen B548.out 2; have hfz54_3 := blk_frozen B548.out 3))
     refine bodyPost_ret (results_ct rfl _ _ g548 26 #[.int .i64 0, .int .i64 0, .int .i64 0, .slice none 0 0] (0, 0) _ rfl (by refine blk_put (cs := #[.int .i64 0, .int .i64 0, .int .i64 0, .slice none 0 0]) ?_ 3 _ rfl; refine blk_put (cs := #[.int .i64 0, .int .i64 0, .int .i64 0, .slice none 0 0]) ?_ 2 _ rfl; refine blk_put (cs := #[.int .i64 0, .int .i64 0, .int .i64 0, .slice none 0 0]) ?_ 1 _ rfl; refine blk_put (cs := #[.int .i64 0, .int .i64 0, .int .i64 0, .slice none 0 0]) ?_ 0 _ rfl; exact B548.out) Tryd.underlying26 rfl (by kernel_rfl)) rfl ?_
     exact ⟨_, by first | rfl | (simp [errW_none, errW_some] <;> rfl) | (simp [*, errW_none, errW_some] <;> rfl), by first | exact Kd.S_nil _ _ _ _ _ | exact Kd.N_nil _ _ _ _ _ | exact Kd.V_nil _ _ _ _ _ | exact Kd.Q_nil _ _ _ _ _ | exact Kd.R_nil _ _ _ _ _, by repeat (first | (with_reducible first | exact HB.out | apply below_alloc | apply pw_below_drewN | apply below_drew1 | refine below_set ?_ GE548.out) | exact HB.out)⟩

end Go.Proofs.YtpnpmeogffodgaaDoor.Q
end
section
namespace Go.Proofs.YtpnpmeogffodgaaDoor.Q
open Go.RowKit Go.Proofs.YtpnpmeogffodgaaDoorW.PrintWords Go.Proofs.YtpnpmeogffodgaaDoorW.PrintLast Go.Proofs.YtpnpmeogffodgaaDoorW.PrintMore
attribute [local go_sem] max2_int min2_int max_two min_two max_three min_three max_four min_four run_store_fnV run_store_fnc run_store_nfn   -- for this text's walks alone
set_option linter.unusedVariables false
set_option linter.unusedSimpArgs false

abbrev z3_0_ : Array Bool := #[false, false, false, false, false, false, false, false, false, false, false, false, false, false, false, false, false, false, false, false, false, false, false, false]
abbrev z3_1_ : Array Bool := #[true, false, false, false, false, false, false, false, false, false, false, false, false, false, false, false, false, false, false, false, false, false, false, false]
abbrev z3_2_ : Array Bool := #[true, true, false, false, false, false, false, false, false, false, false, false, false, false, false, false, false, false, false, false, false, false, false, false]
abbrev z3_3_ : Array Bool := #[true, true, true, false, false, false, false, false, false, false, false, false, false, false, false, false, false, false, false, false, false, false, false, false]
abbrev z3_4_ : Array Bool := #[true, true, true, true, false, false, false, false, false, false, false, false, false, false, false, false, false, false, false, false, false, false, false, false]
abbrev z3_5_ : Array Bool := #[true, true, true, true, true, false, false, false, false, false, false, false, false, false, false, false, false, false, false, false, false, false, false, false]
abbrev z3_6_ : Array Bool := #[true, true, true, true, true, true, false, false, false, false, false, false, false, false, false, false, false, false, false, false, false, false, false, false]
abbrev z3_7_ : Array Bool := #[true, true, true, true, true, true, true, false, false, false, false, false, false, false, false, false, false, false, false, false, false, false, false, false]
abbrev z3_8_ : Array Bool := #[true, true, true, true, true, true, true, true, false, false, false, false, false, false, false, false, false, false, false, false, false, false, false, false]
abbrev z3_9_ : Array Bool := #[true, true, true, true, true, true, true, true, true, false, false, false, false, false, false, false, false, false, false, false, false, false, false, false]
abbrev z3_10_ : Array Bool := #[true, true, true, true, true, true, true, true, true, true, false, false, false, false, false, false, false, false, false, false, false, false, false, false]
abbrev z3_11_ : Array Bool := #[true, true, true, true, true, true, true, true, true, true, true, false, false, false, false, false, false, false, false, false, false, false, false, false]
abbrev z3_12_ : Array Bool := #[true, true, true, true, true, true, true, true, true, true, true, false, true, false, false, false, false, false, false, false, false, false, false, false]
abbrev z3_13_ : Array Bool := #[true, true, true, true, true, true, true, true, true, true, true, true, true, false, false, false, false, false, false, false, false, false, false, false]
abbrev z3_14_ : Array Bool := #[true, true, true, true, true, true, true, true, true, true, true, true, true, true, false, false, false, false, false, false, false, false, false, false]
abbrev z3_15_ : Array Bool := #[true, true, true, true, true, true, true, true, true, true, true, true, true, true, true, false, false, false, false, false, false, false, false, false]
abbrev z3_16_ : Array Bool := #[true, true, true, true, true, true, true, true, true, true, true, true, true, true, true, true, false, false, false, false, false, false, false, false]
abbrev z3_17_ : Array Bool := #[true, true, true, true, true, true, true, true, true, true, true, true, true, true, true, true, true, false, false, false, false, false, false, false]
abbrev z3_18_ : Array Bool := #[true, true, true, true, true, true, true, true, true, true, true, true, true, true, true, true, true, true, false, false, false, false, false, false]
abbrev z3_19_ : Array Bool := #[true, true, true, true, true, true, true, true, true, true, true, true, true, true, true, true, true, true, false, true, false, false, false, false]
abbrev z3_20_ : Array Bool := #[true, true, true, true, true, true, true, true, true, true, true, true, true, true, true, true, true, true, true, true, false, false, false, false]
abbrev z3_21_ : Array Bool := #[true, true, true, true, true, true, true, true, true, true, true, true, true, true, true, true, true, true, true, true, true, false, false, false]
abbrev z3_22_ : Array Bool := #[true, true, true, true, true, true, true, true, true, true, true, true, true, true, true, true, true, true, true, true, true, true, false, false]
abbrev z3_23_ : Array Bool := #[true, true, true, true, true, true, true, true, true, true, true, true, true, true, true, true, true, true, true, true, true, true, true, false]
abbrev z3_24_ : Array Bool := #[true, true, true, true, true, true, true, true, true, true, true, true, true, true, true, true, true, true, true, true, true, true, true, true]
/-! ### attestorlaw07_TreeBuilds: function 3 -/
mutual
def attestorlaw07_TreeBuilds.j0 : Nat → List (S36) → List (S36) → Bool → Int → Int → Int → List (List (S36)) → Option (Bool)
  | 0, _, _, _, _, _, _, _ => none
  | k + 1, x1, x7, d8, ba, bb, bc, aV => if d8 = true then (none) else (attestorlaw07_TreeBuilds.l0 k x1 x7 0 ba bb bc aV)
def attestorlaw07_TreeBuilds.l0 : Nat → List (S36) → List (S36) → Int → Int → Int → Int → List (List (S36)) → Option (Bool)
  | 0, _, _, _, _, _, _, _ => none
  | k + 1, x1, x7, bq, ba, bb, bc, aV => if bq < (aV.length : Int) then (attestorlaw07_TreeBuilds.l1 k x1 x7 bq 0 ba bb bc aV) else ((attestorref07_Equal.f k x1 x7).bind fun bW => (if bW = true then ((attestorlaw07_lives.f k).bind fun bE => (some bE)) else (none)))
def attestorlaw07_TreeBuilds.l1 : Nat → List (S36) → List (S36) → Int → Int → Int → Int → Int → List (List (S36)) → Option (Bool)
  | 0, _, _, _, _, _, _, _, _ => none
  | k + 1, x1, x7, bq, bY, ba, bb, bc, aV => if 0 ≤ bq then (if bq < (aV.length : Int) then (if bY < ((rd_L3 aV bq).length : Int) then (if 0 ≤ bY then (attestorlaw07_TreeBuilds.l1 k x1 x7 bq (wrap64 (bY + 1)) ba bb bc (aV.set (bq : Int).toNat ((rd_L3 aV bq).set (bY : Int).toNat (⟨1, 2⟩ : S36)))) else (none)) else (attestorlaw07_TreeBuilds.l0 k x1 x7 (wrap64 (bq + 1)) ba bb bc aV)) else (none)) else (none)
end
def attestorlaw07_TreeBuilds.f (k : Nat) (a0 : Int) (l1 : List (S36)) (a2 : Int) : Option (Bool) := (attestorlaw07_cut.f l1 70).bind fun av => ((attestorlaw07_cut.f av 70).bind fun aA => ((tree_Build.f k a0 av a2).bind fun ao => ((attestorref07_Build.f k a0 aA a2).bind fun ai => (if ao.2.2.2.2 = ai.2.2.2.2 then ((attestorref07_Same.f k ao.1 ao.2.1 ao.2.2.1 ao.2.2.2.1 ai.1 ai.2.1 ai.2.2.1 ai.2.2.2.1).bind fun bh => (if bh = true then ((tree_Valid.f k ao.1 ao.2.1 ao.2.2.1 ao.2.2.2.1).bind fun a3 => ((attestorref07_Valid.f k ai.1 ai.2.1 ai.2.2.1 ai.2.2.2.1).bind fun a4 => (if (a3 != a4) = true then (none) else ((tree_Cap.f k ao.1 ao.2.1 ao.2.2.1 ao.2.2.2.1).bind fun a5 => ((attestorref07_Cap.f k ai.1 ai.2.1 ai.2.2.1 ai.2.2.2.1).bind fun a6 => ((attestorref07_Equal.f k a5 a6).bind fun a9 => (attestorlaw07_TreeBuilds.j0 k av aA (!a9) ao.1 ao.2.1 ao.2.2.1 ao.2.2.2.1))))))) else (none))) else (none)))))
theorem attestorlaw07_TreeBuilds.mono_l : ∀ k, (∀ y0 y1 y2 y3 y4 y5 y6, LeO (attestorlaw07_TreeBuilds.j0 k y0 y1 y2 y3 y4 y5 y6) (attestorlaw07_TreeBuilds.j0 (k + 1) y0 y1 y2 y3 y4 y5 y6)) ∧ (∀ y0 y1 y2 y3 y4 y5 y6, LeO (attestorlaw07_TreeBuilds.l0 k y0 y1 y2 y3 y4 y5 y6) (attestorlaw07_TreeBuilds.l0 (k + 1) y0 y1 y2 y3 y4 y5 y6)) ∧ (∀ y0 y1 y2 y3 y4 y5 y6 y7, LeO (attestorlaw07_TreeBuilds.l1 k y0 y1 y2 y3 y4 y5 y6 y7) (attestorlaw07_TreeBuilds.l1 (k + 1) y0 y1 y2 y3 y4 y5 y6 y7))
  | 0 => ⟨fun _ _ _ _ _ _ _ r h => by simp [attestorlaw07_TreeBuilds.j0] at h, fun _ _ _ _ _ _ _ r h => by simp [attestorlaw07_TreeBuilds.l0] at h, fun _ _ _ _ _ _ _ _ r h => by simp [attestorlaw07_TreeBuilds.l1] at h⟩
  | k + 1 => by
    obtain ⟨ih0, ih1, ih2⟩ := attestorlaw07_TreeBuilds.mono_l k
    refine ⟨?_, ?_, ?_⟩
    · intro y0 y1 y2 y3 y4 y5 y6
      unfold attestorlaw07_TreeBuilds.j0
      repeat' first
      | (with_reducible exact ih0 _ _ _ _ _ _ _)
      | (with_reducible exact ih1 _ _ _ _ _ _ _)
      | (with_reducible exact ih2 _ _ _ _ _ _ _ _)
      | (with_reducible exact attestorlaw07_lives.mono _)
      | (with_reducible exact attestorref07_Build.mono _ _ _ _)
      | (with_reducible exact attestorref07_Cap.mono _ _ _ _ _)
      | (with_reducible exact attestorref07_Equal.mono _ _ _)
      | (with_reducible exact attestorref07_Same.mono _ _ _ _ _ _ _ _ _)
      | (with_reducible exact attestorref07_Valid.mono _ _ _ _ _)
      | (with_reducible exact tree_Build.mono _ _ _ _)
      | (with_reducible exact tree_Cap.mono _ _ _ _ _)
      | (with_reducible exact tree_Valid.mono _ _ _ _ _)
      | (with_reducible exact LeO.refl _)
      | (with_reducible exact LeO.none _)
      | (with_reducible refine LeO.ite ?_ ?_)
      | (with_reducible refine LeO.bind ?_ (fun _ => ?_))
      | exact ih0 _ _ _ _ _ _ _
      | exact ih1 _ _ _ _ _ _ _
      | exact ih2 _ _ _ _ _ _ _ _
      | exact attestorlaw07_lives.mono _
      | exact attestorref07_Build.mono _ _ _ _
      | exact attestorref07_Cap.mono _ _ _ _ _
      | exact attestorref07_Equal.mono _ _ _
      | exact attestorref07_Same.mono _ _ _ _ _ _ _ _ _
      | exact attestorref07_Valid.mono _ _ _ _ _
      | exact tree_Build.mono _ _ _ _
      | exact tree_Cap.mono _ _ _ _ _
      | exact tree_Valid.mono _ _ _ _ _
      | exact LeO.none _
      | refine LeO.ite ?_ ?_
      | refine LeO.bind ?_ (fun _ => ?_)
    · intro y0 y1 y2 y3 y4 y5 y6
      unfold attestorlaw07_TreeBuilds.l0
      repeat' first
      | (with_reducible exact ih0 _ _ _ _ _ _ _)
      | (with_reducible exact ih1 _ _ _ _ _ _ _)
      | (with_reducible exact ih2 _ _ _ _ _ _ _ _)
      | (with_reducible exact attestorlaw07_lives.mono _)
      | (with_reducible exact attestorref07_Build.mono _ _ _ _)
      | (with_reducible exact attestorref07_Cap.mono _ _ _ _ _)
      | (with_reducible exact attestorref07_Equal.mono _ _ _)
      | (with_reducible exact attestorref07_Same.mono _ _ _ _ _ _ _ _ _)
      | (with_reducible exact attestorref07_Valid.mono _ _ _ _ _)
      | (with_reducible exact tree_Build.mono _ _ _ _)
      | (with_reducible exact tree_Cap.mono _ _ _ _ _)
      | (with_reducible exact tree_Valid.mono _ _ _ _ _)
      | (with_reducible exact LeO.refl _)
      | (with_reducible exact LeO.none _)
      | (with_reducible refine LeO.ite ?_ ?_)
      | (with_reducible refine LeO.bind ?_ (fun _ => ?_))
      | exact ih0 _ _ _ _ _ _ _
      | exact ih1 _ _ _ _ _ _ _
      | exact ih2 _ _ _ _ _ _ _ _
      | exact attestorlaw07_lives.mono _
      | exact attestorref07_Build.mono _ _ _ _
      | exact attestorref07_Cap.mono _ _ _ _ _
      | exact attestorref07_Equal.mono _ _ _
      | exact attestorref07_Same.mono _ _ _ _ _ _ _ _ _
      | exact attestorref07_Valid.mono _ _ _ _ _
      | exact tree_Build.mono _ _ _ _
      | exact tree_Cap.mono _ _ _ _ _
      | exact tree_Valid.mono _ _ _ _ _
      | exact LeO.none _
      | refine LeO.ite ?_ ?_
      | refine LeO.bind ?_ (fun _ => ?_)
    · intro y0 y1 y2 y3 y4 y5 y6 y7
      unfold attestorlaw07_TreeBuilds.l1
      repeat' first
      | (with_reducible exact ih0 _ _ _ _ _ _ _)
      | (with_reducible exact ih1 _ _ _ _ _ _ _)
      | (with_reducible exact ih2 _ _ _ _ _ _ _ _)
      | (with_reducible exact attestorlaw07_lives.mono _)
      | (with_reducible exact attestorref07_Build.mono _ _ _ _)
      | (with_reducible exact attestorref07_Cap.mono _ _ _ _ _)
      | (with_reducible exact attestorref07_Equal.mono _ _ _)
      | (with_reducible exact attestorref07_Same.mono _ _ _ _ _ _ _ _ _)
      | (with_reducible exact attestorref07_Valid.mono _ _ _ _ _)
      | (with_reducible exact tree_Build.mono _ _ _ _)
      | (with_reducible exact tree_Cap.mono _ _ _ _ _)
      | (with_reducible exact tree_Valid.mono _ _ _ _ _)
      | (with_reducible exact LeO.refl _)
      | (with_reducible exact LeO.none _)
      | (with_reducible refine LeO.ite ?_ ?_)
      | (with_reducible refine LeO.bind ?_ (fun _ => ?_))
      | exact ih0 _ _ _ _ _ _ _
      | exact ih1 _ _ _ _ _ _ _
      | exact ih2 _ _ _ _ _ _ _ _
      | exact attestorlaw07_lives.mono _
      | exact attestorref07_Build.mono _ _ _ _
      | exact attestorref07_Cap.mono _ _ _ _ _
      | exact attestorref07_Equal.mono _ _ _
      | exact attestorref07_Same.mono _ _ _ _ _ _ _ _ _
      | exact attestorref07_Valid.mono _ _ _ _ _
      | exact tree_Build.mono _ _ _ _
      | exact tree_Cap.mono _ _ _ _ _
      | exact tree_Valid.mono _ _ _ _ _
      | exact LeO.none _
      | refine LeO.ite ?_ ?_
      | refine LeO.bind ?_ (fun _ => ?_)
theorem attestorlaw07_TreeBuilds.mono : ∀ a0 a1 a2 k, LeO (attestorlaw07_TreeBuilds.f k a0 a1 a2) (attestorlaw07_TreeBuilds.f (k + 1) a0 a1 a2) := by
  intro a0 a1 a2 k
  obtain ⟨ih0, ih1, ih2⟩ := attestorlaw07_TreeBuilds.mono_l k
  unfold attestorlaw07_TreeBuilds.f
  repeat' first
      | (with_reducible exact ih0 _ _ _ _ _ _ _)
      | (with_reducible exact ih1 _ _ _ _ _ _ _)
      | (with_reducible exact ih2 _ _ _ _ _ _ _ _)
      | (with_reducible exact attestorlaw07_lives.mono _)
      | (with_reducible exact attestorref07_Build.mono _ _ _ _)
      | (with_reducible exact attestorref07_Cap.mono _ _ _ _ _)
      | (with_reducible exact attestorref07_Equal.mono _ _ _)
      | (with_reducible exact attestorref07_Same.mono _ _ _ _ _ _ _ _ _)
      | (with_reducible exact attestorref07_Valid.mono _ _ _ _ _)
      | (with_reducible exact tree_Build.mono _ _ _ _)
      | (with_reducible exact tree_Cap.mono _ _ _ _ _)
      | (with_reducible exact tree_Valid.mono _ _ _ _ _)
      | (with_reducible exact LeO.refl _)
      | (with_reducible exact LeO.none _)
      | (with_reducible refine LeO.ite ?_ ?_)
      | (with_reducible refine LeO.bind ?_ (fun _ => ?_))
      | exact ih0 _ _ _ _ _ _ _
      | exact ih1 _ _ _ _ _ _ _
      | exact ih2 _ _ _ _ _ _ _ _
      | exact attestorlaw07_lives.mono _
      | exact attestorref07_Build.mono _ _ _ _
      | exact attestorref07_Cap.mono _ _ _ _ _
      | exact attestorref07_Equal.mono _ _ _
      | exact attestorref07_Same.mono _ _ _ _ _ _ _ _ _
      | exact attestorref07_Valid.mono _ _ _ _ _
      | exact tree_Build.mono _ _ _ _
      | exact tree_Cap.mono _ _ _ _ _
      | exact tree_Valid.mono _ _ _ _ _
      | exact LeO.none _
      | refine LeO.ite ?_ ?_
      | refine LeO.bind ?_ (fun _ => ?_)
def attestorlaw07_TreeBuilds.T5 : Bool × List (List Nat × List Nat) := (true, [([], []), ([], []), ([0, 1], [0, 1]), ([2], [2]), ([3], [3]), ([3], [3]), ([4, 5, 3, 3], [3, 4, 5]), ([6, 3], [3, 6]), ([3, 7], [3, 7]), ([8, 6], [8]), ([9], [9]), ([10, 9, 9], [9, 10]), ([9], [9]), ([12, 11, 9], [9, 12]), ([11, 13, 9], [9, 11, 13]), ([9, 14], [9, 14]), ([15, 13], [15]), ([16], [16]), ([17, 16, 16], [16, 17]), ([16], [16]), ([19, 18, 16], [16, 19]), ([18, 20, 20, 16], [16, 18, 20]), ([21, 16], [16, 21]), ([16, 22], [16, 22])])
def attestorlaw07_TreeBuilds.B5 : List Nat := [0, 0, 3, 7, 15, 15, 63, 127, 255, 511, 1023, 2047, 1023, 8191, 16383, 32767, 65535, 131071, 262143, 131071, 1048575, 2097151, 4194303, 8388607]
theorem attestorlaw07_TreeBuilds.tab5 : rtab .any (opsOf Tryd.f3 5) = attestorlaw07_TreeBuilds.T5 := by kernel_rfl
theorem attestorlaw07_TreeBuilds.bits5 : waitsOk attestorlaw07_TreeBuilds.T5.2 attestorlaw07_TreeBuilds.B5 = true := by kernel_rfl
set_option maxHeartbeats 8000000 in
set_option maxRecDepth 100000 in
theorem attestorlaw07_TreeBuilds.calls (k : Nat) (a0 : Int) (A1 : Option Addr) (c1 : Nat) (l1 : List (S36)) (a2 : Int) (r : Bool) (w : World) (cJ : Kd.C k36 w A1 l1.length l1) (cK : l1.length ≤ c1) (hrG : GL w) (h : attestorlaw07_TreeBuilds.f k a0 l1 a2 = some r) :
  Calls Tryd.prog 3 #[.int .i64 a0, .slice A1 l1.length c1, .int .i64 a2] w fun e w' => e = .returned (.bool r) ∧ Below w.heap.size w w' := by
 have hu26 := Tryd.underlying26
 have hu36 := Tryd.underlying36
 have HRG := aj hrG
 clear hrG
 have d9 := aj cJ
 have ea := aj cK
 clear cJ cK
 have HB := aj (Below.refl w.heap.size w)
 have H : ((attestorlaw07_cut.f l1 70).bind fun av => ((attestorlaw07_cut.f av 70).bind fun aA => ((tree_Build.f k a0 av a2).bind fun ao => ((attestorref07_Build.f k a0 aA a2).bind fun ai => (if ao.2.2.2.2 = ai.2.2.2.2 then ((attestorref07_Same.f k ao.1 ao.2.1 ao.2.2.1 ao.2.2.2.1 ai.1 ai.2.1 ai.2.2.1 ai.2.2.2.1).bind fun bh => (if bh = true then ((tree_Valid.f k ao.1 ao.2.1 ao.2.2.1 ao.2.2.2.1).bind fun a3 => ((attestorref07_Valid.f k ai.1 ai.2.1 ai.2.2.1 ai.2.2.2.1).bind fun a4 => (if (a3 != a4) = true then (none) else ((tree_Cap.f k ao.1 ao.2.1 ao.2.2.1 ao.2.2.2.1).bind fun a5 => ((attestorref07_Cap.f k ai.1 ai.2.1 ai.2.2.1 ai.2.2.2.1).bind fun a6 => ((attestorref07_Equal.f k a5 a6).bind fun a9 => (attestorlaw07_TreeBuilds.j0 k av aA (!a9) ao.1 ao.2.1 ao.2.2.1 ao.2.2.2.1))))))) else (none))) else (none)))))) = some r := h
 clear h
 replace H := Option.bind_eq_some_iff.mp H
 obtain ⟨av, cL, H⟩ := H
 have A4 := aj cL
 clear cL
 replace H := Option.bind_eq_some_iff.mp H
 obtain ⟨aA, cM, H⟩ := H
 have A5 := aj cM
 clear cM
 replace H := Option.bind_eq_some_iff.mp H
 obtain ⟨⟨am, ap, aq, ar, bv⟩, cN, H⟩ := H
 replace H : ((attestorref07_Build.f k a0 aA a2).bind fun ai => (if bv = ai.2.2.2.2 then ((attestorref07_Same.f k am ap aq ar ai.1 ai.2.1 ai.2.2.1 ai.2.2.2.1).bind fun bh => (if bh = true then ((tree_Valid.f k am ap aq ar).bind fun a3 => ((attestorref07_Valid.f k ai.1 ai.2.1 ai.2.2.1 ai.2.2.2.1).bind fun a4 => (if (a3 != a4) = true then (none) else ((tree_Cap.f k am ap aq ar).bind fun a5 => ((attestorref07_Cap.f k ai.1 ai.2.1 ai.2.2.1 ai.2.2.2.1).bind fun a6 => ((attestorref07_Equal.f k a5 a6).bind fun a9 => (attestorlaw07_TreeBuilds.j0 k av aA (!a9) am ap aq ar))))))) else (none))) else (none))) = some r := H
 have A6 := aj cN
 clear cN
 replace H := Option.bind_eq_some_iff.mp H
 obtain ⟨⟨aB, aC, aD, aw, bF⟩, cO, H⟩ := H
 replace H : (if bv = bF then ((attestorref07_Same.f k am ap aq ar aB aC aD aw).bind fun bh => (if bh = true then ((tree_Valid.f k am ap aq ar).bind fun a3 => ((attestorref07_Valid.f k aB aC aD aw).bind fun a4 => (if (a3 != a4) = true then (none) else ((tree_Cap.f k am ap aq ar).bind fun a5 => ((attestorref07_Cap.f k aB aC aD aw).bind fun a6 => ((attestorref07_Equal.f k a5 a6).bind fun a9 => (attestorlaw07_TreeBuilds.j0 k av aA (!a9) am ap aq ar))))))) else (none))) else (none)) = some r := H
 have A7 := aj cO
 clear cO
 have cg := aj H
 clear H
 go_enter Tryd.func3, Tryd.ntmps3
 go_upto_region 5 with (first | ((with_reducible refine gate_callee (f := 12) rfl ?_); refine goesL_ (some 15) rfl rfl Tryd.func12 (by kernel_rfl) rfl #[.slice A1 l1.length c1, .int .i64 70] rfl (by (try simp only [List.map_toArray, List.map_cons, List.map_nil]); first | done | rfl | (go_simp; done)) ?_; (with_reducible refine (attestorlaw07_cut.calls _ _ l1 70 av _ ?side1 ?side2 A4.out).mono ?_); (case side1 => exact d9.out); (case side2 => exact ea.out); rintro e w9 ⟨ew, rfl, ho0, hb⟩; refine ⟨_, rfl, ?_⟩; have aE := aj (Kd.R_lower ho0 (below_size (by repeat (first | (with_reducible first | exact HB.out | apply below_alloc | apply pw_below_drewN | apply below_drew1) | exact HB.out)))); have aF := aj (below_step (by repeat (first | (with_reducible first | exact HB.out | apply below_alloc | apply pw_below_drewN | apply below_drew1) | exact HB.out)) hb); clear HB; have ag := aE; have HB := aF; clear aE aF; (try clear hb); (try clear hb2); (try clear hk); (try clear hi); (try clear ho0); obtain ⟨aT, aU, cS⟩ := Kd.R_slice ag.out; subst cS) | ((with_reducible refine gate_callee (f := 12) rfl ?_); refine goesL_ (some 17) rfl rfl Tryd.func12 (by kernel_rfl) rfl #[.slice aT av.length aU, .int .i64 70] rfl (by (try simp only [List.map_toArray, List.map_cons, List.map_nil]); first | done | rfl | (go_simp; done)) ?_; (with_reducible refine (attestorlaw07_cut.calls _ _ av 70 aA _ ?side1 ?side2 A5.out).mono ?_); (case side1 => exact (Kd.R_reads' ag.out).2.2); (case side2 => exact (Kd.R_reads' ag.out).2.1); rintro e eJ ⟨ey, rfl, ho0, hb⟩; refine ⟨_, rfl, ?_⟩; have aE := aj (Kd.R_elder' (ag.out) (Kd.R_base ho0) hb); have aF := aj (Kd.R_lower (Kd.R_new' ho0 (Kd.R_lt (ag.out))) (below_size (by repeat (first | (with_reducible first | exact HB.out | apply below_alloc | apply pw_below_drewN | apply below_drew1) | exact HB.out)))); have aI := aj (below_step (by repeat (first | (with_reducible first | exact HB.out | apply below_alloc | apply pw_below_drewN | apply below_drew1) | exact HB.out)) hb); clear ag; clear HB; have ag := aE; have ak := aF; have HB := aI; clear aE aF aI; (try clear hb); (try clear hb2); (try clear hk); (try clear hi); (try clear ho0)) | ((with_reducible refine gate_callee (f := 13) rfl ?_); refine goesL_ (some 22) rfl rfl Tryd.func13 (by kernel_rfl) rfl #[.int .i64 a0, .slice aT av.length aU, .int .i64 a2] rfl (by (try simp only [List.map_toArray, List.map_cons, List.map_nil]); first | done | rfl | (go_simp; done)) ?_; (with_reducible refine (tree_Build.calls k a0 _ _ av a2 am ap aq ar bv _ ?side1 ?side2 ?side3 A6.out).mono ?_); (case side1 => exact (Kd.R_reads' ag.out).2.2); (case side2 => exact (Kd.R_reads' ag.out).2.1); (case side3 => repeat (first | exact (GL.below HRG.out HB.out) | (with_reducible refine GL.alloc ?_ _) | (with_reducible refine GL.drewN ?_ _) | (with_reducible refine GL.drew ?_))); rintro e eK ⟨ez, rfl, ho0, hb⟩; refine ⟨_, rfl, ?_⟩; have aE := aj (Kd.R_below (ag.out) hb); have aF := aj (Kd.R_below (ak.out) hb); have aI := aj (Kd.S_lower (Kd.S_new' (Kd.S_new' ho0 (Kd.R_lt (ag.out))) (Kd.R_lt (ak.out))) (below_size (by repeat (first | (with_reducible first | exact HB.out | apply below_alloc | apply pw_below_drewN | apply below_drew1) | exact HB.out)))); have aN := aj (below_step (by repeat (first | (with_reducible first | exact HB.out | apply below_alloc | apply pw_below_drewN | apply below_drew1) | exact HB.out)) hb); clear ag; clear ak; clear HB; have ag := aE; have ak := aF; have al := aI; have HB := aN; clear aE aF aI aN; (try clear hb); (try clear hb2); (try clear hk); (try clear hi); (try clear ho0)) | ((with_reducible refine gate_dst (N := 8) rfl ?_); refine box_event ?hg (N := 8) ?hd (cs := #[.int .i64 0, .int .i64 0, .int .i64 0, .slice none 0 0]) (t := 26) ?hr ?_; (case hd => rfl); (case hg => rfl); (case hr => first | (go_simp; done) | (go_simp; rfl)); intro ad hg bZ hbox hb; have aE := aj (Kd.R_below (ag.out) hb); have aF := aj (Kd.R_below (ak.out) hb); have aI := aj (Kd.S_below (al.out) hb); have aN := aj (below_step (by repeat (first | (with_reducible first | exact HB.out | apply below_alloc | apply pw_below_drewN | apply below_drew1) | exact HB.out)) hb); have aO := aj (hbox); have aX := aj ((by rw [hg]; exact (below_size (by repeat (first | (with_reducible first | exact HB.out | apply below_alloc | apply pw_below_drewN | apply below_drew1) | exact HB.out))) : w.heap.size ≤ ad)); clear ag; clear ak; clear al; clear HB; have ag := aE; have ak := aF; have al := aI; have HB := aN; have aa := aO; have br := aX; clear aE aF aI aN aO aX; clear hb hbox hg; have di : bZ.cell? ⟨ad, 0, none⟩ = some (.int .i64 0) := bq_ aa 0; have dj : bZ.cell? ⟨ad, 1, none⟩ = some (.int .i64 0) := bq_ aa 1; have dk : bZ.cell? ⟨ad, 2, none⟩ = some (.int .i64 0) := bq_ aa 2; have dl : bZ.cell? ⟨ad, 3, none⟩ = some (.slice none 0 0) := bq_ aa 3; have dm := blk_frozen aa.out 0; have dn := blk_frozen aa.out 1; have dp := blk_frozen aa.out 2; have dq := blk_frozen aa.out 3; obtain ⟨aJ, aK, cT⟩ := Kd.S_slice al.out; subst cT; obtain ⟨aY, aW, cU⟩ := Kd.R_slice ak.out; subst cU) | ((with_reducible refine gate_callee (f := 14) rfl ?_); refine goesL_ (some 29) rfl rfl Tryd.func14 (by kernel_rfl) rfl #[.int .i64 a0, .slice aY aA.length aW, .int .i64 a2] rfl (by (try simp only [List.map_toArray, List.map_cons, List.map_nil]); first | done | rfl | (go_simp; done)) ?_; (with_reducible refine (attestorref07_Build.calls k a0 _ _ aA a2 aB aC aD aw bF _ ?side1 ?side2 A7.out).mono ?_); (case side1 => refine (Kd.R_reads' (e := 36) (base := w.heap.size) (ok := fun k_ => (True ∧ some k_ ≠ (.slice aT av.length aU : Value).ownBlock)) (n := aA.length) (c := aW) ?_).2.2; exact (by (with_reducible repeat (first | apply Kd.R_alloc | apply Kd.R_drewN | apply Kd.R_drew)); exact (Kd.R_mono (Kd.R_far (p := ⟨ad, 3, none⟩) (Kd.R_far (p := ⟨ad, 2, none⟩) (Kd.R_far (p := ⟨ad, 1, none⟩) (Kd.R_far (p := ⟨ad, 0, none⟩) (Kd.R_types ak.out aa.out (by decide)) (fun _ hk => hk.2) (.int .i64 am)) (fun _ hk => hk.2) (.int .i64 ap)) (fun _ hk => hk.2) (.int .i64 aq)) (fun _ hk => hk.2) (.slice aJ ar.length aK)) (fun _ h_ => h_.1)))); (case side2 => exact (Kd.R_reads' ak.out).2.1); rintro e eL ⟨eA, rfl, ho0, hb⟩; refine ⟨_, rfl, ?_⟩; have aE := aj (Kd.R_below (by (with_reducible repeat (first | apply Kd.R_alloc | apply Kd.R_drewN | apply Kd.R_drew)); exact (Kd.R_mono (Kd.R_far (p := ⟨ad, 3, none⟩) (Kd.R_far (p := ⟨ad, 2, none⟩) (Kd.R_far (p := ⟨ad, 1, none⟩) (Kd.R_far (p := ⟨ad, 0, none⟩) (Kd.R_types ag.out aa.out (by decide)) (fun _ hk => hk.2) (.int .i64 am)) (fun _ hk => hk.2) (.int .i64 ap)) (fun _ hk => hk.2) (.int .i64 aq)) (fun _ hk => hk.2) (.slice aJ ar.length aK)) (fun _ h_ => h_.1))) hb); have aF := aj (Kd.R_below (by (with_reducible repeat (first | apply Kd.R_alloc | apply Kd.R_drewN | apply Kd.R_drew)); exact (Kd.R_mono (Kd.R_far (p := ⟨ad, 3, none⟩) (Kd.R_far (p := ⟨ad, 2, none⟩) (Kd.R_far (p := ⟨ad, 1, none⟩) (Kd.R_far (p := ⟨ad, 0, none⟩) (Kd.R_types ak.out aa.out (by decide)) (fun _ hk => hk.2) (.int .i64 am)) (fun _ hk => hk.2) (.int .i64 ap)) (fun _ hk => hk.2) (.int .i64 aq)) (fun _ hk => hk.2) (.slice aJ ar.length aK)) (fun _ h_ => h_.1))) hb); have aI := aj (Kd.S_elder' (by (with_reducible repeat (first | apply Kd.S_alloc | apply Kd.S_drewN | apply Kd.S_drew)); exact (Kd.S_mono (Kd.S_far (p := ⟨ad, 3, none⟩) (Kd.S_far (p := ⟨ad, 2, none⟩) (Kd.S_far (p := ⟨ad, 1, none⟩) (Kd.S_far (p := ⟨ad, 0, none⟩) (Kd.S_types al.out aa.out (by decide)) (fun _ hk => hk.2) (.int .i64 am)) (fun _ hk => hk.2) (.int .i64 ap)) (fun _ hk => hk.2) (.int .i64 aq)) (fun _ hk => hk.2) (.slice aJ ar.length aK)) (fun _ h_ => h_.1))) (Kd.S_base ho0) hb); have aN := aj (Kd.S_lower (Kd.S_new' (Kd.S_new' (Kd.S_new' ho0 (Kd.R_lt (by (with_reducible repeat (first | apply Kd.R_alloc | apply Kd.R_drewN | apply Kd.R_drew)); exact (Kd.R_mono (Kd.R_far (p := ⟨ad, 3, none⟩) (Kd.R_far (p := ⟨ad, 2, none⟩) (Kd.R_far (p := ⟨ad, 1, none⟩) (Kd.R_far (p := ⟨ad, 0, none⟩) (Kd.R_types ag.out aa.out (by decide)) (fun _ hk => hk.2) (.int .i64 am)) (fun _ hk => hk.2) (.int .i64 ap)) (fun _ hk => hk.2) (.int .i64 aq)) (fun _ hk => hk.2) (.slice aJ ar.length aK)) (fun _ h_ => h_.1))))) (Kd.R_lt (by (with_reducible repeat (first | apply Kd.R_alloc | apply Kd.R_drewN | apply Kd.R_drew)); exact (Kd.R_mono (Kd.R_far (p := ⟨ad, 3, none⟩) (Kd.R_far (p := ⟨ad, 2, none⟩) (Kd.R_far (p := ⟨ad, 1, none⟩) (Kd.R_far (p := ⟨ad, 0, none⟩) (Kd.R_types ak.out aa.out (by decide)) (fun _ hk => hk.2) (.int .i64 am)) (fun _ hk => hk.2) (.int .i64 ap)) (fun _ hk => hk.2) (.int .i64 aq)) (fun _ hk => hk.2) (.slice aJ ar.length aK)) (fun _ h_ => h_.1))))) (Kd.S_lt (by (with_reducible repeat (first | apply Kd.S_alloc | apply Kd.S_drewN | apply Kd.S_drew)); exact (Kd.S_mono (Kd.S_far (p := ⟨ad, 3, none⟩) (Kd.S_far (p := ⟨ad, 2, none⟩) (Kd.S_far (p := ⟨ad, 1, none⟩) (Kd.S_far (p := ⟨ad, 0, none⟩) (Kd.S_types al.out aa.out (by decide)) (fun _ hk => hk.2) (.int .i64 am)) (fun _ hk => hk.2) (.int .i64 ap)) (fun _ hk => hk.2) (.int .i64 aq)) (fun _ hk => hk.2) (.slice aJ ar.length aK)) (fun _ h_ => h_.1))))) (below_size (by repeat (first | (with_reducible first | exact HB.out | apply below_alloc | apply pw_below_drewN | apply below_drew1 | refine below_set ?_ br.out) | exact HB.out)))); have aO := aj (blk_below (g := ad) (o := .cells #[.int .i64 am, .int .i64 ap, .int .i64 aq, .slice aJ ar.length aK] 26 (0, 0)) (by refine blk_put (cs := #[.int .i64 am, .int .i64 ap, .int .i64 aq, .slice none 0 0]) ?_ 3 _ rfl; refine blk_put (cs := #[.int .i64 am, .int .i64 ap, .int .i64 0, .slice none 0 0]) ?_ 2 _ rfl; refine blk_put (cs := #[.int .i64 am, .int .i64 0, .int .i64 0, .slice none 0 0]) ?_ 1 _ rfl; refine blk_put (cs := #[.int .i64 0, .int .i64 0, .int .i64 0, .slice none 0 0]) ?_ 0 _ rfl; exact aa.out) hb); have aZ := aj (below_step (by repeat (first | (with_reducible first | exact HB.out | apply below_alloc | apply pw_below_drewN | apply below_drew1 | refine below_set ?_ br.out) | exact HB.out)) hb); clear ag; clear ak; clear al; clear aa; clear HB; have ag := aE; have ak := aF; have al := aI; have au := aN; have aa := aO; have HB := aZ; clear aE aF aI aN aO aZ; (try clear hb); (try clear hb2); (try clear hk); (try clear hi); (try clear ho0)) | ((with_reducible refine gate_dst (N := 10) rfl ?_); refine box_event ?hg (N := 10) ?hd (cs := #[.int .i64 0, .int .i64 0, .int .i64 0, .slice none 0 0]) (t := 26) ?hr ?_; (case hd => rfl); (case hg => rfl); (case hr => first | (go_simp; done) | (go_simp; rfl)); intro af hg bn hbox hb; have aE := aj (Kd.R_below (ag.out) hb); have aF := aj (Kd.R_below (ak.out) hb); have aI := aj (Kd.S_below (al.out) hb); have aN := aj (Kd.S_below (au.out) hb); have aO := aj (blk_below (g := ad) (o := .cells #[.int .i64 am, .int .i64 ap, .int .i64 aq, .slice aJ ar.length aK] 26 (0, 0)) aa.out hb); have aZ := aj (below_step (by repeat (first | (with_reducible first | exact HB.out | apply below_alloc | apply pw_below_drewN | apply below_drew1 | refine below_set ?_ br.out) | exact HB.out)) hb); have aX := aj (hbox); have b0 := aj ((by rw [hg]; exact (below_size (by repeat (first | (with_reducible first | exact HB.out | apply below_alloc | apply pw_below_drewN | apply below_drew1 | refine below_set ?_ br.out) | exact HB.out))) : w.heap.size ≤ af)); have cP := aj ((by rw [hg]; exact Nat.ne_of_lt (blk_lt (g := ad) (o := .cells #[.int .i64 am, .int .i64 ap, .int .i64 aq, .slice aJ ar.length aK] 26 (0, 0)) aa.out) : ad ≠ af)); have ci := aj ((by rw [hg]; exact Nat.ne_of_gt (blk_lt (g := ad) (o := .cells #[.int .i64 am, .int .i64 ap, .int .i64 aq, .slice aJ ar.length aK] 26 (0, 0)) aa.out) : af ≠ ad)); clear ag; clear ak; clear al; clear au; clear aa; clear HB; have ag := aE; have ak := aF; have al := aI; have au := aN; have aa := aO; have HB := aZ; have ae := aX; have cF := b0; have a8 := cP; have bS := ci; clear aE aF aI aN aO aZ aX b0 cP ci; clear hb hbox hg; have er := bS.out; have et := a8.out; have dr : bn.cell? ⟨af, 0, none⟩ = some (.int .i64 0) := bq_ ae 0; have dt : bn.cell? ⟨af, 1, none⟩ = some (.int .i64 0) := bq_ ae 1; have du : bn.cell? ⟨af, 2, none⟩ = some (.int .i64 0) := bq_ ae 2; have dv : bn.cell? ⟨af, 3, none⟩ = some (.slice none 0 0) := bq_ ae 3; have dw := blk_frozen ae.out 0; have dx := blk_frozen ae.out 1; have dy := blk_frozen ae.out 2; have dz := blk_frozen ae.out 3; obtain ⟨aL, aM, cV⟩ := Kd.S_slice au.out; subst cV))
 (try simp only [Act.put, sa_, sb_, sc_])
 go_cut [55] (fun eb wc => ∃ (kq : Nat) (bB : Bool), eb = .bool bB ∧ Aside0 (attestorlaw07_TreeBuilds.j0 kq av aA bB am ap aq ar = some r) ∧ Aside0 (kq ≤ k) ∧ Aside0 (Kd.R k36 36 wc w.heap.size (fun k_ => some k_ ≠ ((.slice aY aA.length aW) : Value).ownBlock) (.slice aT av.length aU) av) ∧ Aside0 (Kd.R k36 36 wc w.heap.size (fun k_ => some k_ ≠ ((.slice aT av.length aU) : Value).ownBlock) (.slice aY aA.length aW) aA) ∧ Aside0 (Kd.S (Kd.slice 36 k36) 22 wc w.heap.size (fun k_ => some k_ ≠ ((.slice aT av.length aU) : Value).ownBlock ∧ some k_ ≠ ((.slice aY aA.length aW) : Value).ownBlock ∧ some k_ ≠ ((.slice aL aw.length aM) : Value).ownBlock) (.slice aJ ar.length aK) ar) ∧ Aside0 (Kd.S (Kd.slice 36 k36) 22 wc w.heap.size (fun k_ => some k_ ≠ ((.slice aT av.length aU) : Value).ownBlock ∧ some k_ ≠ ((.slice aY aA.length aW) : Value).ownBlock ∧ some k_ ≠ ((.slice aJ ar.length aK) : Value).ownBlock) (.slice aL aw.length aM) aw) ∧ Aside0 (wc.heap[ad]? = some (.cells #[.int .i64 am, .int .i64 ap, .int .i64 aq, (.slice aJ ar.length aK)] 26 (0, 0))) ∧ Aside0 (wc.heap[af]? = some (.cells #[.int .i64 aB, .int .i64 aC, .int .i64 aD, (.slice aL aw.length aM)] 26 (0, 0))) ∧ Aside0 (Below w.heap.size w wc))
 case first =>
  have H := cg.out
  clear cg
  by_cases bT : bv = bF
  ·rw [if_pos bT] at H
   have c22b0 : (bv == bF) = true := beq_iff_eq.mpr bT
   have c22b1 : (bv != bF) = false := bne_eq_false_iff_eq.mpr bT
   clear bT
   (first | rw [c22b0] | (simp only [i64_w, i32_w]; rw [c22b0]) | skip)
   replace H := Option.bind_eq_some_iff.mp H
   obtain ⟨bh, cj, H⟩ := H
   have ec := aj cj
   clear cj
   by_cases b1 : bh = true
   ·subst b1
    have H1 : ((tree_Valid.f k am ap aq ar).bind fun a3 => ((attestorref07_Valid.f k aB aC aD aw).bind fun a4 => (if (a3 != a4) = true then (none) else ((tree_Cap.f k am ap aq ar).bind fun a5 => ((attestorref07_Cap.f k aB aC aD aw).bind fun a6 => ((attestorref07_Equal.f k a5 a6).bind fun a9 => (attestorlaw07_TreeBuilds.j0 k av aA (!a9) am ap aq ar))))))) = some r := by rw [if_pos rfl] at H; exact H
    clear H
    have H := H1
    clear H1
    replace H := Option.bind_eq_some_iff.mp H
    obtain ⟨a3, ck, H⟩ := H
    have ed := aj ck
    clear ck
    replace H := Option.bind_eq_some_iff.mp H
    obtain ⟨a4, cl, H⟩ := H
    have ee := aj cl
    clear cl
    by_cases bH : (a3 != a4) = true
    ·rw [if_pos bH] at H
     exact absurd H (by simp)
    ·rw [if_neg bH] at H
     have c27b0 : (a3 != a4) = false := by simpa using bH
     (try (have c27b1 : decide (a3 = a4) = true := by simpa using bH))
     (try (have c27b2 : (a3 == a4) = true := by simpa using bH))
     clear bH
     replace H := Option.bind_eq_some_iff.mp H
     obtain ⟨a5, cm, H⟩ := H
     have ef := aj cm
     clear cm
     replace H := Option.bind_eq_some_iff.mp H
     obtain ⟨a6, cn, H⟩ := H
     have eg := aj cn
     clear cn
     replace H := Option.bind_eq_some_iff.mp H
     obtain ⟨a9, co, H⟩ := H
     have eh := aj co
     clear co
     have H' := aj H
     clear H
     try go_wp2
     have aE : Aside0 (Kd.R k36 36 ((((bn.setCell ⟨af, 0, none⟩ (.int .i64 aB)).setCell ⟨af, 1, none⟩ (.int .i64 aC)).setCell ⟨af, 2, none⟩ (.int .i64 aD)).setCell ⟨af, 3, none⟩ (.slice aL aw.length aM)) w.heap.size (fun k_ => some k_ ≠ (.slice aY aA.length aW : Value).ownBlock) (.slice aT av.length aU) av) := ⟨by (with_reducible repeat (first | apply Kd.R_alloc | apply Kd.R_drewN | apply Kd.R_drew)); exact Kd.R_mono (Kd.R_far (p := ⟨af, 3, none⟩) (Kd.R_far (p := ⟨af, 2, none⟩) (Kd.R_far (p := ⟨af, 1, none⟩) (Kd.R_far (p := ⟨af, 0, none⟩) (Kd.R_types ag.out ae.out (by decide)) (fun _ hk => hk.2) (.int .i64 aB)) (fun _ hk => hk.2) (.int .i64 aC)) (fun _ hk => hk.2) (.int .i64 aD)) (fun _ hk => hk.2) (.slice aL aw.length aM)) (fun _ hk => hk.1.2)⟩
     have aF : Aside0 (Kd.R k36 36 ((((bn.setCell ⟨af, 0, none⟩ (.int .i64 aB)).setCell ⟨af, 1, none⟩ (.int .i64 aC)).setCell ⟨af, 2, none⟩ (.int .i64 aD)).setCell ⟨af, 3, none⟩ (.slice aL aw.length aM)) w.heap.size (fun k_ => some k_ ≠ (.slice aT av.length aU : Value).ownBlock) (.slice aY aA.length aW) aA) := ⟨by (with_reducible repeat (first | apply Kd.R_alloc | apply Kd.R_drewN | apply Kd.R_drew)); exact Kd.R_mono (Kd.R_far (p := ⟨af, 3, none⟩) (Kd.R_far (p := ⟨af, 2, none⟩) (Kd.R_far (p := ⟨af, 1, none⟩) (Kd.R_far (p := ⟨af, 0, none⟩) (Kd.R_types ak.out ae.out (by decide)) (fun _ hk => hk.2) (.int .i64 aB)) (fun _ hk => hk.2) (.int .i64 aC)) (fun _ hk => hk.2) (.int .i64 aD)) (fun _ hk => hk.2) (.slice aL aw.length aM)) (fun _ hk => hk.1.2)⟩
     have aI : Aside0 (Kd.S (Kd.slice 36 k36) 22 ((((bn.setCell ⟨af, 0, none⟩ (.int .i64 aB)).setCell ⟨af, 1, none⟩ (.int .i64 aC)).setCell ⟨af, 2, none⟩ (.int .i64 aD)).setCell ⟨af, 3, none⟩ (.slice aL aw.length aM)) w.heap.size (fun k_ => some k_ ≠ (.slice aT av.length aU : Value).ownBlock ∧ some k_ ≠ (.slice aY aA.length aW : Value).ownBlock ∧ some k_ ≠ (.slice aL aw.length aM : Value).ownBlock) (.slice aJ ar.length aK) ar) := ⟨by (with_reducible repeat (first | apply Kd.S_alloc | apply Kd.S_drewN | apply Kd.S_drew)); exact Kd.S_mono (Kd.S_far (p := ⟨af, 3, none⟩) (Kd.S_far (p := ⟨af, 2, none⟩) (Kd.S_far (p := ⟨af, 1, none⟩) (Kd.S_far (p := ⟨af, 0, none⟩) (Kd.S_types al.out ae.out (by decide)) (fun _ hk => hk.2) (.int .i64 aB)) (fun _ hk => hk.2) (.int .i64 aC)) (fun _ hk => hk.2) (.int .i64 aD)) (fun _ hk => hk.2) (.slice aL aw.length aM)) (fun _ hk => ⟨hk.1.1.1.2, ⟨hk.1.1.2, hk.1.2⟩⟩)⟩
     have aN : Aside0 (Kd.S (Kd.slice 36 k36) 22 ((((bn.setCell ⟨af, 0, none⟩ (.int .i64 aB)).setCell ⟨af, 1, none⟩ (.int .i64 aC)).setCell ⟨af, 2, none⟩ (.int .i64 aD)).setCell ⟨af, 3, none⟩ (.slice aL aw.length aM)) w.heap.size (fun k_ => some k_ ≠ (.slice aT av.length aU : Value).ownBlock ∧ some k_ ≠ (.slice aY aA.length aW : Value).ownBlock ∧ some k_ ≠ (.slice aJ ar.length aK : Value).ownBlock) (.slice aL aw.length aM) aw) := ⟨by (with_reducible repeat (first | apply Kd.S_alloc | apply Kd.S_drewN | apply Kd.S_drew)); exact Kd.S_mono (Kd.S_far (p := ⟨af, 3, none⟩) (Kd.S_far (p := ⟨af, 2, none⟩) (Kd.S_far (p := ⟨af, 1, none⟩) (Kd.S_far (p := ⟨af, 0, none⟩) (Kd.S_types au.out ae.out (by decide)) (fun _ hk => hk.2) (.int .i64 aB)) (fun _ hk => hk.2) (.int .i64 aC)) (fun _ hk => hk.2) (.int .i64 aD)) (fun _ hk => hk.2) (.slice aL aw.length aM)) (fun _ hk => ⟨hk.1.1.1.2, ⟨hk.1.1.2, hk.1.2⟩⟩)⟩
     have aO : Aside0 (((((bn.setCell ⟨af, 0, none⟩ (.int .i64 aB)).setCell ⟨af, 1, none⟩ (.int .i64 aC)).setCell ⟨af, 2, none⟩ (.int .i64 aD)).setCell ⟨af, 3, none⟩ (.slice aL aw.length aM)).heap[ad]? = some (.cells #[.int .i64 am, .int .i64 ap, .int .i64 aq, .slice aJ ar.length aK] 26 (0, 0))) := ⟨by refine blk_far ?_ a8.out _; refine blk_far ?_ a8.out _; refine blk_far ?_ a8.out _; refine blk_far ?_ a8.out _; exact aa.out⟩
     have aZ : Aside0 (((((bn.setCell ⟨af, 0, none⟩ (.int .i64 aB)).setCell ⟨af, 1, none⟩ (.int .i64 aC)).setCell ⟨af, 2, none⟩ (.int .i64 aD)).setCell ⟨af, 3, none⟩ (.slice aL aw.length aM)).heap[af]? = some (.cells #[.int .i64 aB, .int .i64 aC, .int .i64 aD, .slice aL aw.length aM] 26 (0, 0))) := ⟨by refine blk_put (cs := #[.int .i64 aB, .int .i64 aC, .int .i64 aD, .slice none 0 0]) ?_ 3 _ rfl; refine blk_put (cs := #[.int .i64 aB, .int .i64 aC, .int .i64 0, .slice none 0 0]) ?_ 2 _ rfl; refine blk_put (cs := #[.int .i64 aB, .int .i64 0, .int .i64 0, .slice none 0 0]) ?_ 1 _ rfl; refine blk_put (cs := #[.int .i64 0, .int .i64 0, .int .i64 0, .slice none 0 0]) ?_ 0 _ rfl; exact ae.out⟩
     have aX : Aside0 (Below w.heap.size w ((((bn.setCell ⟨af, 0, none⟩ (.int .i64 aB)).setCell ⟨af, 1, none⟩ (.int .i64 aC)).setCell ⟨af, 2, none⟩ (.int .i64 aD)).setCell ⟨af, 3, none⟩ (.slice aL aw.length aM))) := ⟨by repeat (first | (with_reducible first | exact HB.out | apply below_alloc | apply pw_below_drewN | apply below_drew1 | refine below_set ?_ br.out | refine below_set ?_ cF.out) | exact HB.out)⟩
     generalize ((((bn.setCell ⟨af, 0, none⟩ (.int .i64 aB)).setCell ⟨af, 1, none⟩ (.int .i64 aC)).setCell ⟨af, 2, none⟩ (.int .i64 aD)).setCell ⟨af, 3, none⟩ (.slice aL aw.length aM)) = ei at aE aF aI aN aO aZ aX ⊢
     have ag := aE
     have ak := aF
     have al := aI
     have au := aN
     have aa := aO
     have ae := aZ
     have HB := aX
     have aE := aj (Kd.R_drew ag.out)
     have aF := aj (Kd.R_drew ak.out)
     have aI := aj (Kd.S_drew al.out)
     have aN := aj (Kd.S_drew au.out)
     have aO := aj (blk_drew aa.out)
     have aZ := aj (blk_drew ae.out)
     have aX := aj (below_drew1 HB.out)
     clear ag
     clear ak
     clear al
     clear au
     clear aa
     clear ae
     clear HB
     have ag := aE
     have ak := aF
     have al := aI
     have au := aN
     have aa := aO
     have ae := aZ
     have HB := aX
     refine start_ (n := 24) (S := fun w' => w'.cell? ⟨ad, 0, none⟩ = some (.int .i64 am) ∧ w'.cell? ⟨ad, 1, none⟩ = some (.int .i64 ap) ∧ w'.cell? ⟨ad, 2, none⟩ = some (.int .i64 aq) ∧ w'.cell? ⟨ad, 3, none⟩ = some (.slice aJ ar.length aK) ∧ w'.cell? ⟨af, 0, none⟩ = some (.int .i64 aB) ∧ w'.cell? ⟨af, 1, none⟩ = some (.int .i64 aC) ∧ w'.cell? ⟨af, 2, none⟩ = some (.int .i64 aD) ∧ w'.cell? ⟨af, 3, none⟩ = some (.slice aL aw.length aM)) (ds := []) z3_0_ (by kernel_rfl) rfl rfl ⟨bq_ aa 0, bq_ aa 1, bq_ aa 2, bq_ aa 3, bq_ ae 0, bq_ ae 1, bq_ ae 2, bq_ ae 3⟩ (fun hL => ?_); refine with_tabW attestorlaw07_TreeBuilds.tab5 attestorlaw07_TreeBuilds.bits5 (fun T_ W_ => ?_)
     generalize ei.drew = eM at ag ak al au aa ae HB hL ⊢
     refine pure_ (i := 0) (N := some 32) (v := ?_) (a' := ?_) z3_1_ rfl rfl (an_ T_) (fun _ _ _ h => h) (Or.inl ⟨by rfl, ?_⟩) ?_ ?_
     rotate_left; · intro w'; go_simp; with_reducible rfl
     rotate_left; · simp only [Act.put, sa_, sb_, sc_, i64_w, i32_w]; rfl
     refine pure_ (i := 1) (N := some 33) (v := ?_) (a' := ?_) z3_2_ rfl rfl (an_ T_) (fun _ _ _ h => h) (Or.inl ⟨by rfl, ?_⟩) ?_ ?_
     rotate_left; · intro w'; go_simp; with_reducible rfl
     rotate_left; · simp only [Act.put, sa_, sb_, sc_, i64_w, i32_w]; rfl
     refine pure_ (i := 2) (N := some 34) (v := ?_) (a' := ?_) z3_3_ rfl rfl (an_ T_) (fun _ _ _ h => h) (Or.inl ⟨by rfl, ?_⟩) ?_ ?_
     rotate_left; · intro w'; go_simp; with_reducible rfl
     rotate_left; · simp only [Act.put, sa_, sb_, sc_, i64_w, i32_w]; rfl
     refine pure_ (i := 3) (N := some 35) (v := ?_) (a' := ?_) z3_4_ rfl rfl (an_ T_) (fun _ _ _ h => h) (Or.inl ⟨by rfl, ?_⟩) ?_ ?_
     rotate_left; · intro w'; go_simp; with_reducible rfl
     rotate_left; · simp only [Act.put, sa_, sb_, sc_, i64_w, i32_w]; rfl
     refine take_ (i := 4) (N := some 36) (v := ?_) (a' := ?_) z3_5_ rfl rfl (tk_ T_ W_) (fun _ _ _ h => h) (Or.inl ⟨by rfl, ?_⟩) hL ?_ ?_
     rotate_left
     ·rintro w' ⟨s0, s1, s2, s3, s4, s5, s6, s7⟩
      go_simp
      with_reducible rfl
     rotate_left
     ·simp only [Act.put, sa_, sb_, sc_, i64_w, i32_w]
      rfl
     refine take_ (i := 5) (N := some 37) (v := ?_) (a' := ?_) z3_6_ rfl rfl (tk_ T_ W_) (fun _ _ _ h => h) (Or.inl ⟨by rfl, ?_⟩) hL ?_ ?_
     rotate_left
     ·rintro w' ⟨s0, s1, s2, s3, s4, s5, s6, s7⟩
      go_simp
      with_reducible rfl
     rotate_left
     ·simp only [Act.put, sa_, sb_, sc_, i64_w, i32_w]
      rfl
     refine one_ (i := 6) (N := some 38) z3_7_ rfl rfl (on_ T_) (by decide) (fun K hK => ?_)
     refine goes_ Tryd.func15 (by kernel_rfl) rfl #[.agg #[.int .i64 am, .int .i64 ap, .int .i64 aq, .slice aJ ar.length aK], .agg #[.int .i64 aB, .int .i64 aC, .int .i64 aD, .slice aL aw.length aM]] (by rfl) rfl rfl (by (try simp only [List.map_toArray, List.map_cons, List.map_nil]); first | done | rfl | (go_simp; done)) ?_
     with_reducible refine (attestorref07_Same.calls k am ap aq _ _ ar aB aC aD _ _ aw true _ ?side1 ?side2 ?side3 ?side4 ec.out).mono ?_
     (case side1 => exact (Kd.S_reads' al.out).2.2)
     (case side2 => exact (Kd.S_reads' al.out).2.1)
     (case side3 => exact (Kd.S_reads' au.out).2.2)
     (case side4 => exact (Kd.S_reads' au.out).2.1)
     rintro e eN ⟨rfl, hb⟩
     refine ⟨_, rfl, ?_⟩
     have aE := aj (Kd.R_below (ag.out) hb)
     have aF := aj (Kd.R_below (ak.out) hb)
     have aI := aj (Kd.S_below (al.out) hb)
     have aN := aj (Kd.S_below (au.out) hb)
     have aO := aj (blk_below aa.out hb)
     have aZ := aj (blk_below ae.out hb)
     have aX := aj (below_step HB.out hb)
     clear ag
     clear ak
     clear al
     clear au
     clear aa
     clear ae
     clear HB
     have ag := aE
     have ak := aF
     have al := aI
     have au := aN
     have aa := aO
     have ae := aZ
     have HB := aX
     refine hK.out _ _ ⟨bq_ aa 0, bq_ aa 1, bq_ aa 2, bq_ aa 3, bq_ ae 0, bq_ ae 1, bq_ ae 2, bq_ ae 3⟩ (fun hL => ?_)
     clear hK K
     refine norm_ (a' := ?_) ?_ ?_
     rotate_left
     ·show Act.put _ (some 38) _ = _
      simp only [Act.put, sa_, sb_, sc_, i64_w, i32_w]
      rfl
     refine pure_ (i := 7) (N := some 39) (v := ?_) (a' := ?_) z3_8_ rfl rfl (an_ T_) (fun _ _ _ h => h) (Or.inl ⟨by rfl, ?_⟩) ?_ ?_
     rotate_left; · intro w'; go_simp; with_reducible rfl
     rotate_left; · simp only [Act.put, sa_, sb_, sc_, i64_w, i32_w]; rfl
     refine pure_ (i := 8) (N := some 40) (v := ?_) (a' := ?_) z3_9_ rfl rfl (an_ T_) (fun _ _ _ h => h) (Or.inl ⟨by rfl, ?_⟩) ?_ ?_
     rotate_left; · intro w'; go_simp; with_reducible rfl
     rotate_left; · simp only [Act.put, sa_, sb_, sc_, i64_w, i32_w]; rfl
     refine pure_ (i := 9) (N := some 41) (v := ?_) (a' := ?_) z3_10_ rfl rfl (an_ T_) (fun _ _ _ h => h) (Or.inl ⟨by rfl, ?_⟩) ?_ ?_
     rotate_left; · intro w'; go_simp; with_reducible rfl
     rotate_left; · simp only [Act.put, sa_, sb_, sc_, i64_w, i32_w]; rfl
     refine take_ (i := 10) (N := some 42) (v := ?_) (a' := ?_) z3_11_ rfl rfl (tk_ T_ W_) (fun _ _ _ h => h) (Or.inl ⟨by rfl, ?_⟩) hL ?_ ?_
     rotate_left
     ·rintro w' ⟨s0, s1, s2, s3, s4, s5, s6, s7⟩
      go_simp
      with_reducible rfl
     rotate_left
     ·simp only [Act.put, sa_, sb_, sc_, i64_w, i32_w]
      rfl
     refine take_ (i := 12) (N := some 44) (v := ?_) (a' := ?_) z3_12_ rfl rfl (tk_ T_ W_) (fun _ _ _ h => h) (Or.inl ⟨by rfl, ?_⟩) hL ?_ ?_
     rotate_left
     ·rintro w' ⟨s0, s1, s2, s3, s4, s5, s6, s7⟩
      go_simp
      with_reducible rfl
     rotate_left
     ·simp only [Act.put, sa_, sb_, sc_, i64_w, i32_w]
      rfl
     refine one_ (i := 11) (N := some 43) z3_13_ rfl rfl (on_ T_) (by decide) (fun K hK => ?_)
     refine goes_ Tryd.func16 (by kernel_rfl) rfl #[.agg #[.int .i64 am, .int .i64 ap, .int .i64 aq, .slice aJ ar.length aK]] (by rfl) rfl rfl (by (try simp only [List.map_toArray, List.map_cons, List.map_nil]); first | done | rfl | (go_simp; done)) ?_
     with_reducible refine (tree_Valid.calls k am ap aq _ _ ar a3 _ ?side1 ?side2 ?side3 ed.out).mono ?_
     (case side1 => exact (Kd.S_reads' al.out).2.2)
     (case side2 => exact (Kd.S_reads' al.out).2.1)
     (case side3 => repeat (first | exact (GL.below HRG.out HB.out) | (with_reducible refine GL.alloc ?_ _) | (with_reducible refine GL.drewN ?_ _) | (with_reducible refine GL.drew ?_)))
     rintro e eO ⟨rfl, hb⟩
     refine ⟨_, rfl, ?_⟩
     have aE := aj (Kd.R_below (ag.out) hb)
     have aF := aj (Kd.R_below (ak.out) hb)
     have aI := aj (Kd.S_below (al.out) hb)
     have aN := aj (Kd.S_below (au.out) hb)
     have aO := aj (blk_below aa.out hb)
     have aZ := aj (blk_below ae.out hb)
     have aX := aj (below_step HB.out hb)
     clear ag
     clear ak
     clear al
     clear au
     clear aa
     clear ae
     clear HB
     have ag := aE
     have ak := aF
     have al := aI
     have au := aN
     have aa := aO
     have ae := aZ
     have HB := aX
     refine hK.out _ _ ⟨bq_ aa 0, bq_ aa 1, bq_ aa 2, bq_ aa 3, bq_ ae 0, bq_ ae 1, bq_ ae 2, bq_ ae 3⟩ (fun hL => ?_)
     clear hK K
     refine norm_ (a' := ?_) ?_ ?_
     rotate_left
     ·show Act.put _ (some 43) _ = _
      simp only [Act.put, sa_, sb_, sc_, i64_w, i32_w]
      rfl
     refine one_ (i := 13) (N := some 45) z3_14_ rfl rfl (on_ T_) (by decide) (fun K hK => ?_)
     refine goes_ Tryd.func17 (by kernel_rfl) rfl #[.agg #[.int .i64 aB, .int .i64 aC, .int .i64 aD, .slice aL aw.length aM]] (by rfl) rfl rfl (by (try simp only [List.map_toArray, List.map_cons, List.map_nil]); first | done | rfl | (go_simp; done)) ?_
     with_reducible refine (attestorref07_Valid.calls k aB aC aD _ _ aw a4 _ ?side1 ?side2 ee.out).mono ?_
     (case side1 => exact (Kd.S_reads' au.out).2.2)
     (case side2 => exact (Kd.S_reads' au.out).2.1)
     rintro e eP ⟨rfl, hb⟩
     refine ⟨_, rfl, ?_⟩
     have aE := aj (Kd.R_below (ag.out) hb)
     have aF := aj (Kd.R_below (ak.out) hb)
     have aI := aj (Kd.S_below (al.out) hb)
     have aN := aj (Kd.S_below (au.out) hb)
     have aO := aj (blk_below aa.out hb)
     have aZ := aj (blk_below ae.out hb)
     have aX := aj (below_step HB.out hb)
     clear ag
     clear ak
     clear al
     clear au
     clear aa
     clear ae
     clear HB
     have ag := aE
     have ak := aF
     have al := aI
     have au := aN
     have aa := aO
     have ae := aZ
     have HB := aX
     refine hK.out _ _ ⟨bq_ aa 0, bq_ aa 1, bq_ aa 2, bq_ aa 3, bq_ ae 0, bq_ ae 1, bq_ ae 2, bq_ ae 3⟩ (fun hL => ?_)
     clear hK K
     refine norm_ (a' := ?_) ?_ ?_
     rotate_left
     ·show Act.put _ (some 45) _ = _
      simp only [Act.put, sa_, sb_, sc_, i64_w, i32_w]
      rfl
     refine pure_ (i := 14) (N := some 46) (v := ?_) (a' := ?_) z3_15_ rfl rfl (an_ T_) (fun _ _ _ h => h) (Or.inl ⟨by rfl, ?_⟩) ?_ ?_
     rotate_left; · intro w'; go_simp; with_reducible rfl
     rotate_left; · simp only [Act.put, sa_, sb_, sc_, i64_w, i32_w]; rfl
     refine pure_ (i := 15) (N := some 47) (v := ?_) (a' := ?_) z3_16_ rfl rfl (an_ T_) (fun _ _ _ h => h) (Or.inl ⟨by rfl, ?_⟩) ?_ ?_
     rotate_left; · intro w'; go_simp; with_reducible rfl
     rotate_left; · simp only [Act.put, sa_, sb_, sc_, i64_w, i32_w]; rfl
     refine pure_ (i := 16) (N := some 48) (v := ?_) (a' := ?_) z3_17_ rfl rfl (an_ T_) (fun _ _ _ h => h) (Or.inl ⟨by rfl, ?_⟩) ?_ ?_
     rotate_left; · intro w'; go_simp; with_reducible rfl
     rotate_left; · simp only [Act.put, sa_, sb_, sc_, i64_w, i32_w]; rfl
     refine take_ (i := 17) (N := some 49) (v := ?_) (a' := ?_) z3_18_ rfl rfl (tk_ T_ W_) (fun _ _ _ h => h) (Or.inl ⟨by rfl, ?_⟩) hL ?_ ?_
     rotate_left
     ·rintro w' ⟨s0, s1, s2, s3, s4, s5, s6, s7⟩
      go_simp
      with_reducible rfl
     rotate_left
     ·simp only [Act.put, sa_, sb_, sc_, i64_w, i32_w]
      rfl
     refine take_ (i := 19) (N := some 51) (v := ?_) (a' := ?_) z3_19_ rfl rfl (tk_ T_ W_) (fun _ _ _ h => h) (Or.inl ⟨by rfl, ?_⟩) hL ?_ ?_
     rotate_left
     ·rintro w' ⟨s0, s1, s2, s3, s4, s5, s6, s7⟩
      go_simp
      with_reducible rfl
     rotate_left
     ·simp only [Act.put, sa_, sb_, sc_, i64_w, i32_w]
      rfl
     refine one_ (i := 18) (N := some 50) z3_20_ rfl rfl (on_ T_) (by decide) (fun K hK => ?_)
     refine goes_ Tryd.func19 (by kernel_rfl) rfl #[.agg #[.int .i64 am, .int .i64 ap, .int .i64 aq, .slice aJ ar.length aK]] (by rfl) rfl rfl (by (try simp only [List.map_toArray, List.map_cons, List.map_nil]); first | done | rfl | (go_simp; done)) ?_
     with_reducible refine (tree_Cap.calls k am ap aq _ _ ar a5 _ ?side1 ?side2 ?side3 ef.out).mono ?_
     (case side1 => exact (Kd.S_reads' al.out).2.2)
     (case side2 => exact (Kd.S_reads' al.out).2.1)
     (case side3 => repeat (first | exact (GL.below HRG.out HB.out) | (with_reducible refine GL.alloc ?_ _) | (with_reducible refine GL.drewN ?_ _) | (with_reducible refine GL.drew ?_)))
     rintro e eQ ⟨eB, rfl, ho0, hb⟩
     refine ⟨_, rfl, ?_⟩
     have aE := aj (Kd.R_elder' (ag.out) (Kd.R_base ho0) hb)
     have aF := aj (Kd.R_elder' (ak.out) (Kd.R_base ho0) hb)
     have aI := aj (Kd.S_elder' (al.out) (Kd.R_base ho0) hb)
     have aN := aj (Kd.S_elder' (au.out) (Kd.R_base ho0) hb)
     have aO := aj (Kd.R_lower (Kd.R_new' (Kd.R_new' ho0 (Kd.R_lt (ag.out))) (Kd.R_lt (ak.out))) (below_size HB.out))
     have aZ := aj (blk_below aa.out hb)
     have aX := aj (blk_below ae.out hb)
     have cp := aj (below_step HB.out hb)
     clear ag
     clear ak
     clear al
     clear au
     clear aa
     clear ae
     clear HB
     have ag := aE
     have ak := aF
     have al := aI
     have au := aN
     have bi := aO
     have aa := aZ
     have ae := aX
     have HB := cp
     refine hK.out _ _ ⟨bq_ aa 0, bq_ aa 1, bq_ aa 2, bq_ aa 3, bq_ ae 0, bq_ ae 1, bq_ ae 2, bq_ ae 3⟩ (fun hL => ?_)
     clear hK K
     refine norm_ (a' := ?_) ?_ ?_
     rotate_left
     ·show Act.put _ (some 50) _ = _
      simp only [Act.put, sa_, sb_, sc_, i64_w, i32_w]
      rfl
     refine one_ (i := 20) (N := some 52) z3_21_ rfl rfl (on_ T_) (by decide) (fun K hK => ?_)
     refine goes_ Tryd.func20 (by kernel_rfl) rfl #[.agg #[.int .i64 aB, .int .i64 aC, .int .i64 aD, .slice aL aw.length aM]] (by rfl) rfl rfl (by (try simp only [List.map_toArray, List.map_cons, List.map_nil]); first | done | rfl | (go_simp; done)) ?_
     with_reducible refine (attestorref07_Cap.calls k aB aC aD _ _ aw a6 _ ?side1 ?side2 eg.out).mono ?_
     (case side1 => exact (Kd.S_reads' au.out).2.2)
     (case side2 => exact (Kd.S_reads' au.out).2.1)
     rintro e eR ⟨eC, rfl, ho0, hb⟩
     refine ⟨_, rfl, ?_⟩
     have aE := aj (Kd.R_elder' (ag.out) (Kd.R_base ho0) hb)
     have aF := aj (Kd.R_elder' (ak.out) (Kd.R_base ho0) hb)
     have aI := aj (Kd.S_elder' (al.out) (Kd.R_base ho0) hb)
     have aN := aj (Kd.S_elder' (au.out) (Kd.R_base ho0) hb)
     have aO := aj (Kd.R_elder' (bi.out) (Kd.R_base ho0) hb)
     have aZ := aj (Kd.R_lower (Kd.R_new' (Kd.R_new' (Kd.R_new' ho0 (Kd.R_lt (ag.out))) (Kd.R_lt (ak.out))) (Kd.R_lt (bi.out))) (below_size HB.out))
     have aX := aj (blk_below aa.out hb)
     have cp := aj (blk_below ae.out hb)
     have b0 := aj (below_step HB.out hb)
     clear ag
     clear ak
     clear al
     clear au
     clear bi
     clear aa
     clear ae
     clear HB
     have ag := aE
     have ak := aF
     have al := aI
     have au := aN
     have bi := aO
     have bO := aZ
     have aa := aX
     have ae := cp
     have HB := b0
     obtain ⟨cW, cX, cq⟩ := Kd.R_slice bi.out
     (first | subst cq | (injection cq with f1_ f2_ f3_; have f4_ := f1_.symm; have f5_ := f3_.symm; clear f1_ f2_ f3_; subst f4_; subst f5_))
     obtain ⟨cY, cZ, cr⟩ := Kd.R_slice bO.out
     (first | subst cr | (injection cr with f1_ f2_ f3_; have f4_ := f1_.symm; have f5_ := f3_.symm; clear f1_ f2_ f3_; subst f4_; subst f5_))
     refine hK.out _ _ ⟨bq_ aa 0, bq_ aa 1, bq_ aa 2, bq_ aa 3, bq_ ae 0, bq_ ae 1, bq_ ae 2, bq_ ae 3⟩ (fun hL => ?_)
     clear hK K
     refine norm_ (a' := ?_) ?_ ?_
     rotate_left
     ·show Act.put _ (some 52) _ = _
      simp only [Act.put, sa_, sb_, sc_, i64_w, i32_w]
      rfl
     refine one_ (i := 21) (N := some 53) z3_22_ rfl rfl (on_ T_) (by decide) (fun K hK => ?_)
     refine goes_ Tryd.func18 (by kernel_rfl) rfl #[.slice cW a5.length cX, .slice cY a6.length cZ] (by rfl) rfl rfl (by (try simp only [List.map_toArray, List.map_cons, List.map_nil]); first | done | rfl | (go_simp; done)) ?_
     with_reducible refine (attestorref07_Equal.calls k _ _ a5 _ _ a6 a9 _ ?side1 ?side2 ?side3 ?side4 eh.out).mono ?_
     (case side1 => exact (Kd.R_reads' bi.out).2.2)
     (case side2 => exact (Kd.R_reads' bi.out).2.1)
     (case side3 => exact (Kd.R_reads' bO.out).2.2)
     (case side4 => exact (Kd.R_reads' bO.out).2.1)
     rintro e w' ⟨rfl, ⟨nd, rfl⟩⟩
     refine ⟨_, rfl, ?_⟩
     refine hK.out _ _ ⟨bq_ aa 0, bq_ aa 1, bq_ aa 2, bq_ aa 3, bq_ ae 0, bq_ ae 1, bq_ ae 2, bq_ ae 3⟩ (fun hL => ?_)
     clear hK K
     refine norm_ (a' := ?_) ?_ ?_
     rotate_left
     ·show Act.put _ (some 53) _ = _
      simp only [Act.put, sa_, sb_, sc_, i64_w, i32_w]
      rfl
     refine pure_ (i := 22) (N := some 54) (v := ?_) (a' := ?_) z3_23_ rfl rfl (an_ T_) (fun _ _ _ h => h) (Or.inl ⟨by rfl, ?_⟩) ?_ ?_
     rotate_left; · intro w'; go_simp; with_reducible rfl
     rotate_left; · simp only [Act.put, sa_, sb_, sc_, i64_w, i32_w]; rfl
     refine pure_ (i := 23) (N := some 55) (v := ?_) (a' := ?_) z3_24_ rfl rfl (an_ T_) (fun _ _ _ h => h) (Or.inl ⟨by rfl, ?_⟩) ?_ ?_
     rotate_left; · intro w'; go_simp; with_reducible rfl
     rotate_left; · simp only [Act.put, sa_, sb_, sc_, i64_w, i32_w]; rfl
     refine done_ (done_of T_.out (by kernel_rfl)) ?_
     try go_wp2
     go_meet
     case rel => exact ⟨_, (!a9), (by first | rfl | simp), H', ⟨by first | omega | exact Nat.le_refl _⟩, ⟨by (with_reducible repeat (first | apply Kd.R_alloc | apply Kd.R_drewN | apply Kd.R_drew)); exact Kd.R_mono ag.out (fun _ hk => hk.1.1)⟩, ⟨by (with_reducible repeat (first | apply Kd.R_alloc | apply Kd.R_drewN | apply Kd.R_drew)); exact Kd.R_mono ak.out (fun _ hk => hk.1.1)⟩, ⟨by (with_reducible repeat (first | apply Kd.S_alloc | apply Kd.S_drewN | apply Kd.S_drew)); exact Kd.S_mono al.out (fun _ hk => ⟨hk.1.1.1, ⟨hk.1.1.2.1, hk.1.1.2.2⟩⟩)⟩, ⟨by (with_reducible repeat (first | apply Kd.S_alloc | apply Kd.S_drewN | apply Kd.S_drew)); exact Kd.S_mono au.out (fun _ hk => ⟨hk.1.1.1, ⟨hk.1.1.2.1, hk.1.1.2.2⟩⟩)⟩, ⟨by exact aa.out⟩, ⟨by exact ae.out⟩, ⟨(by first | exact HB.out | exact below_drew1 HB.out | exact pw_below_drewN HB.out _)⟩⟩
   ·replace b1 := Bool.eq_false_iff.mpr b1
    subst b1
    have H1 : (none) = some r := by rw [if_neg (show ¬ (false = true) by decide)] at H; exact H
    clear H
    have H := H1
    clear H1
    exact absurd H (by simp)
  ·rw [if_neg bT] at H
   exact absurd H (by simp)
 case rest =>
  clear cg
  obtain ⟨kq, bB, rfl, HA, b2, aP, aQ, ab, cQ, aa, ae, HB⟩ := hcut
  cases kq with
  | zero => exact absurd HA.out (by simp [attestorlaw07_TreeBuilds.j0])
  | succ kj7 =>
   have H := HA.out
   clear HA
   simp only [attestorlaw07_TreeBuilds.j0] at H
   by_cases b3 : bB = true
   ·subst b3
    have H1 : (none) = some r := by rw [if_pos rfl] at H; exact H
    clear H
    have H := H1
    clear H1
    exact absurd H (by simp)
   ·replace b3 := Bool.eq_false_iff.mpr b3
    subst b3
    have H1 : (attestorlaw07_TreeBuilds.l0 kj7 av aA 0 am ap aq ar) = some r := by rw [if_neg (show ¬ (false = true) by decide)] at H; exact H
    clear H
    have H := H1
    clear H1
    have H' := aj H
    clear H
    go_wp2
    go_loopg [12] kj7 (fun kq v12 w' => ∃ (bj : List (S36)) (bk : List (S36)) (ah : Int) (aS : List (List (S36))) (aR : Value), v12 = .int .i64 ah ∧ Aside0 (attestorlaw07_TreeBuilds.l0 kq bj bk ah am ap aq aS = some r) ∧ Aside0 (kq ≤ kj7) ∧ Aside0 (Kd.R k36 36 w' w.heap.size (fun k_ => some k_ ≠ ((.slice aY aA.length aW) : Value).ownBlock) (.slice aT av.length aU) bj) ∧ Aside0 (Kd.R k36 36 w' w.heap.size (fun k_ => some k_ ≠ ((.slice aT av.length aU) : Value).ownBlock) (.slice aY aA.length aW) bk) ∧ Aside0 (Kd.S (Kd.slice 36 k36) 22 w' w.heap.size (fun k_ => some k_ ≠ ((.slice aT av.length aU) : Value).ownBlock ∧ some k_ ≠ ((.slice aY aA.length aW) : Value).ownBlock) aR aS) ∧ Aside0 (w'.heap[ad]? = some (.cells #[.int .i64 am, .int .i64 ap, .int .i64 aq, aR] 26 (0, 0))) ∧ Aside0 (Below w.heap.size w w'))
    case atStart => exact ⟨(av), (aA), (0), (ar), (.slice aJ ar.length aK), (by first | rfl | simp), H', ⟨Nat.le_refl _⟩, ⟨by (with_reducible repeat (first | apply Kd.R_alloc | apply Kd.R_drewN | apply Kd.R_drew)); exact aP.out⟩, ⟨by (with_reducible repeat (first | apply Kd.R_alloc | apply Kd.R_drewN | apply Kd.R_drew)); exact aQ.out⟩, ⟨by (with_reducible repeat (first | apply Kd.S_alloc | apply Kd.S_drewN | apply Kd.S_drew)); exact Kd.S_mono ab.out (fun _ hk => ⟨hk.1, hk.2.1⟩)⟩, ⟨by exact aa.out⟩, ⟨HB.out⟩⟩
    case round =>
     clear H'
     obtain ⟨bj, bk, ah, aS, aR, rfl, HA, b4, aP, aQ, ab, aa, HB⟩ := hrel
     have ax := (Kd.R_reads' aP.out).1
     rw [ax] at aP
     (try simp only [ax])
     (try simp only [ax] at aa)

     (try simp only [ax] at aQ)
     (try simp only [ax] at ab)

     have ay := (Kd.R_reads' aQ.out).1
     rw [ay] at aQ
     (try simp only [ay])
     (try simp only [ay] at aa)

     (try simp only [ay] at aP)
     (try simp only [ay] at ab)

     cases gk with
     | zero => exact absurd HA.out (by simp [attestorlaw07_TreeBuilds.l0])
     | succ k2 =>
      have H := HA.out
      clear HA
      simp only [attestorlaw07_TreeBuilds.l0] at H
      by_cases bI : ah < (aS.length : Int)
      ·rw [if_pos bI] at H
       have c41b0 : decide (ah < (aS.length : Int)) = true := decide_eq_true bI
       (try simp only [ax] at c41b0)
       (try simp only [ay] at c41b0)
       clear bI
       have H' := aj H
       clear H
       have dA : wr.cell? ⟨ad, 0, none⟩ = some (.int .i64 am) := bq_ aa 0
       have dB : wr.cell? ⟨ad, 1, none⟩ = some (.int .i64 ap) := bq_ aa 1
       have dC : wr.cell? ⟨ad, 2, none⟩ = some (.int .i64 aq) := bq_ aa 2
       have dD : wr.cell? ⟨ad, 3, none⟩ = some (aR) := bq_ aa 3
       have dE := blk_frozen aa.out 0
       have dF := blk_frozen aa.out 1
       have dG := blk_frozen aa.out 2
       have dH := blk_frozen aa.out 3
       obtain ⟨c0, da, db⟩ := Kd.S_slice ab.out
       subst db
       go_wp2
       go_loopg [13] k2 (fun kq ej w' => ∃ (bw : List (S36)) (bx : List (S36)) (az : Int) (ac : List (List (S36))) (aR : Value), ej = .int .i64 az ∧ Aside0 (attestorlaw07_TreeBuilds.l1 kq bw bx ah az am ap aq ac = some r) ∧ Aside0 (kq ≤ k2) ∧ Aside0 (Kd.R k36 36 w' w.heap.size (fun k_ => some k_ ≠ ((.slice aY bk.length aW) : Value).ownBlock) (.slice aT bj.length aU) bw) ∧ Aside0 (Kd.R k36 36 w' w.heap.size (fun k_ => some k_ ≠ ((.slice aT bj.length aU) : Value).ownBlock) (.slice aY bk.length aW) bx) ∧ Aside0 (Kd.S (Kd.slice 36 k36) 22 w' w.heap.size (fun k_ => some k_ ≠ ((.slice aT bj.length aU) : Value).ownBlock ∧ some k_ ≠ ((.slice aY bk.length aW) : Value).ownBlock) aR ac) ∧ Aside0 (w'.heap[ad]? = some (.cells #[.int .i64 am, .int .i64 ap, .int .i64 aq, aR] 26 (0, 0))) ∧ Aside0 (Below w.heap.size w w'))
       case atStart => exact ⟨(bj), (bk), (0), (aS), (.slice c0 aS.length da), (by first | rfl | simp), H', ⟨Nat.le_refl _⟩, ⟨by (try simp only [ax]); (try simp only [ay]); (with_reducible repeat (first | apply Kd.R_alloc | apply Kd.R_drewN | apply Kd.R_drew)); exact aP.out⟩, ⟨by (try simp only [ax]); (try simp only [ay]); (with_reducible repeat (first | apply Kd.R_alloc | apply Kd.R_drewN | apply Kd.R_drew)); exact aQ.out⟩, ⟨by (try simp only [ax]); (try simp only [ay]); (with_reducible repeat (first | apply Kd.S_alloc | apply Kd.S_drewN | apply Kd.S_drew)); exact ab.out⟩, ⟨by (try simp only [ax]); (try simp only [ay]); exact aa.out⟩, ⟨HB.out⟩⟩
       case round =>
        clear H'
        obtain ⟨bw, bx, az, ac, aR, rfl, HA, b5, aP, aQ, ab, aa, HB⟩ := hrel
        have aG := (Kd.R_reads' aP.out).1
        rw [aG] at aP
        (try simp only [aG])
        (try simp only [aG] at aa)
        (try simp only [aG] at aQ)
        (try simp only [aG] at ab)
        have aH := (Kd.R_reads' aQ.out).1
        rw [aH] at aQ
        (try simp only [aH])
        (try simp only [aH] at aa)
        (try simp only [aH] at aP)
        (try simp only [aH] at ab)
        cases gk with
        | zero => exact absurd HA.out (by simp [attestorlaw07_TreeBuilds.l1])
        | succ k3 =>
         have H := HA.out
         clear HA
         simp only [attestorlaw07_TreeBuilds.l1] at H
         by_cases b6 : 0 ≤ ah
         ·rw [if_pos b6] at H
          have c45b0 : decide (0 ≤ ah) = true := decide_eq_true b6
          (try simp only [ax] at c45b0)
          (try simp only [ay] at c45b0)
          (try simp only [aG] at c45b0)
          (try simp only [aH] at c45b0)
          clear b6
          by_cases b7 : ah < (ac.length : Int)
          ·rw [if_pos b7] at H
           have c46b0 : decide (ah < (ac.length : Int)) = true := decide_eq_true b7
           (try simp only [ax] at c46b0)
           (try simp only [ay] at c46b0)
           (try simp only [aG] at c46b0)
           (try simp only [aH] at c46b0)
           clear b7
           by_cases bJ : az < ((rd_L3 ac ah).length : Int)
           ·rw [if_pos bJ] at H
            have c47b0 : decide (az < ((rd_L3 ac ah).length : Int)) = true := decide_eq_true bJ
            (try simp only [ax] at c47b0)
            (try simp only [ay] at c47b0)
            (try simp only [aG] at c47b0)
            (try simp only [aH] at c47b0)
            clear bJ
            by_cases b8 : 0 ≤ az
            ·rw [if_pos b8] at H
             have c48b0 : decide (0 ≤ az) = true := decide_eq_true b8
             (try simp only [ax] at c48b0)
             (try simp only [ay] at c48b0)
             (try simp only [aG] at c48b0)
             (try simp only [aH] at c48b0)
             clear b8
             obtain ⟨ct, bC⟩ : ∃ y_ : List (S36), y_ = ((rd_L3 ac ah).set (az : Int).toNat (⟨1, 2⟩ : S36)) := ⟨_, rfl⟩
             (first | rw [← bC] at H | simp only [← bC] at H)
             have cG := aj bC
             clear bC
             obtain ⟨cu, bD⟩ : ∃ y_ : List (List (S36)), y_ = (ac.set (ah : Int).toNat ct) := ⟨_, rfl⟩
             (first | rw [← bD] at H | simp only [← bD] at H)
             have cH := aj bD
             clear bD
             have H' := aj H
             clear H
             have dI : wr.cell? ⟨ad, 0, none⟩ = some (.int .i64 am) := bq_ aa 0
             have dJ : wr.cell? ⟨ad, 1, none⟩ = some (.int .i64 ap) := bq_ aa 1
             have dK : wr.cell? ⟨ad, 2, none⟩ = some (.int .i64 aq) := bq_ aa 2
             have dL : wr.cell? ⟨ad, 3, none⟩ = some (aR) := bq_ aa 3
             have dM := blk_frozen aa.out 0
             have dN := blk_frozen aa.out 1
             have dO := blk_frozen aa.out 2
             have dP := blk_frozen aa.out 3
             obtain ⟨eD, cv, dc⟩ := Kd.S_slice ab.out
             subst dc
             have bl : 0 ≤ (ah : Int) := of_decide_eq_true (by assumption)
             have bm : ah < (ac.length : Int) := of_decide_eq_true (by assumption)
             obtain ⟨bs, cw, bU, bX, bd, bf, bg⟩ := at_L3 (Kd.S_reads' ab.out).2.2 ah bl bm
             cases bX
             obtain ⟨ce619, bG, hMe619, bo⟩ := Kd.S_get ab.out [] ah bl (by first | exact bm | exact of_decide_eq_true (by assumption) | (have e_ := (Kd.S_reads' ab.out).1; omega))
             obtain ⟨cb, rfl, a7⟩ := hMe619
             have hv619_0 := bo 0 _ rfl
             rw [Nat.add_zero, show ((Kd.slice 36 k36)).sz = 1 from rfl, Nat.mul_one] at hv619_0
             replace hv619_0 := Option.some.inj (hv619_0.symm.trans bd)
             rw [hv619_0] at a7
             have bK := aj (show Kd.R k36 36 _ _ _ _ (rd_L3 ac ah) from a7)
             clear hv619_0 a7
             have cc := aj bd
             clear bo bG
             have cd := aj bg
             have ce := aj bf
             clear bg bf
             replace bl := eq_true bl
             replace bm := eq_true bm
             have bP : 0 ≤ (ah : Int) := of_decide_eq_true (by assumption)
             have bQ : ah < (ac.length : Int) := of_decide_eq_true (by assumption)
             obtain ⟨cI, ek, el, dd, bz, bL, bM⟩ := at_L3 (Kd.S_reads' ab.out).2.2 ah bP bQ
             obtain rfl : bs = cI := (by injection dd)
             obtain ⟨ce620, cx, hMe620, bV⟩ := Kd.S_get ab.out [] ah bP (by first | exact bQ | exact of_decide_eq_true (by assumption) | (have e_ := (Kd.S_reads' ab.out).1; omega))
             obtain ⟨dQ, rfl, bA⟩ := hMe620
             have hv620_0 := bV 0 _ rfl
             rw [Nat.add_zero, show ((Kd.slice 36 k36)).sz = 1 from rfl, Nat.mul_one] at hv620_0
             replace hv620_0 := Option.some.inj (hv620_0.symm.trans bz)
             rw [hv620_0] at bA
             have be := aj (show Kd.R k36 36 _ _ _ _ (rd_L3 ac ah) from bA)
             clear hv620_0 bA
             have cf := aj bz
             clear bV cx
             have bN := aj bM
             have dR := aj bL
             clear bM bL
             replace bP := eq_true bP
             replace bQ := eq_true bQ
             have ea_ := Option.some.inj (bd.symm.trans bz)
             injection ea_ with ea_ en_ ec_
             subst ea_
             subst ec_
             clear en_
             have cy : 0 ≤ (az : Int) := of_decide_eq_true (by assumption)
             have cz : (az : Int) < (((rd_L3 ac ah).length : Int) : Int) := of_decide_eq_true (by assumption)
             obtain ⟨go49, eE, cA, cR, gl49, cl49, HG49⟩ := Kd.R_form be.out (by omega)
             (first | cases cA | (injection cA with ea_ en_ ec_; (first | subst ea_ | (injection ea_ with ea_; subst ea_)); subst ec_; clear en_))
             have GB49 := aj cR
             have eF := aj HG49
             clear cR gl49 HG49
             obtain ⟨ce49, hcl49, cB, bR, hfr49⟩ := Kd.R_elem be.out z36 (az : Int) cy cz
             obtain rfl := k36_openM cB
             have em : wr.cell? ⟨go49, (az : Int).toNat * 2, none⟩ = some (.int .u64 ((rd_T36 (rd_L3 ac ah) az).f0)) := bR 0 _ rfl
             have en : wr.cell? ⟨go49, (az : Int).toNat * 2 + 1, none⟩ = some (.int .u64 ((rd_T36 (rd_L3 ac ah) az).f1)) := bR 1 _ rfl
             have hf49_0 : wr.frozen? ⟨go49, (az : Int).toNat * 2, none⟩ = false := hfr49 0
             have hf49_1 : wr.frozen? ⟨go49, (az : Int).toNat * 2 + 1, none⟩ = false := hfr49 1
             clear hcl49 bR hfr49 cB
             replace cy := eq_true cy
             replace cz := eq_true cz
             have hq52 : (ah : Int) < (ac.length : Int) := (by have h_ : (ah : Int) < ((ac.length : Int) : Int) := of_decide_eq_true (by assumption); first | exact h_ | (have e_ := (Kd.S_reads' ab.out).1; omega) | simpa only [List.length_set, List.length_set] using h_)
             obtain ⟨oki52, ce52, hcl52, de, bu, hok52, hbk52⟩ := Kd.S_borrow ab.out [] (ah : Int) (of_decide_eq_true (by assumption)) hq52
             obtain ⟨eo, rfl, bp⟩ := de
             have hv52 := bu 0 _ rfl
             rw [Nat.add_zero, show ((Kd.slice 36 k36)).sz = 1 from rfl, Nat.mul_one] at hv52
             replace hv52 := Option.some.inj (hv52.symm.trans cf.out)
             subst hv52
             clear bu hcl52
             replace bp := (show Kd.R k36 36 _ _ _ _ (rd_L3 ac ah) from bp)
             obtain ⟨cf52, hcl52, cC, bu, hfr52⟩ := Kd.R_elem bp z36 (az : Int) (of_decide_eq_true (by assumption)) (by have h_ : (az : Int) < (((rd_L3 ac ah).length : Int) : Int) := of_decide_eq_true (by assumption); first | exact h_ | (have e_ := (Kd.R_reads' bN.out).1; omega) | simpa using h_)
             obtain rfl := k36_openM cC
             have HP52 := Kd.R_seg bp (az : Int) (of_decide_eq_true (by assumption)) (by have h_ : (az : Int) < (((rd_L3 ac ah).length : Int) : Int) := of_decide_eq_true (by assumption); first | exact h_ | (have e_ := (Kd.R_reads' bN.out).1; omega) | simpa using h_) (seg := [.int .u64 1, .int .u64 2]) (j := 0) hcl52 bu (show 2 ≤ 2 from by decide) (x' := (⟨1, 2⟩ : S36)) (k36_mkM _ _ _ (⟨1, 2⟩ : S36)) (fun _ hk => hk)
             clear hcl52 bu hfr52 cC
             go_wp2_with (first | ((with_reducible refine gate_store (t := 36) (p := 80) rfl ?_); refine store_event (t := 36) (p := 80) (v := ?vo_w53) (w1 := ((wr.setCell ⟨go49, (az : Int).toNat * 2, none⟩ (.int .u64 1)).setCell ⟨go49, (az : Int).toNat * 2 + 1, none⟩ (.int .u64 2))) ?hg ?ho ?hn ?hr ?_; (case ho => rfl); (case hg => rfl); (case hn => rfl); (case hr => first | (go_simp; done) | (go_simp; rfl)); intro b9 hw; have hg : wr.grownBy b9 (some go49) := (by rw [hw]; exact HP52.2); have hz_ : Kd.R k36 36 b9 w.heap.size oki52 (.slice (some ⟨go49, 0, none⟩) (rd_L3 ac ah).length bU) ct := (by rw [hw, cG.out]; exact HP52.1); have hp_ : Kd.S (Kd.slice 36 k36) 22 b9 w.heap.size (fun k_ => some k_ ≠ (.slice aT bw.length aU : Value).ownBlock ∧ some k_ ≠ (.slice aY bx.length aW : Value).ownBlock) (.slice (some bs) ac.length cv) cu := (by rw [cH.out]; exact hbk52 hg (fun k_ e_ => by injection e_ with e_; subst e_; exact bp.1 _ rfl) (Kd.M_row hz_)); have hm_ := Kd.R_mono hz_ hok52; clear HP52 hbk52; have aE := aj (Kd.R_grown1 (aP.out) rfl hg ((be.out.1 _ rfl).1.1)); have aF := aj (Kd.R_grown1 (aQ.out) rfl hg ((be.out.1 _ rfl).1.2)); have aI := aj (hp_); have aN := aj (blk_grown aa.out hg (Kd.R_ne be.out aa.out (by decide))); have aO := aj ((by rw [hw]; exact below_set (below_set (HB.out) GB49.out) GB49.out : Below w.heap.size w b9)); have aZ := aj (hm_); have aX := aj ((Kd.R_reads' hm_).2.1); clear aP; clear aQ; clear ab; clear aa; clear HB; clear bK; clear be; have aP := aE; have aQ := aF; have ab := aI; have aa := aN; have HB := aO; have eu := aZ; have ev := aX; clear hg hw hp_ hz_ hm_ hok52))
             (try simp only [← aG, ← aH])
             go_roundg k3
             case measure => have := b2.out; have := b4.out; have := b5.out; omega
             case rel => exact ⟨(bw), (bx), (wrap64 (az + 1)), (cu), (.slice (some bs) ac.length cv), (by first | rfl | simp), H', ⟨by have := b2.out; have := b4.out; have := b5.out; omega⟩, ⟨by (try simp only [ax]); (try simp only [ay]); (try simp only [aG]); (try simp only [aH]); (with_reducible repeat (first | apply Kd.R_alloc | apply Kd.R_drewN | apply Kd.R_drew)); exact aP.out⟩, ⟨by (try simp only [ax]); (try simp only [ay]); (try simp only [aG]); (try simp only [aH]); (with_reducible repeat (first | apply Kd.R_alloc | apply Kd.R_drewN | apply Kd.R_drew)); exact aQ.out⟩, ⟨by (try simp only [ax]); (try simp only [ay]); (try simp only [aG]); (try simp only [aH]); (with_reducible repeat (first | apply Kd.S_alloc | apply Kd.S_drewN | apply Kd.S_drew)); exact ab.out⟩, ⟨by (try simp only [ax]); (try simp only [ay]); (try simp only [aG]); (try simp only [aH]); exact aa.out⟩, ⟨HB.out⟩⟩
            ·rw [if_neg b8] at H
             exact absurd H (by simp)
           ·rw [if_neg bJ] at H
            have c47b0 : decide (az < ((rd_L3 ac ah).length : Int)) = false := decide_eq_false bJ
            (try simp only [ax] at c47b0)
            (try simp only [ay] at c47b0)
            (try simp only [aG] at c47b0)
            (try simp only [aH] at c47b0)
            clear bJ
            have H' := aj H
            clear H
            have dS : wr.cell? ⟨ad, 0, none⟩ = some (.int .i64 am) := bq_ aa 0
            have dT : wr.cell? ⟨ad, 1, none⟩ = some (.int .i64 ap) := bq_ aa 1
            have dU : wr.cell? ⟨ad, 2, none⟩ = some (.int .i64 aq) := bq_ aa 2
            have dV : wr.cell? ⟨ad, 3, none⟩ = some (aR) := bq_ aa 3
            have dW := blk_frozen aa.out 0
            have dX := blk_frozen aa.out 1
            have dY := blk_frozen aa.out 2
            have dZ := blk_frozen aa.out 3
            obtain ⟨eG, df, dg⟩ := Kd.S_slice ab.out
            subst dg
            have bl : 0 ≤ (ah : Int) := of_decide_eq_true (by assumption)
            have bm : ah < (ac.length : Int) := of_decide_eq_true (by assumption)
            obtain ⟨bs, cw, bU, bX, bd, bf, bg⟩ := at_L3 (Kd.S_reads' ab.out).2.2 ah bl bm
            cases bX
            obtain ⟨ce619, bG, hMe619, bo⟩ := Kd.S_get ab.out [] ah bl (by first | exact bm | exact of_decide_eq_true (by assumption) | (have e_ := (Kd.S_reads' ab.out).1; omega))
            obtain ⟨cb, rfl, a7⟩ := hMe619
            have hv619_0 := bo 0 _ rfl
            rw [Nat.add_zero, show ((Kd.slice 36 k36)).sz = 1 from rfl, Nat.mul_one] at hv619_0
            replace hv619_0 := Option.some.inj (hv619_0.symm.trans bd)
            rw [hv619_0] at a7
            have bK := aj (show Kd.R k36 36 _ _ _ _ (rd_L3 ac ah) from a7)
            clear hv619_0 a7
            have cc := aj bd
            clear bo bG
            have cd := aj bg
            have ce := aj bf
            clear bg bf
            replace bl := eq_true bl
            replace bm := eq_true bm
            go_wp2
            (try simp only [← ax, ← ay, ← aG, ← aH])
            go_roundg k3
            case measure => have := b2.out; have := b4.out; have := b5.out; omega
            case rel => exact ⟨(bw), (bx), (wrap64 (ah + 1)), (ac), (.slice (some bs) ac.length df), (by first | rfl | simp), H', ⟨by have := b2.out; have := b4.out; have := b5.out; omega⟩, ⟨by (try simp only [ax]); (try simp only [ay]); (try simp only [aG]); (try simp only [aH]); (with_reducible repeat (first | apply Kd.R_alloc | apply Kd.R_drewN | apply Kd.R_drew)); exact aP.out⟩, ⟨by (try simp only [ax]); (try simp only [ay]); (try simp only [aG]); (try simp only [aH]); (with_reducible repeat (first | apply Kd.R_alloc | apply Kd.R_drewN | apply Kd.R_drew)); exact aQ.out⟩, ⟨by (try simp only [ax]); (try simp only [ay]); (try simp only [aG]); (try simp only [aH]); (with_reducible repeat (first | apply Kd.S_alloc | apply Kd.S_drewN | apply Kd.S_drew)); exact ab.out⟩, ⟨by (try simp only [ax]); (try simp only [ay]); (try simp only [aG]); (try simp only [aH]); exact aa.out⟩, ⟨HB.out⟩⟩
          ·rw [if_neg b7] at H
           exact absurd H (by simp)
         ·rw [if_neg b6] at H
          exact absurd H (by simp)
      ·rw [if_neg bI] at H
       have c41b0 : decide (ah < (aS.length : Int)) = false := decide_eq_false bI
       (try simp only [ax] at c41b0)
       (try simp only [ay] at c41b0)
       clear bI
       replace H := Option.bind_eq_some_iff.mp H
       obtain ⟨bW, cD, H⟩ := H
       have ep := aj cD
       clear cD
       by_cases ca : bW = true
       ·subst ca
        have H1 : ((attestorlaw07_lives.f k2).bind fun bE => (some bE)) = some r := by rw [if_pos rfl] at H; exact H
        clear H
        have H := H1
        clear H1
        replace H := Option.bind_eq_some_iff.mp H
        obtain ⟨bE, cE, H⟩ := H
        have eq := aj cE
        clear cE
        obtain rfl := Option.some.inj H
        have d0 : wr.cell? ⟨ad, 0, none⟩ = some (.int .i64 am) := bq_ aa 0
        have d1 : wr.cell? ⟨ad, 1, none⟩ = some (.int .i64 ap) := bq_ aa 1
        have d2 : wr.cell? ⟨ad, 2, none⟩ = some (.int .i64 aq) := bq_ aa 2
        have d3 : wr.cell? ⟨ad, 3, none⟩ = some (aR) := bq_ aa 3
        have d4 := blk_frozen aa.out 0
        have d5 := blk_frozen aa.out 1
        have d6 := blk_frozen aa.out 2
        have d7 := blk_frozen aa.out 3
        obtain ⟨eH, eI, dh⟩ := Kd.S_slice ab.out
        subst dh
        go_wp2_with (first | ((with_reducible refine gate_callee (f := 18) rfl ?_); refine goesL_ (some 83) rfl rfl Tryd.func18 (by kernel_rfl) rfl #[.slice aT bj.length aU, .slice aY bk.length aW] rfl (by (try simp only [List.map_toArray, List.map_cons, List.map_nil]); first | done | rfl | (go_simp; done)) ?_; (with_reducible refine (attestorref07_Equal.calls k2 _ _ bj _ _ bk true _ ?side1 ?side2 ?side3 ?side4 ep.out).mono ?_); (case side1 => exact (Kd.R_reads' aP.out).2.2); (case side2 => exact (Kd.R_reads' aP.out).2.1); (case side3 => exact (Kd.R_reads' aQ.out).2.2); (case side4 => exact (Kd.R_reads' aQ.out).2.1); rintro e w' ⟨rfl, ⟨nd, rfl⟩⟩; refine ⟨_, rfl, ?_⟩) | (go_at_call 21; (with_reducible refine (attestorlaw07_lives.calls k2  bE _ ?side1 eq.out).mono ?_); (case side1 => repeat (first | exact (GL.below HRG.out (by first | exact HB.out | exact below_drew1 HB.out | exact pw_below_drewN HB.out _)) | (with_reducible refine GL.alloc ?_ _) | (with_reducible refine GL.drewN ?_ _) | (with_reducible refine GL.drew ?_))); rintro e eS ⟨rfl, hb⟩; have aE := aj (Kd.R_below (by (with_reducible repeat (first | apply Kd.R_alloc | apply Kd.R_drewN | apply Kd.R_drew)); exact aP.out) hb); have aF := aj (Kd.R_below (by (with_reducible repeat (first | apply Kd.R_alloc | apply Kd.R_drewN | apply Kd.R_drew)); exact aQ.out) hb); have aI := aj (Kd.S_below (by (with_reducible repeat (first | apply Kd.S_alloc | apply Kd.S_drewN | apply Kd.S_drew)); exact ab.out) hb); have aO := aj (blk_below (by exact aa.out) hb); have aX := aj (below_step (by first | exact HB.out | exact below_drew1 HB.out | exact pw_below_drewN HB.out _) hb); clear aP; clear aQ; clear ab; clear aa; clear HB; have aP := aE; have aQ := aF; have ab := aI; have aa := aO; have HB := aX))
        go_ret
        exact ⟨by first | rfl | (simp [errW_none, errW_some] <;> rfl) | (simp [*, errW_none, errW_some] <;> rfl), HB.out⟩
       ·replace ca := Bool.eq_false_iff.mpr ca
        subst ca
        have H1 : (none) = some r := by rw [if_neg (show ¬ (false = true) by decide)] at H; exact H
        clear H
        have H := H1
        clear H1
        exact absurd H (by simp)

end Go.Proofs.YtpnpmeogffodgaaDoor.Q
end
section
namespace Go.Proofs.YtpnpmeogffodgaaDoor.Q
open Go.RowKit Go.Proofs.YtpnpmeogffodgaaDoorW.PrintWords Go.Proofs.YtpnpmeogffodgaaDoorW.PrintLast Go.Proofs.YtpnpmeogffodgaaDoorW.PrintMore
open Go.Proofs.YtpnpmeogffodgaaDoor.Num
set_option linter.unusedVariables false
set_option linter.unusedSimpArgs false
theorem rup_l {f : Int} (hv : 0 ≤ f ∧ f < 4) (l : List S36) (hnn : ∀ d ∈ l, nnD d) (c a b d : Int) (ls : List (List S36)) (hls : ls.length ≤ 100) (h : Nat) (hl : l.length = 2 * h) (hb : h ≤ 1000) : ∀ m j k (acc : List S36), m + j = h → 131 ≤ k → acc.length = j → attestorref07_Build.l1 (k + m + 1) f c l acc ((2 * j : Nat) : Int) a b d ls = attestorref07_Build.l0 k f c (acc ++ upS f (l.drop (2 * j))) a b d (ls ++ [acc ++ upS f (l.drop (2 * j))])
  | 0, j, k, acc, hj, hk, ha => by
    rw [Nat.add_zero, attestorref07_Build.l1, if_neg (by omega), if_pos (by omega), List.drop_eq_nil_of_le (by omega), show upS f [] = [] from rfl, List.append_nil]
  | m + 1, j, k, acc, hj, hk, ha => by
    have h0 : 2 * j < l.length := by omega
    have h1 : 2 * j + 1 < l.length := by omega
    have e0 : rd_T36 l ((2 * j : Nat) : Int) = l[2 * j] := by unfold rd_T36; rw [Int.toNat_natCast]; simp [List.getD, h0]
    have e1 : rd_T36 l ((2 * j + 1 : Nat) : Int) = l[2 * j + 1] := by unfold rd_T36; rw [Int.toNat_natCast]; simp [List.getD, h1]
    have w1 : wrap64 (((2 * j : Nat) : Int) + 1) = ((2 * j + 1 : Nat) : Int) := by unfold wrap64; omega
    have w2 : wrap64 (((2 * j : Nat) : Int) + 2) = ((2 * (j + 1) : Nat) : Int) := by unfold wrap64; omega
    have hq := (node_s hv l[2 * j] l[2 * j + 1] (hnn _ (List.getElem_mem h0)) (hnn _ (List.getElem_mem h1)))
    have hr : attestorref06_Node.f (k + m + 1) f l[2 * j].f0 l[2 * j].f1 l[2 * j + 1].f0 l[2 * j + 1].f1 = some ((nodeS f l[2 * j] l[2 * j + 1]).f0, (nodeS f l[2 * j] l[2 * j + 1]).f1) := by
      obtain ⟨x0, g0⟩ := Int.eq_ofNat_of_zero_le (hnn _ (List.getElem_mem h0)).1
      obtain ⟨x1, g1⟩ := Int.eq_ofNat_of_zero_le (hnn _ (List.getElem_mem h0)).2
      obtain ⟨x2, g2⟩ := Int.eq_ofNat_of_zero_le (hnn _ (List.getElem_mem h1)).1
      obtain ⟨x3, g3⟩ := Int.eq_ofNat_of_zero_le (hnn _ (List.getElem_mem h1)).2
      have hq1 := hq.1
      rw [g0, g1, g2, g3] at hq1 ⊢
      obtain ⟨u, v, k1, k2⟩ := node_nat hv x0 x1 x2 x3 (k + m + 1) (by omega)
      rw [k2, ← k1, hq1]
    have ih := rup_l hv l hnn c a b d ls hls h hl hb m (j + 1) k (acc ++ [nodeS f l[2 * j] l[2 * j + 1]]) (by omega) hk (by rw [List.length_append, ha]; rfl)
    rw [show k + (m + 1) + 1 = (k + m + 1) + 1 by omega, attestorref07_Build.l1, if_pos (by omega), if_pos (by omega), w1, if_pos (by omega), if_pos (by omega), e0, e1]
    refine bnd hr ?_
    rw [if_pos (by omega), w2]
    refine ih.trans ?_
    rw [List.drop_eq_getElem_cons h0, List.drop_eq_getElem_cons h1, upS, show 2 * (j + 1) = 2 * j + 1 + 1 by omega, List.append_assoc]
    rfl
theorem rlev_l {f : Int} (hv : 0 ≤ f ∧ f < 4) (c : Nat) (a b d : Int) : ∀ n k (l : List S36) (ls : List (List S36)), n + c ≤ 10 → l.length = 2 ^ (n + c) → (∀ d ∈ l, nnD d) → ls.length + n ≤ 90 → 140 + 2 * l.length + 2 * n ≤ k → attestorref07_Build.l0 k f (c : Int) l a b d ls = some (a, b, d, ls ++ (lvl f n l).drop 1, 0)
  | 0, k, l, ls, hn, hl, h, hls, hk => by
    obtain ⟨k, rfl⟩ : ∃ q, k = q + 1 := ⟨k - 1, by omega⟩
    rw [Nat.zero_add] at hl
    rw [attestorref07_Build.l0, if_pos (by omega), shl_of c (by omega), if_neg (by omega), lvl]
    simp
  | n + 1, k, l, ls, hn, hl, h, hls, hk => by
    have hp : 2 ^ c < 2 ^ (n + 1 + c) := Nat.pow_lt_pow_right (by omega) (by omega)
    have hb : 2 ^ (n + 1 + c) ≤ 2 ^ 10 := Nat.pow_le_pow_right (by omega) hn
    have e2 : 2 ^ (n + 1 + c) = 2 * 2 ^ (n + c) := by rw [show n + 1 + c = (n + c) + 1 by omega, Nat.pow_succ]; omega
    have hul := upS_len f _ l (Nat.le_refl _)
    obtain ⟨k, rfl⟩ : ∃ q, k = (q + 2 ^ (n + c) + 1) + 1 := ⟨k - 2 ^ (n + c) - 2, by omega⟩
    rw [attestorref07_Build.l0, if_pos (by omega), shl_of c (by omega), if_pos (by omega)]
    refine (rup_l hv l h c a b d ls (by omega) (2 ^ (n + c)) (by omega) (by omega) (2 ^ (n + c)) 0 k [] (by omega) (by omega) rfl).trans ?_
    rw [Nat.mul_zero, List.drop_zero, List.nil_append]
    refine (rlev_l hv c a b d n k (upS f l) (ls ++ [upS f l]) (by omega) (by omega) (fun d hd => ((upL_s hv _ l (Nat.le_refl _) h).2 d hd).nn) (by rw [List.length_append, List.length_singleton]; omega) (by omega)).trans ?_
    cases n with
    | zero => simp [lvl]
    | succ n => simp [lvl]
theorem build_both (f a2 : Int) (l : List S36) (hl : l.length ≤ 70) (hnn : ∀ d ∈ l, nnD d) (k : Nat) (hk : 2000 ≤ k) : ∃ (u0 u1 u2 : Int) (us : List (List S36)) (e : Int), us.length ≤ 8 ∧ (∀ r ∈ us, r.length ≤ 70) ∧ tree_Build.f k f l a2 = some (u0, u1, u2, us, e) ∧ attestorref07_Build.f k f l a2 = some (u0, u1, u2, us, e) := by
  have no : ∀ r ∈ ([] : List (List S36)), r.length ≤ 70 := fun r hr => by cases hr
  obtain ⟨k, rfl⟩ : ∃ q, k = q + 1 := ⟨k - 1, by omega⟩
  have jt : attestorref07_Build.j0 (k + 1) f l a2 (lgI (l.length : Int)) true = some (0, 0, 0, [], 1) := by rw [attestorref07_Build.j0, if_pos rfl]
  unfold tree_Build.f attestorref07_Build.f
  rw [height_f, Option.bind_some, valid_f, Option.bind_some, Log_f _ (k + 1) (by omega), Option.bind_some, rvalid_f, Option.bind_some]
  by_cases hv : 0 ≤ f ∧ f < 4
  · rw [decide_eq_true hv, if_pos rfl, if_pos rfl]
    by_cases c1 : lgI (l.length : Int) < 0
    · rw [if_pos c1, if_pos c1, jt]; exact ⟨_, _, _, _, _, by simp, no, rfl, rfl⟩
    rw [if_neg c1, if_neg c1]
    by_cases c2 : a2 < 0
    · rw [if_pos c2, if_pos c2, jt]; exact ⟨_, _, _, _, _, by simp, no, rfl, rfl⟩
    rw [if_neg c2, if_neg c2]
    by_cases c3 : lgI (l.length : Int) < a2
    · rw [if_pos c3, decide_eq_true (show a2 > lgI (l.length : Int) from c3), jt]; exact ⟨_, _, _, _, _, by simp, no, rfl, rfl⟩
    rw [if_neg c3, decide_eq_false (show ¬ a2 > lgI (l.length : Int) from c3), attestorref07_Build.j0, if_neg (by decide), proper_f, Option.bind_some, All_f f l k (by omega) (by omega), Option.bind_some]
    cases hok : l.all (okD (fp f)) with
    | false => rw [if_neg (by decide), if_neg (by decide)]; exact ⟨_, _, _, _, _, by simp, no, rfl, rfl⟩
    | true =>
      have hp : ∀ d ∈ l, pD f d := fun d hd => by
        have := List.all_eq_true.mp hok d hd
        simp only [okD, Bool.and_eq_true, decide_eq_true_eq] at this
        exact ⟨⟨(hnn d hd).1, this.1⟩, (hnn d hd).2, this.2⟩
      obtain ⟨h, hh1, hh2, hh3⟩ := lgI_pow _ (Int.not_lt.mp c1)
      obtain ⟨c, rfl⟩ := Int.eq_ofNat_of_zero_le (Int.not_lt.mp c2)
      rw [hh2] at c3
      obtain ⟨n, rfl⟩ : ∃ n, h = n + c := ⟨h - c, by omega⟩
      have hlen : l.length = 2 ^ (n + c) := by omega
      have hnc : n + c ≤ 6 := by
        apply Nat.le_of_not_lt
        intro hgt
        have : 2 ^ 7 ≤ 2 ^ (n + c) := Nat.pow_le_pow_right (by omega) hgt
        omega
      rw [if_pos rfl, if_pos rfl, shl_of c (by omega), hh2, List.nil_append, if_pos (by simp; omega)]
      refine ⟨f, ((n + c : Nat) : Int), (c : Int), lvl f n l, 0, by rw [lvl_len]; omega, lvl_rows f 70 n l hl, bnd (riseL_s hv c n (k + 1) l (by omega) hlen hnn) rfl, bnd rfl ?_⟩
      rw [if_pos (by simp), List.nil_append, rlev_l hv c f ((n + c : Nat) : Int) (c : Int) n k l [l] (by omega) hlen hnn (by simp; omega) (by omega)]
      have : [l] ++ (lvl f n l).drop 1 = lvl f n l := by cases n <;> simp [lvl]
      rw [this]
  · rw [decide_eq_false hv, if_neg (by decide), if_neg (by decide), jt]; exact ⟨_, _, _, _, _, by simp, no, rfl, rfl⟩
theorem wr_in (o p : List S36) (f h c : Int) (i : Nat) : ∀ m j k (ls : List (List S36)) (hi : i < ls.length), ls.length ≤ 100 → (∀ r ∈ ls, r.length ≤ 100) → m + j = (ls[i]).length → ∃ ls' : List (List S36), ls'.length = ls.length ∧ (∀ r ∈ ls', r.length ≤ 100) ∧ attestorlaw07_TreeBuilds.l1 (k + m + 1) o p (i : Int) (j : Int) f h c ls = attestorlaw07_TreeBuilds.l0 k o p ((i + 1 : Nat) : Int) f h c ls'
  | 0, j, k, ls, hi, hl, hr, hj => ⟨ls, rfl, hr, by
    have := hr _ (List.getElem_mem hi)
    rw [Nat.add_zero, attestorlaw07_TreeBuilds.l1, if_pos (by omega), if_pos (by omega), rd_at hi, if_neg (by omega), show wrap64 ((i : Int) + 1) = ((i + 1 : Nat) : Int) by unfold wrap64; omega]⟩
  | m + 1, j, k, ls, hi, hl, hr, hj => by
    have hb := hr _ (List.getElem_mem hi)
    obtain ⟨ls', h1, h2, h3⟩ := wr_in o p f h c i m (j + 1) k (ls.set i ((ls[i]).set j ⟨1, 2⟩)) (by rw [List.length_set]; exact hi) (by rw [List.length_set]; exact hl) (fun r hm => by
      rcases List.mem_or_eq_of_mem_set hm with hm | rfl
      · exact hr r hm
      · rw [List.length_set]; exact hb) (by rw [List.getElem_set_self, List.length_set]; omega)
    refine ⟨ls', by rw [h1, List.length_set], h2, ?_⟩
    rw [show k + (m + 1) + 1 = (k + m + 1) + 1 by omega, attestorlaw07_TreeBuilds.l1, if_pos (by omega), if_pos (by omega), rd_at hi, if_pos (by omega), if_pos (by omega), show wrap64 ((j : Int) + 1) = ((j + 1 : Nat) : Int) by unfold wrap64; omega, Int.toNat_natCast, Int.toNat_natCast]
    exact h3
theorem wr_out (o : List S36) (ho : o.length ≤ 1000) (f h c : Int) : ∀ m i k (ls : List (List S36)), m + i = ls.length → ls.length ≤ 100 → (∀ r ∈ ls, r.length ≤ 100) → 1100 + 110 * m ≤ k → attestorlaw07_TreeBuilds.l0 k o o (i : Int) f h c ls = some true
  | 0, i, k, ls, hi, hl, hr, hk => by
    obtain ⟨k, rfl⟩ : ∃ q, k = q + 1 := ⟨k - 1, by omega⟩
    rw [attestorlaw07_TreeBuilds.l0, if_neg (by omega)]
    refine bnd (equal_self o ho k (by omega)) ?_
    rw [if_pos rfl]
    exact bnd (lives_true k (by omega)) rfl
  | m + 1, i, k, ls, hi, hl, hr, hk => by
    have hlt : i < ls.length := by omega
    have hb := hr _ (List.getElem_mem hlt)
    obtain ⟨k, rfl⟩ : ∃ q, k = (q + (ls[i]).length + 1) + 1 := ⟨k - (ls[i]).length - 2, by omega⟩
    obtain ⟨ls', h1, h2, h3⟩ := wr_in o o f h c i (ls[i]).length 0 k ls hlt hl hr rfl
    rw [attestorlaw07_TreeBuilds.l0, if_pos (by omega)]
    refine h3.trans (wr_out o ho f h c m (i + 1) k ls' (by omega) (by omega) h2 (by omega))
theorem builds_true (f : Int) (l : List S36) (a2 : Int) (hnn : ∀ d ∈ l, nnD d) : attestorlaw07_TreeBuilds.f 4000 f l a2 = some true := by
  have hnn' : ∀ d ∈ l.take 70, nnD d := fun d hd => hnn d (List.mem_of_mem_take hd)
  have hl : (l.take 70).length ≤ 70 := List.length_take_le ..
  obtain ⟨u0, u1, u2, us, e, h1, h2, h3, h4⟩ := build_both f a2 (l.take 70) hl hnn' 4000 (by omega)
  have h2' : ∀ r ∈ us, r.length ≤ 1000 := fun r hr => Nat.le_trans (h2 r hr) (by omega)
  obtain ⟨b, v1, v2, _⟩ := valid_b u0 u1 u2 us h1 h2' 4000 (by omega)
  obtain ⟨cp, c0, c1, c2⟩ := cap_b u0 u1 u2 us h1 h2' 4000 (by omega)
  unfold attestorlaw07_TreeBuilds.f
  refine bnd (cut_f l 70 (by omega)) (bnd ((cut_f (l.take 70) 70 (by omega)).trans (by rw [List.take_take, Nat.min_self])) (bnd h3 (bnd h4 ?_)))
  rw [if_pos rfl]
  refine bnd (same_self u0 u1 u2 us (by omega) h2' 4000 (by omega)) ?_
  rw [if_pos rfl]
  refine bnd v1 (bnd v2 ?_)
  rw [bne_self_eq_false, if_neg (by decide)]
  refine bnd c1 (bnd c2 (bnd (equal_self cp c0 4000 (by omega)) ?_))
  show attestorlaw07_TreeBuilds.j0 (3999 + 1) (l.take 70) (l.take 70) (!true) u0 u1 u2 us = some true
  rw [attestorlaw07_TreeBuilds.j0, if_neg (by decide)]
  exact wr_out (l.take 70) (by omega) u0 u1 u2 us.length 0 3999 us rfl (by omega) (fun r hr => Nat.le_trans (h2 r hr) (by omega)) (by omega)
end Go.Proofs.YtpnpmeogffodgaaDoor.Q
end
section
namespace Go.Proofs.YtpnpmeogffodgaaDoor.Q
open Go.ChangeShapes Go.WideShapes Go.ChangeAt Go.WideMaps Go.WideElems Go.RowKit
open Go.Proofs.YtpnpmeogffodgaaDoorW.PrintWords Go.Proofs.YtpnpmeogffodgaaDoorW.PrintLast Go.Proofs.YtpnpmeogffodgaaDoorW.PrintMore
open Go.Proofs.YtpnpmeogffodgaaDoor.Opn
set_option linter.unusedVariables false

set_option maxRecDepth 100000 in
theorem treeBuilds_lifted (os : Os) (started : os.Started) (H : Type) (enc : TypeId × Value → H) :
    ReturnsInHanded {} Tryd.checked os 3 .any (fun w args => (Rows.treeBuildsSpec.pre enc Tryd.prog Tryd.f3 [] false w args ∧ laidMetH Tryd.prog laid1 w) ∧ sizedMet enc Tryd.prog Tryd.f3 (OpenSpec.ofChange Rows.treeBuildsSpec) false w args)
      (Rows.treeBuildsSpec.post enc Tryd.prog Tryd.f3 false true false false) := by
  refine returnsInHanded_of_change_and (C := Tryd.checked) (X := (fun w _ => laidMetH Tryd.prog laid1 w)) (fun _ _ _ hh h => h.of_heap hh) own started (by kernel_rfl) Tryd.func3
    (ChangeSpec.witness_shaped (enc := enc) (C := Tryd.checked) (os := os) (X := (fun w _ => laidMetH Tryd.prog laid1 w)) false (World.doorLaid Tryd.prog 400 os) #[.int .i64 0, .slice none 0 0, .int .i64 0] 8 rfl (World.shaped_of_RefB (by kernel_rfl) (by kernel_rfl)) (by kernel_rfl) (by kernel_rfl) (by kernel_rfl) (door_met os _)) ?_
  intro W base args ds gs before hval0 hW _ _ hL _
  have hval : ∀ (j : Nat) t v, Tryd.f3.params[j]? = some t → args[j]? = some v → Value.okWide Tryd.prog W .any base t v := hval0
  have hW' := hW
  obtain ⟨p, q, hA0, hV, rfl, hfz, hnd⟩ := hW
  have hA : DataW.TrodAll enc Tryd.prog W 0 (fun _ => true) true Tryd.f3.params.toList args.toList ds p := hA0
  rw [Tryd.params3] at hA hval
  obtain ⟨v0, vs0, d0, ds0, p0, q0, hargs, rfl, rfl, h0, r0⟩ := trodAll_cons hA
  obtain ⟨v1, vs1, d1, ds1, p1, q1, rfl, rfl, rfl, h1, r1⟩ := trodAll_cons r0
  obtain ⟨v2, vs2, d2, ds2, p2, q2, rfl, rfl, rfl, h2, r2⟩ := trodAll_cons r1
  obtain ⟨rfl, rfl, rfl⟩ := trodAll_nil r2
  obtain rfl : args = #[v0, v1, v2] := by cases args; simp_all
  obtain ⟨rfl, rfl⟩ := trodVars_none hV
  obtain ⟨a0, rfl, rfl, rfl, w0⟩ := open_int Tryd.underlying3 (hval 0 3 v0 rfl rfl) h0
  obtain ⟨a1, len1, cap1, rfl⟩ := okWide_slice Tryd.underlying22 (hval 1 22 v1 rfl rfl)
  have k1 := h1
  have lt1 : ∀ x ∈ p1, x.block < W.heap.size := by obtain ⟨m, hm⟩ := k1; exact DataW.trod_lt m _ _ _ hm
  obtain ⟨m1, hm1⟩ := h1
  obtain ⟨l1, ⟨A1, c1, hc1, hle1, hC1⟩, hw1⟩ := opn22 (enc := enc) (W := W) m1 _ _ hm1
  simp only [Value.cells, List.cons.injEq, and_true, Value.slice.injEq] at hc1
  obtain ⟨rfl, rfl, rfl⟩ := hc1
  obtain ⟨a2, rfl, rfl, rfl, w2⟩ := open_int Tryd.underlying3 (hval 2 3 v2 rfl rfl) h2
  clear hA0 hval0
  refine (attestorlaw07_TreeBuilds.calls 4000 a0 a1 cap1 l1 a2 true W hC1 hle1 (gl_of_laid hL) (builds_true a0 l1 a2 (nn_of hw1))).mono fun e W' ⟨he, bel⟩ => ?_
  subst he
  exact ⟨_, rfl, _, _, _, [], _, [], hW', trodAll_mk1 (shut_bool Tryd.underlying4 _), (trodAll_cons_mk (shut_int Tryd.underlying3 w0) (trodAll_cons_mk (Below.trod laidOut (by kernel_rfl) (of_decide_eq_true (by kernel_rfl)) k1 bel lt1) (trodAll_cons_mk (shut_int Tryd.underlying3 w2) trodAll_mk0))), rfl, bel.frame _, fun h => by cases h⟩
theorem treeBuilds_row : Rows.TreeBuildsSaid :=
  OpenClaim.holds_of_wide 3 Tryd.f3 rfl rfl rfl rfl rfl rfl rfl ⟨rfl, rfl, rfl, rfl, rfl⟩ rfl rfl rfl rfl rfl (by kernel_rfl) Tryd.func3 (by kernel_rfl)
    (of_decide_eq_true (by kernel_rfl)) (by unfold Func.isWrapper; first | (rw [if_pos (by decide +kernel)]; kernel_rfl) | (rw [if_neg (by decide +kernel)]; exact ⟨rfl, rfl⟩))
    (fun os started H enc _ => treeBuilds_lifted os started H enc)
theorem treeBuilds_card : Rows.TreeBuildsCardSaid :=
  Claim7.holds_tied_plain_at .later [] [.widerDeep, .data, .data] true Rows.treeBuildsCard.stood.harness false
    treeBuilds_row (fun _ h => by cases h) (by kernel_rfl) (fun _ h => by cases h) treeBuilds_row_tie rfl ⟨rfl, rfl⟩ (by kernel_rfl) rfl
    (fun f fn hf hfn => by
      obtain rfl : f = 3 := Option.some.inj ((show Tryd.prog.funcNamed "attestor/attestorlaw07.TreeBuilds" = some 3 by kernel_rfl).symm.trans hf) |>.symm
      obtain rfl : fn = Tryd.f3 := (Option.some.inj (Tryd.func3.symm.trans hfn)).symm
      exact ⟨by kernel_rfl, fun j t ht => by
        rw [Tryd.params3] at ht
        have hm : t ∈ [3, 22, 3] := by simpa using Array.mem_of_getElem? ht
        have hall : ([3, 22, 3].all fun u => !Tryd.prog.wantsStandIn u) = true := by kernel_rfl
        exact (show Tryd.prog.wantsStandIn t = false by simpa using List.all_eq_true.1 hall t hm)⟩)
    (by kernel_rfl)
end Go.Proofs.YtpnpmeogffodgaaDoor.Q
namespace Go.Proofs.YtpnpmeogffodgaaDoor
/-- Under a short name, for the claim. -/
theorem treeBuilds_holds : Rows.TreeBuildsCardSaid := Q.treeBuilds_card
end Go.Proofs.YtpnpmeogffodgaaDoor
#print axioms Go.Proofs.YtpnpmeogffodgaaDoor.treeBuilds_holds
end
