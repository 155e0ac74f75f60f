/- Several texts in one, in build order. What they prove, each by its own first remark:
Written by our own copy of a printing program (a twelfth state) out of the translation. Not trusted: Lean checks it.
SpongePerms's plain law: Perm and Inverse of the layer and of the reference agree.
For all fields and states attestorlaw06.SpongePerms returns true, where the variables 'fields' and 'undo' hold what the program's text lays (the card ties that): no other condition. -/
import Derived.Test.YtjfekjblnoagkaaDoorM2
import Derived.Test.YtjfekjblnoagkaaDoorM4
import Derived.Test.YtjfekjblnoagkaaDoorM5
import Derived.Test.YtjfekjblnoagkaaDoorM3
import Derived.Test.YtjfekjblnoagkaaDoorM6
import Derived.Test.YtjfekjblnoagkaaDoorCards
import Derived.Test.YtjfekjblnoagkaaDoorTie
import Derived.SevenTiedAt
import Derived.SizedLaws
import Derived.ShutString
import Derived.ChangeOld
import Derived.ProofKit
import Derived.Below
import Derived.OpenShut
section
namespace Go.Proofs.YtjfekjblnoagkaaDoor.Q
open Go.RowKit Go.Proofs.YtjfekjblnoagkaaDoorW.PrintWords Go.Proofs.YtjfekjblnoagkaaDoorW.PrintLast Go.Proofs.YtjfekjblnoagkaaDoorW.PrintMore
attribute [local go_sem] max2_int min2_int max_two min_two max_three min_three max_four min_four   -- for this text's walks alone
set_option linter.unusedVariables false
set_option linter.unusedSimpArgs false

/-! ### attestorref06_back: function 46 -/
mutual
def attestorref06_back.l0 : Nat → Int → Int → Int → Int → Int → Int → Int → Int → Int → Int → Int → Int → Int → Int → Int → Int → Int → Int → Int → Option (Int × Int × Int × Int)
  | 0, _, _, _, _, _, _, _, _, _, _, _, _, _, _, _, _, _, _, _ => none
  | k + 1, x0, x1, x10, x289000, x289001, x289002, x289003, x293000, x293001, x293002, x293003, x294000, x294001, x294002, x294003, x295000, x295001, x295002, x295003 => if x10 < 4 then (attestorref06_back.l1 k x0 x1 x10 0 x289000 x289001 x289002 x289003 x293000 x293001 x293002 x293003 x294000 x294001 x294002 x294003 x295000 x295001 x295002 x295003) else (some (x295000, x295001, x295002, x295003))
def attestorref06_back.l1 : Nat → Int → Int → Int → Int → Int → Int → Int → Int → Int → Int → Int → Int → Int → Int → Int → Int → Int → Int → Int → Int → Option (Int × Int × Int × Int)
  | 0, _, _, _, _, _, _, _, _, _, _, _, _, _, _, _, _, _, _, _, _ => none
  | k + 1, x0, x1, x10, x11, x289000, x289001, x289002, x289003, x293000, x293001, x293002, x293003, x294000, x294001, x294002, x294003, x295000, x295001, x295002, x295003 => if x11 < 4 then (if 0 ≤ x10 then (if x10 < 4 then (if 0 ≤ x11 then (if 0 ≤ (Int.tmod (wrap64 (x10 + x11)) 4) then (if (Int.tmod (wrap64 (x10 + x11)) 4) < 4 then ((attestorref01_Mul.f x0 (rd ([x293000, x293001, x293002, x293003] : List Int) x11) (rd ([x289000, x289001, x289002, x289003] : List Int) (Int.tmod (wrap64 (x10 + x11)) 4))).bind fun t295 => ((attestorref01_Add.f x0 (rd ([x295000, x295001, x295002, x295003] : List Int) x10) t295).bind fun t296 => (attestorref06_back.l1 k x0 x1 x10 (wrap64 (x11 + 1)) x289000 x289001 x289002 x289003 x293000 x293001 x293002 x293003 x294000 x294001 x294002 x294003 (updv x295000 0 x10 t296) (updv x295001 1 x10 t296) (updv x295002 2 x10 t296) (updv x295003 3 x10 t296)))) else (none)) else (none)) else (none)) else (none)) else (none)) else (if 0 ≤ x10 then (if x10 < 4 then ((attestorref01_Inv.f k x0 35).bind fun t297 => ((attestorref01_Mul.f x0 (rd ([x295000, x295001, x295002, x295003] : List Int) x10) t297).bind fun t298 => (if 0 ≤ x0 then (if x0 < 4 then ((attestorref01_Pow.f k x0 (rd ([(updv x295000 0 x10 t298), (updv x295001 1 x10 t298), (updv x295002 2 x10 t298), (updv x295003 3 x10 t298)] : List Int) x10) (rd ([x294000, x294001, x294002, x294003] : List Int) x0)).bind fun t299 => ((attestorref06_Constant.f k x0 x1 x10).bind fun t300 => ((attestorref01_Sub.f x0 (rd ([(updv (updv x295000 0 x10 t298) 0 x10 t299), (updv (updv x295001 1 x10 t298) 1 x10 t299), (updv (updv x295002 2 x10 t298) 2 x10 t299), (updv (updv x295003 3 x10 t298) 3 x10 t299)] : List Int) x10) t300).bind fun t301 => (attestorref06_back.l0 k x0 x1 (wrap64 (x10 + 1)) x289000 x289001 x289002 x289003 x293000 x293001 x293002 x293003 x294000 x294001 x294002 x294003 (updv (updv (updv x295000 0 x10 t298) 0 x10 t299) 0 x10 t301) (updv (updv (updv x295001 1 x10 t298) 1 x10 t299) 1 x10 t301) (updv (updv (updv x295002 2 x10 t298) 2 x10 t299) 2 x10 t301) (updv (updv (updv x295003 3 x10 t298) 3 x10 t299) 3 x10 t301))))) else (none)) else (none)))) else (none)) else (none))
end
def attestorref06_back.f (k : Nat) (a0 : Int) (a1 : Int) (a2_0 : Int) (a2_1 : Int) (a2_2 : Int) (a2_3 : Int) : Option (Int × Int × Int × Int) := (attestorref01_Neg.f a0 4).bind fun t290 => ((attestorref01_Neg.f a0 11).bind fun t291 => (attestorref06_back.l0 k a0 a1 0 a2_0 a2_1 a2_2 a2_3 t290 3 t291 17 77 171 7373 665496235 0 0 0 0))
theorem attestorref06_back.mono_l : ∀ k, (∀ y0 y1 y2 y3 y4 y5 y6 y7 y8 y9 y10 y11 y12 y13 y14 y15 y16 y17 y18, LeO (attestorref06_back.l0 k y0 y1 y2 y3 y4 y5 y6 y7 y8 y9 y10 y11 y12 y13 y14 y15 y16 y17 y18) (attestorref06_back.l0 (k + 1) y0 y1 y2 y3 y4 y5 y6 y7 y8 y9 y10 y11 y12 y13 y14 y15 y16 y17 y18)) ∧ (∀ y0 y1 y2 y3 y4 y5 y6 y7 y8 y9 y10 y11 y12 y13 y14 y15 y16 y17 y18 y19, LeO (attestorref06_back.l1 k y0 y1 y2 y3 y4 y5 y6 y7 y8 y9 y10 y11 y12 y13 y14 y15 y16 y17 y18 y19) (attestorref06_back.l1 (k + 1) y0 y1 y2 y3 y4 y5 y6 y7 y8 y9 y10 y11 y12 y13 y14 y15 y16 y17 y18 y19))
  | 0 => ⟨fun _ _ _ _ _ _ _ _ _ _ _ _ _ _ _ _ _ _ _ r h => by simp [attestorref06_back.l0] at h, fun _ _ _ _ _ _ _ _ _ _ _ _ _ _ _ _ _ _ _ _ r h => by simp [attestorref06_back.l1] at h⟩
  | k + 1 => by
    obtain ⟨ih0, ih1⟩ := attestorref06_back.mono_l k
    refine ⟨?_, ?_⟩
    · intro y0 y1 y2 y3 y4 y5 y6 y7 y8 y9 y10 y11 y12 y13 y14 y15 y16 y17 y18
      unfold attestorref06_back.l0
      repeat' first
      | (with_reducible exact ih0 _ _ _ _ _ _ _ _ _ _ _ _ _ _ _ _ _ _ _)
      | (with_reducible exact ih1 _ _ _ _ _ _ _ _ _ _ _ _ _ _ _ _ _ _ _ _)
      | (with_reducible exact attestorref01_Inv.mono _ _ _)
      | (with_reducible exact attestorref01_Pow.mono _ _ _ _)
      | (with_reducible exact attestorref06_Constant.mono _ _ _ _)
      | (with_reducible exact LeO.refl _)
      | (with_reducible exact LeO.none _)
      | (with_reducible refine LeO.ite ?_ ?_)
      | (with_reducible refine LeO.bind ?_ (fun _ => ?_))
      | exact ih0 _ _ _ _ _ _ _ _ _ _ _ _ _ _ _ _ _ _ _
      | exact ih1 _ _ _ _ _ _ _ _ _ _ _ _ _ _ _ _ _ _ _ _
      | exact attestorref01_Inv.mono _ _ _
      | exact attestorref01_Pow.mono _ _ _ _
      | exact attestorref06_Constant.mono _ _ _ _
      | exact LeO.none _
      | refine LeO.ite ?_ ?_
      | refine LeO.bind ?_ (fun _ => ?_)
    · intro y0 y1 y2 y3 y4 y5 y6 y7 y8 y9 y10 y11 y12 y13 y14 y15 y16 y17 y18 y19
      unfold attestorref06_back.l1
      repeat' first
      | (with_reducible exact ih0 _ _ _ _ _ _ _ _ _ _ _ _ _ _ _ _ _ _ _)
      | (with_reducible exact ih1 _ _ _ _ _ _ _ _ _ _ _ _ _ _ _ _ _ _ _ _)
      | (with_reducible exact attestorref01_Inv.mono _ _ _)
      | (with_reducible exact attestorref01_Pow.mono _ _ _ _)
      | (with_reducible exact attestorref06_Constant.mono _ _ _ _)
      | (with_reducible exact LeO.refl _)
      | (with_reducible exact LeO.none _)
      | (with_reducible refine LeO.ite ?_ ?_)
      | (with_reducible refine LeO.bind ?_ (fun _ => ?_))
      | exact ih0 _ _ _ _ _ _ _ _ _ _ _ _ _ _ _ _ _ _ _
      | exact ih1 _ _ _ _ _ _ _ _ _ _ _ _ _ _ _ _ _ _ _ _
      | exact attestorref01_Inv.mono _ _ _
      | exact attestorref01_Pow.mono _ _ _ _
      | exact attestorref06_Constant.mono _ _ _ _
      | exact LeO.none _
      | refine LeO.ite ?_ ?_
      | refine LeO.bind ?_ (fun _ => ?_)
theorem attestorref06_back.mono : ∀ a0 a1 a2 a3 a4 a5 k, LeO (attestorref06_back.f k a0 a1 a2 a3 a4 a5) (attestorref06_back.f (k + 1) a0 a1 a2 a3 a4 a5) := by
  intro a0 a1 a2 a3 a4 a5 k
  obtain ⟨ih0, ih1⟩ := attestorref06_back.mono_l k
  unfold attestorref06_back.f
  repeat' first
      | (with_reducible exact ih0 _ _ _ _ _ _ _ _ _ _ _ _ _ _ _ _ _ _ _)
      | (with_reducible exact ih1 _ _ _ _ _ _ _ _ _ _ _ _ _ _ _ _ _ _ _ _)
      | (with_reducible exact attestorref01_Inv.mono _ _ _)
      | (with_reducible exact attestorref01_Pow.mono _ _ _ _)
      | (with_reducible exact attestorref06_Constant.mono _ _ _ _)
      | (with_reducible exact LeO.refl _)
      | (with_reducible exact LeO.none _)
      | (with_reducible refine LeO.ite ?_ ?_)
      | (with_reducible refine LeO.bind ?_ (fun _ => ?_))
      | exact ih0 _ _ _ _ _ _ _ _ _ _ _ _ _ _ _ _ _ _ _
      | exact ih1 _ _ _ _ _ _ _ _ _ _ _ _ _ _ _ _ _ _ _ _
      | exact attestorref01_Inv.mono _ _ _
      | exact attestorref01_Pow.mono _ _ _ _
      | exact attestorref06_Constant.mono _ _ _ _
      | exact LeO.none _
      | refine LeO.ite ?_ ?_
      | refine LeO.bind ?_ (fun _ => ?_)
def attestorref06_back.T10 : Bool × List (List Nat × List Nat) := (true, [([], []), ([], []), ([], []), ([2], [2]), ([3], [3]), ([], []), ([], []), ([6], [6]), ([7], [7]), ([], []), ([], []), ([9, 10], [9, 10]), ([11], [11]), ([12], [12]), ([13], [13]), ([5, 8, 14], [5, 8, 14]), ([1, 4, 15, 15], [1, 4, 15]), ([0, 0, 1, 2, 3, 4, 5, 6, 7, 8, 9, 10, 11, 12, 13, 14, 15, 16], [0]), ([17, 16, 16, 0, 1, 2, 3, 4, 5, 6, 7, 8, 9, 10, 11, 12, 13, 14, 15, 16], [16, 17])])
def attestorref06_back.B10 : List Nat := [0, 0, 0, 4, 12, 0, 0, 64, 192, 0, 0, 1536, 3584, 7680, 15872, 32736, 65534, 131071, 262143]
theorem attestorref06_back.tab10 : rtab .any (opsOf Tryd.f46 10) = attestorref06_back.T10 := by kernel_rfl
theorem attestorref06_back.bits10 : waitsOk attestorref06_back.T10.2 attestorref06_back.B10 = true := by kernel_rfl
def attestorref06_back.T11 : Bool × List (List Nat × List Nat) := (true, [([], []), ([], []), ([], []), ([2], [2]), ([3], [3]), ([], []), ([5], [5]), ([1, 4, 6, 6], [1, 4, 6]), ([0, 0, 1, 2, 3, 4, 5, 6, 7], [0]), ([8, 7, 7, 0, 1, 2, 3, 4, 5, 6, 7], [7, 8])])
def attestorref06_back.B11 : List Nat := [0, 0, 0, 4, 12, 0, 32, 126, 255, 511]
theorem attestorref06_back.tab11 : rtab .any (opsOf Tryd.f46 11) = attestorref06_back.T11 := by kernel_rfl
theorem attestorref06_back.bits11 : waitsOk attestorref06_back.T11.2 attestorref06_back.B11 = true := by kernel_rfl
def attestorref06_back.T12 : Bool × List (List Nat × List Nat) := (true, [([], []), ([], []), ([], []), ([2], [2]), ([3], [3]), ([], []), ([5], [5]), ([6], [6]), ([1, 4, 7], [1, 4, 7]), ([0, 0, 1, 2, 3, 4, 5, 6, 7, 8], [0]), ([9, 8, 8, 0, 1, 2, 3, 4, 5, 6, 7, 8], [8, 9])])
def attestorref06_back.B12 : List Nat := [0, 0, 0, 4, 12, 0, 32, 96, 254, 511, 1023]
theorem attestorref06_back.tab12 : rtab .any (opsOf Tryd.f46 12) = attestorref06_back.T12 := by kernel_rfl
theorem attestorref06_back.bits12 : waitsOk attestorref06_back.T12.2 attestorref06_back.B12 = true := by kernel_rfl
def attestorref06_back.T13 : Bool × List (List Nat × List Nat) := (true, [([], []), ([], []), ([], []), ([2], [2]), ([3], [3]), ([], []), ([], []), ([], []), ([5, 6, 7], [5, 6, 7]), ([1, 4, 8, 8], [1, 4, 8]), ([0, 0, 1, 2, 3, 4, 5, 6, 7, 8, 9], [0]), ([10, 9, 9, 0, 1, 2, 3, 4, 5, 6, 7, 8, 9], [9, 10])])
def attestorref06_back.B13 : List Nat := [0, 0, 0, 4, 12, 0, 0, 0, 224, 510, 1023, 2047]
theorem attestorref06_back.tab13 : rtab .any (opsOf Tryd.f46 13) = attestorref06_back.T13 := by kernel_rfl
theorem attestorref06_back.bits13 : waitsOk attestorref06_back.T13.2 attestorref06_back.B13 = true := by kernel_rfl
set_option maxHeartbeats 8000000 in
set_option maxRecDepth 100000 in
theorem attestorref06_back.calls (k : Nat) (a0 : Int) (a1 : Int) (a2_0 : Int) (a2_1 : Int) (a2_2 : Int) (a2_3 : Int) (r1 : Int) (r2 : Int) (r3 : Int) (r4 : Int) (w : World) (h : attestorref06_back.f k a0 a1 a2_0 a2_1 a2_2 a2_3 = some (r1, r2, r3, r4)) :
    Calls Tryd.prog 46 #[.int .i64 a0, .int .i64 a1, .agg #[.int .u64 a2_0, .int .u64 a2_1, .int .u64 a2_2, .int .u64 a2_3]] w fun e w' => e = .returned (.agg #[.int .u64 r1, .int .u64 r2, .int .u64 r3, .int .u64 r4]) ∧ Below w.heap.size w w' := by
  have hu23 := Tryd.underlying23
  have HB := Aside0.mk (Below.refl w.heap.size w)
  have H : ((attestorref01_Neg.f a0 4).bind fun t290 => ((attestorref01_Neg.f a0 11).bind fun t291 => (attestorref06_back.l0 k a0 a1 0 a2_0 a2_1 a2_2 a2_3 t290 3 t291 17 77 171 7373 665496235 0 0 0 0))) = some (r1, r2, r3, r4) := h
  clear h
  replace H := Option.bind_eq_some_iff.mp H
  obtain ⟨t290, A40, H⟩ := H
  replace H : ((attestorref01_Neg.f a0 11).bind fun t291 => (attestorref06_back.l0 k a0 a1 0 a2_0 a2_1 a2_2 a2_3 t290 3 t291 17 77 171 7373 665496235 0 0 0 0)) = some (r1, r2, r3, r4) := H
  have A4 := Aside0.mk A40
  clear A40
  replace H := Option.bind_eq_some_iff.mp H
  obtain ⟨t291, A50, H⟩ := H
  replace H : (attestorref06_back.l0 k a0 a1 0 a2_0 a2_1 a2_2 a2_3 t290 3 t291 17 77 171 7373 665496235 0 0 0 0) = some (r1, r2, r3, r4) := H
  have A5 := Aside0.mk A50
  clear A50
  have H' := Aside0.mk H
  clear H
  go_enter Tryd.func46, Tryd.ntmps46
  go_wp2_with (first | ((with_reducible refine gate_dst (N := 5) rfl ?_); refine box_event ?hg (N := 5) ?hd (cs := #[.int .u64 a2_0, .int .u64 a2_1, .int .u64 a2_2, .int .u64 a2_3]) (t := 23) ?hr ?_; (case hd => rfl); (case hg => rfl); (case hr => first | (go_simp; done) | (go_simp; rfl)); intro gb288 hg w6 hbox hb; have n0_ := Aside0.mk (below_step (by repeat (first | (with_reducible first | exact HB.out | apply below_alloc | apply pw_below_drewN | apply below_drew1) | exact HB.out)) hb); have n1_ := Aside0.mk (hbox); have n2_ := Aside0.mk ((by rw [hg]; exact (below_size (by repeat (first | (with_reducible first | exact HB.out | apply below_alloc | apply pw_below_drewN | apply below_drew1) | exact HB.out))) : w.heap.size ≤ gb288)); have n3_ := Aside0.mk ((by rw [hg]; exact (below_size (by repeat (first | (with_reducible first | exact HB.out | apply below_alloc | apply pw_below_drewN | apply below_drew1) | exact HB.out))) : w.heap.size ≤ gb288)); clear HB; have HB := n0_; have BK288 := n1_; have GW288 := n2_; have GE288 := n3_; clear n0_ n1_ n2_ n3_; clear hb hbox hg) | ((with_reducible refine gate_dst (N := 6) rfl ?_); refine box_event ?hg (N := 6) ?hd (cs := #[.int .u64 0, .int .u64 0, .int .u64 0, .int .u64 0]) (t := 23) ?hr ?_; (case hd => rfl); (case hg => rfl); (case hr => first | (go_simp; done) | (go_simp; rfl)); intro gb289 hg w7 hbox hb; have n0_ := Aside0.mk (blk_below (g := gb288) (o := .cells #[.int .u64 a2_0, .int .u64 a2_1, .int .u64 a2_2, .int .u64 a2_3] 23 (0, 0)) (by (with_reducible repeat (first | refine blk_drewN ?_ _ | refine blk_drew ?_ | refine blk_alloc ?_ _)); exact BK288.out) hb); have n1_ := Aside0.mk (below_step (by repeat (first | (with_reducible first | exact HB.out | apply below_alloc | apply pw_below_drewN | apply below_drew1 | refine below_set ?_ GE288.out) | exact HB.out)) hb); have n2_ := Aside0.mk (hbox); have n3_ := Aside0.mk ((by rw [hg]; exact (below_size (by repeat (first | (with_reducible first | exact HB.out | apply below_alloc | apply pw_below_drewN | apply below_drew1 | refine below_set ?_ GE288.out) | exact HB.out))) : w.heap.size ≤ gb289)); have n4_ := Aside0.mk ((by rw [hg]; exact (below_size (by repeat (first | (with_reducible first | exact HB.out | apply below_alloc | apply pw_below_drewN | apply below_drew1 | refine below_set ?_ GE288.out) | exact HB.out))) : w.heap.size ≤ gb289)); have n5_ := Aside0.mk ((by rw [hg]; exact Nat.ne_of_lt (blk_lt (g := gb288) (o := .cells #[.int .u64 a2_0, .int .u64 a2_1, .int .u64 a2_2, .int .u64 a2_3] 23 (0, 0)) (by (with_reducible repeat (first | refine blk_drewN ?_ _ | refine blk_drew ?_ | refine blk_alloc ?_ _)); exact BK288.out)) : gb288 ≠ gb289)); have n6_ := Aside0.mk ((by rw [hg]; exact Nat.ne_of_gt (blk_lt (g := gb288) (o := .cells #[.int .u64 a2_0, .int .u64 a2_1, .int .u64 a2_2, .int .u64 a2_3] 23 (0, 0)) (by (with_reducible repeat (first | refine blk_drewN ?_ _ | refine blk_drew ?_ | refine blk_alloc ?_ _)); exact BK288.out)) : gb289 ≠ gb288)); clear BK288; clear HB; have BK288 := n0_; have HB := n1_; have BK289 := n2_; have GW289 := n3_; have GE289 := n4_; have NB288_289 := n5_; have NB289_288 := n6_; clear n0_ n1_ n2_ n3_ n4_ n5_ n6_; clear hb hbox hg) | ((with_reducible refine gate_callee (f := 55) rfl ?_); refine goesL_ (some 13) rfl rfl Tryd.func55 (by kernel_rfl) rfl #[.int .i64 a0, .int .u64 4] rfl (by (try simp only [List.map_toArray, List.map_cons, List.map_nil]); first | done | rfl | (simp only [List.length_drop, List.length_take]; rfl) | (go_simp; done) | (go_simp; rw [Int.tmod_eq_emod_of_nonneg (by omega)]; omega)) ?_; (with_reducible refine (attestorref01_Neg.calls a0 4 t290 _ A4.out).mono ?_); rintro e w' ⟨rfl, ⟨nd, rfl⟩⟩; refine ⟨_, rfl, ?_⟩; (try (rw [drewN_self w7]; generalize hq_ : World.drewN w7 _ = w7; have n0_ : Aside0 (w7.heap[gb288]? = some (.cells #[.int .u64 a2_0, .int .u64 a2_1, .int .u64 a2_2, .int .u64 a2_3] 23 (0, 0))) := ⟨by rw [← hq_]; exact (by (with_reducible repeat (first | refine blk_drewN ?_ _ | refine blk_drew ?_ | refine blk_alloc ?_ _)); exact BK288.out)⟩; have n1_ : Aside0 (w7.heap[gb289]? = some (.cells #[.int .u64 0, .int .u64 0, .int .u64 0, .int .u64 0] 23 (0, 0))) := ⟨by rw [← hq_]; exact (by (with_reducible repeat (first | refine blk_drewN ?_ _ | refine blk_drew ?_ | refine blk_alloc ?_ _)); exact BK289.out)⟩; have n2_ : Aside0 (Below w.heap.size w w7) := ⟨by rw [← hq_]; exact (by repeat (first | (with_reducible first | exact HB.out | apply below_alloc | apply pw_below_drewN | apply below_drew1 | refine below_set ?_ GE288.out | refine below_set ?_ GE289.out) | exact HB.out))⟩; clear BK288 BK289 HB hq_; have BK288 := n0_; have BK289 := n1_; have HB := n2_; clear n0_ n1_ n2_))) | ((with_reducible refine gate_callee (f := 55) rfl ?_); refine goesL_ (some 15) rfl rfl Tryd.func55 (by kernel_rfl) rfl #[.int .i64 a0, .int .u64 11] rfl (by (try simp only [List.map_toArray, List.map_cons, List.map_nil]); first | done | rfl | (simp only [List.length_drop, List.length_take]; rfl) | (go_simp; done) | (go_simp; rw [Int.tmod_eq_emod_of_nonneg (by omega)]; omega)) ?_; (with_reducible refine (attestorref01_Neg.calls a0 11 t291 _ A5.out).mono ?_); rintro e w' ⟨rfl, ⟨nd, rfl⟩⟩; refine ⟨_, rfl, ?_⟩; (try (rw [drewN_self w7]; generalize hq_ : World.drewN w7 _ = w7; have n0_ : Aside0 (w7.heap[gb288]? = some (.cells #[.int .u64 a2_0, .int .u64 a2_1, .int .u64 a2_2, .int .u64 a2_3] 23 (0, 0))) := ⟨by rw [← hq_]; exact (by (with_reducible repeat (first | refine blk_drewN ?_ _ | refine blk_drew ?_ | refine blk_alloc ?_ _)); exact BK288.out)⟩; have n1_ : Aside0 (w7.heap[gb289]? = some (.cells #[.int .u64 0, .int .u64 0, .int .u64 0, .int .u64 0] 23 (0, 0))) := ⟨by rw [← hq_]; exact (by (with_reducible repeat (first | refine blk_drewN ?_ _ | refine blk_drew ?_ | refine blk_alloc ?_ _)); exact BK289.out)⟩; have n2_ : Aside0 (Below w.heap.size w w7) := ⟨by rw [← hq_]; exact (by repeat (first | (with_reducible first | exact HB.out | apply below_alloc | apply pw_below_drewN | apply below_drew1 | refine below_set ?_ GE288.out | refine below_set ?_ GE289.out) | exact HB.out))⟩; clear BK288 BK289 HB hq_; have BK288 := n0_; have BK289 := n1_; have HB := n2_; clear n0_ n1_ n2_))) | ((with_reducible refine gate_dst (N := 7) rfl ?_); refine box_event ?hg (N := 7) ?hd (cs := #[.int .u64 0, .int .u64 0, .int .u64 0, .int .u64 0]) (t := 23) ?hr ?_; (case hd => rfl); (case hg => rfl); (case hr => first | (go_simp; done) | (go_simp; rfl)); intro gb292 hg w8 hbox hb; have n0_ := Aside0.mk (blk_below (g := gb288) (o := .cells #[.int .u64 a2_0, .int .u64 a2_1, .int .u64 a2_2, .int .u64 a2_3] 23 (0, 0)) (by (with_reducible repeat (first | refine blk_drewN ?_ _ | refine blk_drew ?_ | refine blk_alloc ?_ _)); exact BK288.out) hb); have n1_ := Aside0.mk (blk_below (g := gb289) (o := .cells #[.int .u64 0, .int .u64 0, .int .u64 0, .int .u64 0] 23 (0, 0)) (by (with_reducible repeat (first | refine blk_drewN ?_ _ | refine blk_drew ?_ | refine blk_alloc ?_ _)); exact BK289.out) hb); have n2_ := Aside0.mk (below_step (by repeat (first | (with_reducible first | exact HB.out | apply below_alloc | apply pw_below_drewN | apply below_drew1 | refine below_set ?_ GE288.out | refine below_set ?_ GE289.out) | exact HB.out)) hb); have n3_ := Aside0.mk (hbox); have n4_ := Aside0.mk ((by rw [hg]; exact (below_size (by repeat (first | (with_reducible first | exact HB.out | apply below_alloc | apply pw_below_drewN | apply below_drew1 | refine below_set ?_ GE288.out | refine below_set ?_ GE289.out) | exact HB.out))) : w.heap.size ≤ gb292)); have n5_ := Aside0.mk ((by rw [hg]; exact (below_size (by repeat (first | (with_reducible first | exact HB.out | apply below_alloc | apply pw_below_drewN | apply below_drew1 | refine below_set ?_ GE288.out | refine below_set ?_ GE289.out) | exact HB.out))) : w.heap.size ≤ gb292)); have n6_ := Aside0.mk ((by rw [hg]; exact Nat.ne_of_lt (blk_lt (g := gb288) (o := .cells #[.int .u64 a2_0, .int .u64 a2_1, .int .u64 a2_2, .int .u64 a2_3] 23 (0, 0)) (by (with_reducible repeat (first | refine blk_drewN ?_ _ | refine blk_drew ?_ | refine blk_alloc ?_ _)); exact BK288.out)) : gb288 ≠ gb292)); have n7_ := Aside0.mk ((by rw [hg]; exact Nat.ne_of_gt (blk_lt (g := gb288) (o := .cells #[.int .u64 a2_0, .int .u64 a2_1, .int .u64 a2_2, .int .u64 a2_3] 23 (0, 0)) (by (with_reducible repeat (first | refine blk_drewN ?_ _ | refine blk_drew ?_ | refine blk_alloc ?_ _)); exact BK288.out)) : gb292 ≠ gb288)); have n8_ := Aside0.mk ((by rw [hg]; exact Nat.ne_of_lt (blk_lt (g := gb289) (o := .cells #[.int .u64 0, .int .u64 0, .int .u64 0, .int .u64 0] 23 (0, 0)) (by (with_reducible repeat (first | refine blk_drewN ?_ _ | refine blk_drew ?_ | refine blk_alloc ?_ _)); exact BK289.out)) : gb289 ≠ gb292)); have n9_ := Aside0.mk ((by rw [hg]; exact Nat.ne_of_gt (blk_lt (g := gb289) (o := .cells #[.int .u64 0, .int .u64 0, .int .u64 0, .int .u64 0] 23 (0, 0)) (by (with_reducible repeat (first | refine blk_drewN ?_ _ | refine blk_drew ?_ | refine blk_alloc ?_ _)); exact BK289.out)) : gb292 ≠ gb289)); clear BK288; clear BK289; clear HB; have BK288 := n0_; have BK289 := n1_; have HB := n2_; have BK292 := n3_; have GW292 := n4_; have GE292 := n5_; have NB288_292 := n6_; have NB292_288 := n7_; have NB289_292 := n8_; have NB292_289 := n9_; clear n0_ n1_ n2_ n3_ n4_ n5_ n6_ n7_ n8_ n9_; clear hb hbox hg; have hnb9 := NB292_288.out; have hnc9 := NB288_292.out; have hnb10 := NB292_289.out; have hnc10 := NB289_292.out; have hcz11_0 : w8.cell? ⟨gb292, 0, none⟩ = some (.int .u64 0) := (blk_cell BK292.out 0).trans rfl; have hcz11_1 : w8.cell? ⟨gb292, 1, none⟩ = some (.int .u64 0) := (blk_cell BK292.out 1).trans rfl; have hcz11_2 : w8.cell? ⟨gb292, 2, none⟩ = some (.int .u64 0) := (blk_cell BK292.out 2).trans rfl; have hcz11_3 : w8.cell? ⟨gb292, 3, none⟩ = some (.int .u64 0) := (blk_cell BK292.out 3).trans rfl; have hfz11_0 := blk_frozen BK292.out 0; have hfz11_1 := blk_frozen BK292.out 1; have hfz11_2 := blk_frozen BK292.out 2; have hfz11_3 := blk_frozen BK292.out 3) | ((with_reducible refine gate_dst (N := 8) rfl ?_); refine box_event ?hg (N := 8) ?hd (cs := #[.int .u64 0, .int .u64 0, .int .u64 0, .int .u64 0]) (t := 23) ?hr ?_; (case hd => rfl); (case hg => rfl); (case hr => first | (go_simp; done) | (go_simp; rfl)); intro gb293 hg w12 hbox hb; have n0_ := Aside0.mk (blk_below (g := gb288) (o := .cells #[.int .u64 a2_0, .int .u64 a2_1, .int .u64 a2_2, .int .u64 a2_3] 23 (0, 0)) (by (with_reducible repeat (first | refine blk_drewN ?_ _ | refine blk_drew ?_ | refine blk_alloc ?_ _)); refine blk_far ?_ NB288_292.out _; (with_reducible repeat (first | refine blk_drewN ?_ _ | refine blk_drew ?_ | refine blk_alloc ?_ _)); refine blk_far ?_ NB288_292.out _; (with_reducible repeat (first | refine blk_drewN ?_ _ | refine blk_drew ?_ | refine blk_alloc ?_ _)); refine blk_far ?_ NB288_292.out _; (with_reducible repeat (first | refine blk_drewN ?_ _ | refine blk_drew ?_ | refine blk_alloc ?_ _)); refine blk_far ?_ NB288_292.out _; (with_reducible repeat (first | refine blk_drewN ?_ _ | refine blk_drew ?_ | refine blk_alloc ?_ _)); exact BK288.out) hb); have n1_ := Aside0.mk (blk_below (g := gb289) (o := .cells #[.int .u64 0, .int .u64 0, .int .u64 0, .int .u64 0] 23 (0, 0)) (by (with_reducible repeat (first | refine blk_drewN ?_ _ | refine blk_drew ?_ | refine blk_alloc ?_ _)); refine blk_far ?_ NB289_292.out _; (with_reducible repeat (first | refine blk_drewN ?_ _ | refine blk_drew ?_ | refine blk_alloc ?_ _)); refine blk_far ?_ NB289_292.out _; (with_reducible repeat (first | refine blk_drewN ?_ _ | refine blk_drew ?_ | refine blk_alloc ?_ _)); refine blk_far ?_ NB289_292.out _; (with_reducible repeat (first | refine blk_drewN ?_ _ | refine blk_drew ?_ | refine blk_alloc ?_ _)); refine blk_far ?_ NB289_292.out _; (with_reducible repeat (first | refine blk_drewN ?_ _ | refine blk_drew ?_ | refine blk_alloc ?_ _)); exact BK289.out) hb); have n2_ := Aside0.mk (blk_below (g := gb292) (o := .cells #[.int .u64 t290, .int .u64 3, .int .u64 t291, .int .u64 17] 23 (0, 0)) (by (with_reducible repeat (first | refine blk_drewN ?_ _ | refine blk_drew ?_ | refine blk_alloc ?_ _)); refine blk_put (cs := #[.int .u64 t290, .int .u64 3, .int .u64 t291, .int .u64 0]) ?_ 3 _ rfl; (with_reducible repeat (first | refine blk_drewN ?_ _ | refine blk_drew ?_ | refine blk_alloc ?_ _)); refine blk_put (cs := #[.int .u64 t290, .int .u64 3, .int .u64 0, .int .u64 0]) ?_ 2 _ rfl; (with_reducible repeat (first | refine blk_drewN ?_ _ | refine blk_drew ?_ | refine blk_alloc ?_ _)); refine blk_put (cs := #[.int .u64 t290, .int .u64 0, .int .u64 0, .int .u64 0]) ?_ 1 _ rfl; (with_reducible repeat (first | refine blk_drewN ?_ _ | refine blk_drew ?_ | refine blk_alloc ?_ _)); refine blk_put (cs := #[.int .u64 0, .int .u64 0, .int .u64 0, .int .u64 0]) ?_ 0 _ rfl; (with_reducible repeat (first | refine blk_drewN ?_ _ | refine blk_drew ?_ | refine blk_alloc ?_ _)); exact BK292.out) hb); have n3_ := Aside0.mk (below_step (by repeat (first | (with_reducible first | exact HB.out | apply below_alloc | apply pw_below_drewN | apply below_drew1 | refine below_set ?_ GE288.out | refine below_set ?_ GE289.out | refine below_set ?_ GE292.out) | exact HB.out)) hb); have n4_ := Aside0.mk (hbox); have n5_ := Aside0.mk ((by rw [hg]; exact (below_size (by repeat (first | (with_reducible first | exact HB.out | apply below_alloc | apply pw_below_drewN | apply below_drew1 | refine below_set ?_ GE288.out | refine below_set ?_ GE289.out | refine below_set ?_ GE292.out) | exact HB.out))) : w.heap.size ≤ gb293)); have n6_ := Aside0.mk ((by rw [hg]; exact (below_size (by repeat (first | (with_reducible first | exact HB.out | apply below_alloc | apply pw_below_drewN | apply below_drew1 | refine below_set ?_ GE288.out | refine below_set ?_ GE289.out | refine below_set ?_ GE292.out) | exact HB.out))) : w.heap.size ≤ gb293)); have n7_ := Aside0.mk ((by rw [hg]; exact Nat.ne_of_lt (blk_lt (g := gb288) (o := .cells #[.int .u64 a2_0, .int .u64 a2_1, .int .u64 a2_2, .int .u64 a2_3] 23 (0, 0)) (by (with_reducible repeat (first | refine blk_drewN ?_ _ | refine blk_drew ?_ | refine blk_alloc ?_ _)); refine blk_far ?_ NB288_292.out _; (with_reducible repeat (first | refine blk_drewN ?_ _ | refine blk_drew ?_ | refine blk_alloc ?_ _)); refine blk_far ?_ NB288_292.out _; (with_reducible repeat (first | refine blk_drewN ?_ _ | refine blk_drew ?_ | refine blk_alloc ?_ _)); refine blk_far ?_ NB288_292.out _; (with_reducible repeat (first | refine blk_drewN ?_ _ | refine blk_drew ?_ | refine blk_alloc ?_ _)); refine blk_far ?_ NB288_292.out _; (with_reducible repeat (first | refine blk_drewN ?_ _ | refine blk_drew ?_ | refine blk_alloc ?_ _)); exact BK288.out)) : gb288 ≠ gb293)); have n8_ := Aside0.mk ((by rw [hg]; exact Nat.ne_of_gt (blk_lt (g := gb288) (o := .cells #[.int .u64 a2_0, .int .u64 a2_1, .int .u64 a2_2, .int .u64 a2_3] 23 (0, 0)) (by (with_reducible repeat (first | refine blk_drewN ?_ _ | refine blk_drew ?_ | refine blk_alloc ?_ _)); refine blk_far ?_ NB288_292.out _; (with_reducible repeat (first | refine blk_drewN ?_ _ | refine blk_drew ?_ | refine blk_alloc ?_ _)); refine blk_far ?_ NB288_292.out _; (with_reducible repeat (first | refine blk_drewN ?_ _ | refine blk_drew ?_ | refine blk_alloc ?_ _)); refine blk_far ?_ NB288_292.out _; (with_reducible repeat (first | refine blk_drewN ?_ _ | refine blk_drew ?_ | refine blk_alloc ?_ _)); refine blk_far ?_ NB288_292.out _; (with_reducible repeat (first | refine blk_drewN ?_ _ | refine blk_drew ?_ | refine blk_alloc ?_ _)); exact BK288.out)) : gb293 ≠ gb288)); have n9_ := Aside0.mk ((by rw [hg]; exact Nat.ne_of_lt (blk_lt (g := gb289) (o := .cells #[.int .u64 0, .int .u64 0, .int .u64 0, .int .u64 0] 23 (0, 0)) (by (with_reducible repeat (first | refine blk_drewN ?_ _ | refine blk_drew ?_ | refine blk_alloc ?_ _)); refine blk_far ?_ NB289_292.out _; (with_reducible repeat (first | refine blk_drewN ?_ _ | refine blk_drew ?_ | refine blk_alloc ?_ _)); refine blk_far ?_ NB289_292.out _; (with_reducible repeat (first | refine blk_drewN ?_ _ | refine blk_drew ?_ | refine blk_alloc ?_ _)); refine blk_far ?_ NB289_292.out _; (with_reducible repeat (first | refine blk_drewN ?_ _ | refine blk_drew ?_ | refine blk_alloc ?_ _)); refine blk_far ?_ NB289_292.out _; (with_reducible repeat (first | refine blk_drewN ?_ _ | refine blk_drew ?_ | refine blk_alloc ?_ _)); exact BK289.out)) : gb289 ≠ gb293)); have n10_ := Aside0.mk ((by rw [hg]; exact Nat.ne_of_gt (blk_lt (g := gb289) (o := .cells #[.int .u64 0, .int .u64 0, .int .u64 0, .int .u64 0] 23 (0, 0)) (by (with_reducible repeat (first | refine blk_drewN ?_ _ | refine blk_drew ?_ | refine blk_alloc ?_ _)); refine blk_far ?_ NB289_292.out _; (with_reducible repeat (first | refine blk_drewN ?_ _ | refine blk_drew ?_ | refine blk_alloc ?_ _)); refine blk_far ?_ NB289_292.out _; (with_reducible repeat (first | refine blk_drewN ?_ _ | refine blk_drew ?_ | refine blk_alloc ?_ _)); refine blk_far ?_ NB289_292.out _; (with_reducible repeat (first | refine blk_drewN ?_ _ | refine blk_drew ?_ | refine blk_alloc ?_ _)); refine blk_far ?_ NB289_292.out _; (with_reducible repeat (first | refine blk_drewN ?_ _ | refine blk_drew ?_ | refine blk_alloc ?_ _)); exact BK289.out)) : gb293 ≠ gb289)); have n11_ := Aside0.mk ((by rw [hg]; exact Nat.ne_of_lt (blk_lt (g := gb292) (o := .cells #[.int .u64 t290, .int .u64 3, .int .u64 t291, .int .u64 17] 23 (0, 0)) (by (with_reducible repeat (first | refine blk_drewN ?_ _ | refine blk_drew ?_ | refine blk_alloc ?_ _)); refine blk_put (cs := #[.int .u64 t290, .int .u64 3, .int .u64 t291, .int .u64 0]) ?_ 3 _ rfl; (with_reducible repeat (first | refine blk_drewN ?_ _ | refine blk_drew ?_ | refine blk_alloc ?_ _)); refine blk_put (cs := #[.int .u64 t290, .int .u64 3, .int .u64 0, .int .u64 0]) ?_ 2 _ rfl; (with_reducible repeat (first | refine blk_drewN ?_ _ | refine blk_drew ?_ | refine blk_alloc ?_ _)); refine blk_put (cs := #[.int .u64 t290, .int .u64 0, .int .u64 0, .int .u64 0]) ?_ 1 _ rfl; (with_reducible repeat (first | refine blk_drewN ?_ _ | refine blk_drew ?_ | refine blk_alloc ?_ _)); refine blk_put (cs := #[.int .u64 0, .int .u64 0, .int .u64 0, .int .u64 0]) ?_ 0 _ rfl; (with_reducible repeat (first | refine blk_drewN ?_ _ | refine blk_drew ?_ | refine blk_alloc ?_ _)); exact BK292.out)) : gb292 ≠ gb293)); have n12_ := Aside0.mk ((by rw [hg]; exact Nat.ne_of_gt (blk_lt (g := gb292) (o := .cells #[.int .u64 t290, .int .u64 3, .int .u64 t291, .int .u64 17] 23 (0, 0)) (by (with_reducible repeat (first | refine blk_drewN ?_ _ | refine blk_drew ?_ | refine blk_alloc ?_ _)); refine blk_put (cs := #[.int .u64 t290, .int .u64 3, .int .u64 t291, .int .u64 0]) ?_ 3 _ rfl; (with_reducible repeat (first | refine blk_drewN ?_ _ | refine blk_drew ?_ | refine blk_alloc ?_ _)); refine blk_put (cs := #[.int .u64 t290, .int .u64 3, .int .u64 0, .int .u64 0]) ?_ 2 _ rfl; (with_reducible repeat (first | refine blk_drewN ?_ _ | refine blk_drew ?_ | refine blk_alloc ?_ _)); refine blk_put (cs := #[.int .u64 t290, .int .u64 0, .int .u64 0, .int .u64 0]) ?_ 1 _ rfl; (with_reducible repeat (first | refine blk_drewN ?_ _ | refine blk_drew ?_ | refine blk_alloc ?_ _)); refine blk_put (cs := #[.int .u64 0, .int .u64 0, .int .u64 0, .int .u64 0]) ?_ 0 _ rfl; (with_reducible repeat (first | refine blk_drewN ?_ _ | refine blk_drew ?_ | refine blk_alloc ?_ _)); exact BK292.out)) : gb293 ≠ gb292)); clear BK288; clear BK289; clear BK292; clear HB; have BK288 := n0_; have BK289 := n1_; have BK292 := n2_; have HB := n3_; have BK293 := n4_; have GW293 := n5_; have GE293 := n6_; have NB288_293 := n7_; have NB293_288 := n8_; have NB289_293 := n9_; have NB293_289 := n10_; have NB292_293 := n11_; have NB293_292 := n12_; clear n0_ n1_ n2_ n3_ n4_ n5_ n6_ n7_ n8_ n9_ n10_ n11_ n12_; clear hb hbox hg; have hnb13 := NB293_288.out; have hnc13 := NB288_293.out; have hnb14 := NB293_289.out; have hnc14 := NB289_293.out; have hnb15 := NB293_292.out; have hnc15 := NB292_293.out; have hcz16_0 : w12.cell? ⟨gb293, 0, none⟩ = some (.int .u64 0) := (blk_cell BK293.out 0).trans rfl; have hcz16_1 : w12.cell? ⟨gb293, 1, none⟩ = some (.int .u64 0) := (blk_cell BK293.out 1).trans rfl; have hcz16_2 : w12.cell? ⟨gb293, 2, none⟩ = some (.int .u64 0) := (blk_cell BK293.out 2).trans rfl; have hcz16_3 : w12.cell? ⟨gb293, 3, none⟩ = some (.int .u64 0) := (blk_cell BK293.out 3).trans rfl; have hfz16_0 := blk_frozen BK293.out 0; have hfz16_1 := blk_frozen BK293.out 1; have hfz16_2 := blk_frozen BK293.out 2; have hfz16_3 := blk_frozen BK293.out 3) | ((with_reducible refine gate_dst (N := 9) rfl ?_); refine box_event ?hg (N := 9) ?hd (cs := #[.int .u64 0, .int .u64 0, .int .u64 0, .int .u64 0]) (t := 23) ?hr ?_; (case hd => rfl); (case hg => rfl); (case hr => first | (go_simp; done) | (go_simp; rfl)); intro gb294 hg w17 hbox hb; have n0_ := Aside0.mk (blk_below (g := gb288) (o := .cells #[.int .u64 a2_0, .int .u64 a2_1, .int .u64 a2_2, .int .u64 a2_3] 23 (0, 0)) (by (with_reducible repeat (first | refine blk_drewN ?_ _ | refine blk_drew ?_ | refine blk_alloc ?_ _)); refine blk_far ?_ NB288_293.out _; (with_reducible repeat (first | refine blk_drewN ?_ _ | refine blk_drew ?_ | refine blk_alloc ?_ _)); refine blk_far ?_ NB288_293.out _; (with_reducible repeat (first | refine blk_drewN ?_ _ | refine blk_drew ?_ | refine blk_alloc ?_ _)); refine blk_far ?_ NB288_293.out _; (with_reducible repeat (first | refine blk_drewN ?_ _ | refine blk_drew ?_ | refine blk_alloc ?_ _)); refine blk_far ?_ NB288_293.out _; (with_reducible repeat (first | refine blk_drewN ?_ _ | refine blk_drew ?_ | refine blk_alloc ?_ _)); exact BK288.out) hb); have n1_ := Aside0.mk (blk_below (g := gb289) (o := .cells #[.int .u64 0, .int .u64 0, .int .u64 0, .int .u64 0] 23 (0, 0)) (by (with_reducible repeat (first | refine blk_drewN ?_ _ | refine blk_drew ?_ | refine blk_alloc ?_ _)); refine blk_far ?_ NB289_293.out _; (with_reducible repeat (first | refine blk_drewN ?_ _ | refine blk_drew ?_ | refine blk_alloc ?_ _)); refine blk_far ?_ NB289_293.out _; (with_reducible repeat (first | refine blk_drewN ?_ _ | refine blk_drew ?_ | refine blk_alloc ?_ _)); refine blk_far ?_ NB289_293.out _; (with_reducible repeat (first | refine blk_drewN ?_ _ | refine blk_drew ?_ | refine blk_alloc ?_ _)); refine blk_far ?_ NB289_293.out _; (with_reducible repeat (first | refine blk_drewN ?_ _ | refine blk_drew ?_ | refine blk_alloc ?_ _)); exact BK289.out) hb); have n2_ := Aside0.mk (blk_below (g := gb292) (o := .cells #[.int .u64 t290, .int .u64 3, .int .u64 t291, .int .u64 17] 23 (0, 0)) (by (with_reducible repeat (first | refine blk_drewN ?_ _ | refine blk_drew ?_ | refine blk_alloc ?_ _)); refine blk_far ?_ NB292_293.out _; (with_reducible repeat (first | refine blk_drewN ?_ _ | refine blk_drew ?_ | refine blk_alloc ?_ _)); refine blk_far ?_ NB292_293.out _; (with_reducible repeat (first | refine blk_drewN ?_ _ | refine blk_drew ?_ | refine blk_alloc ?_ _)); refine blk_far ?_ NB292_293.out _; (with_reducible repeat (first | refine blk_drewN ?_ _ | refine blk_drew ?_ | refine blk_alloc ?_ _)); refine blk_far ?_ NB292_293.out _; (with_reducible repeat (first | refine blk_drewN ?_ _ | refine blk_drew ?_ | refine blk_alloc ?_ _)); exact BK292.out) hb); have n3_ := Aside0.mk (blk_below (g := gb293) (o := .cells #[.int .u64 77, .int .u64 171, .int .u64 7373, .int .u64 665496235] 23 (0, 0)) (by (with_reducible repeat (first | refine blk_drewN ?_ _ | refine blk_drew ?_ | refine blk_alloc ?_ _)); refine blk_put (cs := #[.int .u64 77, .int .u64 171, .int .u64 7373, .int .u64 0]) ?_ 3 _ rfl; (with_reducible repeat (first | refine blk_drewN ?_ _ | refine blk_drew ?_ | refine blk_alloc ?_ _)); refine blk_put (cs := #[.int .u64 77, .int .u64 171, .int .u64 0, .int .u64 0]) ?_ 2 _ rfl; (with_reducible repeat (first | refine blk_drewN ?_ _ | refine blk_drew ?_ | refine blk_alloc ?_ _)); refine blk_put (cs := #[.int .u64 77, .int .u64 0, .int .u64 0, .int .u64 0]) ?_ 1 _ rfl; (with_reducible repeat (first | refine blk_drewN ?_ _ | refine blk_drew ?_ | refine blk_alloc ?_ _)); refine blk_put (cs := #[.int .u64 0, .int .u64 0, .int .u64 0, .int .u64 0]) ?_ 0 _ rfl; (with_reducible repeat (first | refine blk_drewN ?_ _ | refine blk_drew ?_ | refine blk_alloc ?_ _)); exact BK293.out) hb); have n4_ := Aside0.mk (below_step (by repeat (first | (with_reducible first | exact HB.out | apply below_alloc | apply pw_below_drewN | apply below_drew1 | refine below_set ?_ GE288.out | refine below_set ?_ GE289.out | refine below_set ?_ GE292.out | refine below_set ?_ GE293.out) | exact HB.out)) hb); have n5_ := Aside0.mk (hbox); have n6_ := Aside0.mk ((by rw [hg]; exact (below_size (by repeat (first | (with_reducible first | exact HB.out | apply below_alloc | apply pw_below_drewN | apply below_drew1 | refine below_set ?_ GE288.out | refine below_set ?_ GE289.out | refine below_set ?_ GE292.out | refine below_set ?_ GE293.out) | exact HB.out))) : w.heap.size ≤ gb294)); have n7_ := Aside0.mk ((by rw [hg]; exact (below_size (by repeat (first | (with_reducible first | exact HB.out | apply below_alloc | apply pw_below_drewN | apply below_drew1 | refine below_set ?_ GE288.out | refine below_set ?_ GE289.out | refine below_set ?_ GE292.out | refine below_set ?_ GE293.out) | exact HB.out))) : w.heap.size ≤ gb294)); have n8_ := Aside0.mk ((by rw [hg]; exact Nat.ne_of_lt (blk_lt (g := gb288) (o := .cells #[.int .u64 a2_0, .int .u64 a2_1, .int .u64 a2_2, .int .u64 a2_3] 23 (0, 0)) (by (with_reducible repeat (first | refine blk_drewN ?_ _ | refine blk_drew ?_ | refine blk_alloc ?_ _)); refine blk_far ?_ NB288_293.out _; (with_reducible repeat (first | refine blk_drewN ?_ _ | refine blk_drew ?_ | refine blk_alloc ?_ _)); refine blk_far ?_ NB288_293.out _; (with_reducible repeat (first | refine blk_drewN ?_ _ | refine blk_drew ?_ | refine blk_alloc ?_ _)); refine blk_far ?_ NB288_293.out _; (with_reducible repeat (first | refine blk_drewN ?_ _ | refine blk_drew ?_ | refine blk_alloc ?_ _)); refine blk_far ?_ NB288_293.out _; (with_reducible repeat (first | refine blk_drewN ?_ _ | refine blk_drew ?_ | refine blk_alloc ?_ _)); exact BK288.out)) : gb288 ≠ gb294)); have n9_ := Aside0.mk ((by rw [hg]; exact Nat.ne_of_gt (blk_lt (g := gb288) (o := .cells #[.int .u64 a2_0, .int .u64 a2_1, .int .u64 a2_2, .int .u64 a2_3] 23 (0, 0)) (by (with_reducible repeat (first | refine blk_drewN ?_ _ | refine blk_drew ?_ | refine blk_alloc ?_ _)); refine blk_far ?_ NB288_293.out _; (with_reducible repeat (first | refine blk_drewN ?_ _ | refine blk_drew ?_ | refine blk_alloc ?_ _)); refine blk_far ?_ NB288_293.out _; (with_reducible repeat (first | refine blk_drewN ?_ _ | refine blk_drew ?_ | refine blk_alloc ?_ _)); refine blk_far ?_ NB288_293.out _; (with_reducible repeat (first | refine blk_drewN ?_ _ | refine blk_drew ?_ | refine blk_alloc ?_ _)); refine blk_far ?_ NB288_293.out _; (with_reducible repeat (first | refine blk_drewN ?_ _ | refine blk_drew ?_ | refine blk_alloc ?_ _)); exact BK288.out)) : gb294 ≠ gb288)); have n10_ := Aside0.mk ((by rw [hg]; exact Nat.ne_of_lt (blk_lt (g := gb289) (o := .cells #[.int .u64 0, .int .u64 0, .int .u64 0, .int .u64 0] 23 (0, 0)) (by (with_reducible repeat (first | refine blk_drewN ?_ _ | refine blk_drew ?_ | refine blk_alloc ?_ _)); refine blk_far ?_ NB289_293.out _; (with_reducible repeat (first | refine blk_drewN ?_ _ | refine blk_drew ?_ | refine blk_alloc ?_ _)); refine blk_far ?_ NB289_293.out _; (with_reducible repeat (first | refine blk_drewN ?_ _ | refine blk_drew ?_ | refine blk_alloc ?_ _)); refine blk_far ?_ NB289_293.out _; (with_reducible repeat (first | refine blk_drewN ?_ _ | refine blk_drew ?_ | refine blk_alloc ?_ _)); refine blk_far ?_ NB289_293.out _; (with_reducible repeat (first | refine blk_drewN ?_ _ | refine blk_drew ?_ | refine blk_alloc ?_ _)); exact BK289.out)) : gb289 ≠ gb294)); have n11_ := Aside0.mk ((by rw [hg]; exact Nat.ne_of_gt (blk_lt (g := gb289) (o := .cells #[.int .u64 0, .int .u64 0, .int .u64 0, .int .u64 0] 23 (0, 0)) (by (with_reducible repeat (first | refine blk_drewN ?_ _ | refine blk_drew ?_ | refine blk_alloc ?_ _)); refine blk_far ?_ NB289_293.out _; (with_reducible repeat (first | refine blk_drewN ?_ _ | refine blk_drew ?_ | refine blk_alloc ?_ _)); refine blk_far ?_ NB289_293.out _; (with_reducible repeat (first | refine blk_drewN ?_ _ | refine blk_drew ?_ | refine blk_alloc ?_ _)); refine blk_far ?_ NB289_293.out _; (with_reducible repeat (first | refine blk_drewN ?_ _ | refine blk_drew ?_ | refine blk_alloc ?_ _)); refine blk_far ?_ NB289_293.out _; (with_reducible repeat (first | refine blk_drewN ?_ _ | refine blk_drew ?_ | refine blk_alloc ?_ _)); exact BK289.out)) : gb294 ≠ gb289)); have n12_ := Aside0.mk ((by rw [hg]; exact Nat.ne_of_lt (blk_lt (g := gb292) (o := .cells #[.int .u64 t290, .int .u64 3, .int .u64 t291, .int .u64 17] 23 (0, 0)) (by (with_reducible repeat (first | refine blk_drewN ?_ _ | refine blk_drew ?_ | refine blk_alloc ?_ _)); refine blk_far ?_ NB292_293.out _; (with_reducible repeat (first | refine blk_drewN ?_ _ | refine blk_drew ?_ | refine blk_alloc ?_ _)); refine blk_far ?_ NB292_293.out _; (with_reducible repeat (first | refine blk_drewN ?_ _ | refine blk_drew ?_ | refine blk_alloc ?_ _)); refine blk_far ?_ NB292_293.out _; (with_reducible repeat (first | refine blk_drewN ?_ _ | refine blk_drew ?_ | refine blk_alloc ?_ _)); refine blk_far ?_ NB292_293.out _; (with_reducible repeat (first | refine blk_drewN ?_ _ | refine blk_drew ?_ | refine blk_alloc ?_ _)); exact BK292.out)) : gb292 ≠ gb294)); have n13_ := Aside0.mk ((by rw [hg]; exact Nat.ne_of_gt (blk_lt (g := gb292) (o := .cells #[.int .u64 t290, .int .u64 3, .int .u64 t291, .int .u64 17] 23 (0, 0)) (by (with_reducible repeat (first | refine blk_drewN ?_ _ | refine blk_drew ?_ | refine blk_alloc ?_ _)); refine blk_far ?_ NB292_293.out _; (with_reducible repeat (first | refine blk_drewN ?_ _ | refine blk_drew ?_ | refine blk_alloc ?_ _)); refine blk_far ?_ NB292_293.out _; (with_reducible repeat (first | refine blk_drewN ?_ _ | refine blk_drew ?_ | refine blk_alloc ?_ _)); refine blk_far ?_ NB292_293.out _; (with_reducible repeat (first | refine blk_drewN ?_ _ | refine blk_drew ?_ | refine blk_alloc ?_ _)); refine blk_far ?_ NB292_293.out _; (with_reducible repeat (first | refine blk_drewN ?_ _ | refine blk_drew ?_ | refine blk_alloc ?_ _)); exact BK292.out)) : gb294 ≠ gb292)); have n14_ := Aside0.mk ((by rw [hg]; exact Nat.ne_of_lt (blk_lt (g := gb293) (o := .cells #[.int .u64 77, .int .u64 171, .int .u64 7373, .int .u64 665496235] 23 (0, 0)) (by (with_reducible repeat (first | refine blk_drewN ?_ _ | refine blk_drew ?_ | refine blk_alloc ?_ _)); refine blk_put (cs := #[.int .u64 77, .int .u64 171, .int .u64 7373, .int .u64 0]) ?_ 3 _ rfl; (with_reducible repeat (first | refine blk_drewN ?_ _ | refine blk_drew ?_ | refine blk_alloc ?_ _)); refine blk_put (cs := #[.int .u64 77, .int .u64 171, .int .u64 0, .int .u64 0]) ?_ 2 _ rfl; (with_reducible repeat (first | refine blk_drewN ?_ _ | refine blk_drew ?_ | refine blk_alloc ?_ _)); refine blk_put (cs := #[.int .u64 77, .int .u64 0, .int .u64 0, .int .u64 0]) ?_ 1 _ rfl; (with_reducible repeat (first | refine blk_drewN ?_ _ | refine blk_drew ?_ | refine blk_alloc ?_ _)); refine blk_put (cs := #[.int .u64 0, .int .u64 0, .int .u64 0, .int .u64 0]) ?_ 0 _ rfl; (with_reducible repeat (first | refine blk_drewN ?_ _ | refine blk_drew ?_ | refine blk_alloc ?_ _)); exact BK293.out)) : gb293 ≠ gb294)); have n15_ := Aside0.mk ((by rw [hg]; exact Nat.ne_of_gt (blk_lt (g := gb293) (o := .cells #[.int .u64 77, .int .u64 171, .int .u64 7373, .int .u64 665496235] 23 (0, 0)) (by (with_reducible repeat (first | refine blk_drewN ?_ _ | refine blk_drew ?_ | refine blk_alloc ?_ _)); refine blk_put (cs := #[.int .u64 77, .int .u64 171, .int .u64 7373, .int .u64 0]) ?_ 3 _ rfl; (with_reducible repeat (first | refine blk_drewN ?_ _ | refine blk_drew ?_ | refine blk_alloc ?_ _)); refine blk_put (cs := #[.int .u64 77, .int .u64 171, .int .u64 0, .int .u64 0]) ?_ 2 _ rfl; (with_reducible repeat (first | refine blk_drewN ?_ _ | refine blk_drew ?_ | refine blk_alloc ?_ _)); refine blk_put (cs := #[.int .u64 77, .int .u64 0, .int .u64 0, .int .u64 0]) ?_ 1 _ rfl; (with_reducible repeat (first | refine blk_drewN ?_ _ | refine blk_drew ?_ | refine blk_alloc ?_ _)); refine blk_put (cs := #[.int .u64 0, .int .u64 0, .int .u64 0, .int .u64 0]) ?_ 0 _ rfl; (with_reducible repeat (first | refine blk_drewN ?_ _ | refine blk_drew ?_ | refine blk_alloc ?_ _)); exact BK293.out)) : gb294 ≠ gb293)); clear BK288; clear BK289; clear BK292; clear BK293; clear HB; have BK288 := n0_; have BK289 := n1_; have BK292 := n2_; have BK293 := n3_; have HB := n4_; have BK294 := n5_; have GW294 := n6_; have GE294 := n7_; have NB288_294 := n8_; have NB294_288 := n9_; have NB289_294 := n10_; have NB294_289 := n11_; have NB292_294 := n12_; have NB294_292 := n13_; have NB293_294 := n14_; have NB294_293 := n15_; clear n0_ n1_ n2_ n3_ n4_ n5_ n6_ n7_ n8_ n9_ n10_ n11_ n12_ n13_ n14_ n15_; clear hb hbox hg))
  go_loopg [10] k (fun kq v10 w' => ∃ (x10_1 : Int) (x295000_1 : Int) (x295001_1 : Int) (x295002_1 : Int) (x295003_1 : Int), v10 = .int .i64 x10_1 ∧ Aside0 (attestorref06_back.l0 kq a0 a1 x10_1 a2_0 a2_1 a2_2 a2_3 t290 3 t291 17 77 171 7373 665496235 x295000_1 x295001_1 x295002_1 x295003_1 = some (r1, r2, r3, r4)) ∧ Aside0 (kq ≤ k) ∧ Aside0 (w'.heap[gb288]? = some (.cells #[.int .u64 a2_0, .int .u64 a2_1, .int .u64 a2_2, .int .u64 a2_3] 23 (0, 0))) ∧ Aside0 (w'.heap[gb289]? = some (.cells #[.int .u64 0, .int .u64 0, .int .u64 0, .int .u64 0] 23 (0, 0))) ∧ Aside0 (w'.heap[gb292]? = some (.cells #[.int .u64 t290, .int .u64 3, .int .u64 t291, .int .u64 17] 23 (0, 0))) ∧ Aside0 (w'.heap[gb293]? = some (.cells #[.int .u64 77, .int .u64 171, .int .u64 7373, .int .u64 665496235] 23 (0, 0))) ∧ Aside0 (w'.heap[gb294]? = some (.cells #[.int .u64 x295000_1, .int .u64 x295001_1, .int .u64 x295002_1, .int .u64 x295003_1] 23 (0, 0))) ∧ Aside0 (Below w.heap.size w w'))
  case atStart => exact ⟨(0), (0), (0), (0), (0), (by first | rfl | (simp; done) | (simp [*]; done) | (simp; rfl) | (simp; decide +kernel)), H', ⟨Nat.le_refl _⟩, ⟨by (with_reducible repeat (first | refine blk_drewN ?_ _ | refine blk_drew ?_ | refine blk_alloc ?_ _)); exact BK288.out⟩, ⟨by (with_reducible repeat (first | refine blk_drewN ?_ _ | refine blk_drew ?_ | refine blk_alloc ?_ _)); exact BK289.out⟩, ⟨by (with_reducible repeat (first | refine blk_drewN ?_ _ | refine blk_drew ?_ | refine blk_alloc ?_ _)); exact BK292.out⟩, ⟨by (with_reducible repeat (first | refine blk_drewN ?_ _ | refine blk_drew ?_ | refine blk_alloc ?_ _)); exact BK293.out⟩, ⟨by (with_reducible repeat (first | refine blk_drewN ?_ _ | refine blk_drew ?_ | refine blk_alloc ?_ _)); exact BK294.out⟩, ⟨by repeat (first | (with_reducible first | exact HB.out | apply below_alloc | apply pw_below_drewN | apply below_drew1 | refine below_set ?_ GE288.out | refine below_set ?_ GE289.out | refine below_set ?_ GE292.out | refine below_set ?_ GE293.out | refine below_set ?_ GE294.out) | exact HB.out)⟩⟩
  case round =>
    clear H'
    try clear c1
    try clear p2
    try clear c4
    try clear c5
    try clear c9
    try clear c10
    try clear c13
    try clear c14
    try clear c15
    try clear hcz11_0
    try clear hcz11_1
    try clear hcz11_2
    try clear hcz11_3
    try clear hcz16_0
    try clear hcz16_1
    try clear hcz16_2
    try clear hcz16_3
    try clear hfz11_0
    try clear hfz11_1
    try clear hfz11_2
    try clear hfz11_3
    try clear hfz16_0
    try clear hfz16_1
    try clear hfz16_2
    try clear hfz16_3
    obtain ⟨x10_1, x295000_1, x295001_1, x295002_1, x295003_1, rfl, HA, HK1, BK288, BK289, BK292, BK293, BK294, HB⟩ := hrel
    cases gk with
    | zero => exact absurd HA.out (by simp [attestorref06_back.l0])
    | succ k1 =>
      have H := HA.out
      clear HA
      simp only [attestorref06_back.l0] at H
      by_cases c18 : x10_1 < 4
      · rw [if_pos c18] at H
        have c18b0 : decide (x10_1 < 4) = true := decide_eq_true c18
        clear c18
        have H' := Aside0.mk H
        clear H
        go_wp2
        go_loopg [11] k1 (fun kq v11 w' => ∃ (x11_2 : Int) (x295000_2 : Int) (x295001_2 : Int) (x295002_2 : Int) (x295003_2 : Int), v11 = .int .i64 x11_2 ∧ Aside0 (attestorref06_back.l1 kq a0 a1 x10_1 x11_2 a2_0 a2_1 a2_2 a2_3 t290 3 t291 17 77 171 7373 665496235 x295000_2 x295001_2 x295002_2 x295003_2 = some (r1, r2, r3, r4)) ∧ Aside0 (kq ≤ k1) ∧ Aside0 (w'.heap[gb288]? = some (.cells #[.int .u64 a2_0, .int .u64 a2_1, .int .u64 a2_2, .int .u64 a2_3] 23 (0, 0))) ∧ Aside0 (w'.heap[gb289]? = some (.cells #[.int .u64 0, .int .u64 0, .int .u64 0, .int .u64 0] 23 (0, 0))) ∧ Aside0 (w'.heap[gb292]? = some (.cells #[.int .u64 t290, .int .u64 3, .int .u64 t291, .int .u64 17] 23 (0, 0))) ∧ Aside0 (w'.heap[gb293]? = some (.cells #[.int .u64 77, .int .u64 171, .int .u64 7373, .int .u64 665496235] 23 (0, 0))) ∧ Aside0 (w'.heap[gb294]? = some (.cells #[.int .u64 x295000_2, .int .u64 x295001_2, .int .u64 x295002_2, .int .u64 x295003_2] 23 (0, 0))) ∧ Aside0 (Below w.heap.size w w'))
        case atStart => exact ⟨(0), (x295000_1), (x295001_1), (x295002_1), (x295003_1), (by first | rfl | (simp; done) | (simp [*]; done) | (simp; rfl) | (simp; decide +kernel)), H', ⟨Nat.le_refl _⟩, ⟨by (with_reducible repeat (first | refine blk_drewN ?_ _ | refine blk_drew ?_ | refine blk_alloc ?_ _)); exact BK288.out⟩, ⟨by (with_reducible repeat (first | refine blk_drewN ?_ _ | refine blk_drew ?_ | refine blk_alloc ?_ _)); exact BK289.out⟩, ⟨by (with_reducible repeat (first | refine blk_drewN ?_ _ | refine blk_drew ?_ | refine blk_alloc ?_ _)); exact BK292.out⟩, ⟨by (with_reducible repeat (first | refine blk_drewN ?_ _ | refine blk_drew ?_ | refine blk_alloc ?_ _)); exact BK293.out⟩, ⟨by (with_reducible repeat (first | refine blk_drewN ?_ _ | refine blk_drew ?_ | refine blk_alloc ?_ _)); exact BK294.out⟩, ⟨by repeat (first | (with_reducible first | exact HB.out | apply below_alloc | apply pw_below_drewN | apply below_drew1 | refine below_set ?_ GE288.out | refine below_set ?_ GE289.out | refine below_set ?_ GE292.out | refine below_set ?_ GE293.out | refine below_set ?_ GE294.out) | exact HB.out)⟩⟩
        case round =>
          clear H'
          try clear c1
          try clear p2
          try clear c4
          try clear c5
          try clear c9
          try clear c10
          try clear c13
          try clear c14
          try clear c15
          try clear c18
          try clear c18b0
          try clear hcz11_0
          try clear hcz11_1
          try clear hcz11_2
          try clear hcz11_3
          try clear hcz16_0
          try clear hcz16_1
          try clear hcz16_2
          try clear hcz16_3
          try clear hfz11_0
          try clear hfz11_1
          try clear hfz11_2
          try clear hfz11_3
          try clear hfz16_0
          try clear hfz16_1
          try clear hfz16_2
          try clear hfz16_3
          try clear p2
          obtain ⟨x11_2, x295000_2, x295001_2, x295002_2, x295003_2, rfl, HA, HK2, BK288, BK289, BK292, BK293, BK294, HB⟩ := hrel
          cases gk with
          | zero => exact absurd HA.out (by simp [attestorref06_back.l1])
          | succ k2 =>
            have H := HA.out
            clear HA
            simp only [attestorref06_back.l1] at H
            by_cases c19 : x11_2 < 4
            · rw [if_pos c19] at H
              have c19b0 : decide (x11_2 < 4) = true := decide_eq_true c19
              clear c19
              by_cases c20 : 0 ≤ x10_1
              · rw [if_pos c20] at H
                have c20b0 := eq_true c20
                have c20b1 : decide (0 ≤ x10_1) = true := decide_eq_true c20
                clear c20
                by_cases c21 : x10_1 < 4
                · rw [if_pos c21] at H
                  have c21b0 := eq_true c21
                  have c21b1 : decide (x10_1 < 4) = true := decide_eq_true c21
                  clear c21
                  by_cases c22 : 0 ≤ x11_2
                  · rw [if_pos c22] at H
                    have c22b0 := eq_true c22
                    have c22b1 : decide (0 ≤ x11_2) = true := decide_eq_true c22
                    clear c22
                    obtain ⟨ji23, hji23⟩ : ∃ j_ : Int, (Int.tmod (wrap64 (x10_1 + x11_2)) 4) = j_ := ⟨_, rfl⟩
                    replace H : (if 0 ≤ (ji23) then (if (ji23) < 4 then ((attestorref01_Mul.f a0 (rd ([t290, 3, t291, 17] : List Int) x11_2) (rd ([a2_0, a2_1, a2_2, a2_3] : List Int) (ji23))).bind fun t295 => ((attestorref01_Add.f a0 (rd ([x295000_2, x295001_2, x295002_2, x295003_2] : List Int) x10_1) t295).bind fun t296 => (attestorref06_back.l1 k2 a0 a1 x10_1 (wrap64 (x11_2 + 1)) a2_0 a2_1 a2_2 a2_3 t290 3 t291 17 77 171 7373 665496235 (updv x295000_2 0 x10_1 t296) (updv x295001_2 1 x10_1 t296) (updv x295002_2 2 x10_1 t296) (updv x295003_2 3 x10_1 t296)))) else (none)) else (none)) = some (r1, r2, r3, r4) := by first | (rw [hji23] at H; exact H) | (simp only [hji23] at H ⊢; exact H)
                    by_cases c24 : 0 ≤ (ji23)
                    · rw [if_pos c24] at H
                      have c24b0 := eq_true c24
                      have c24b1 : decide (0 ≤ (ji23)) = true := decide_eq_true c24
                      clear c24
                      by_cases c25 : (ji23) < 4
                      · rw [if_pos c25] at H
                        have c25b0 := eq_true c25
                        have c25b1 : decide ((ji23) < 4) = true := decide_eq_true c25
                        clear c25
                        replace H := Option.bind_eq_some_iff.mp H
                        obtain ⟨t295, A260, H⟩ := H
                        replace H : ((attestorref01_Add.f a0 (rd ([x295000_2, x295001_2, x295002_2, x295003_2] : List Int) x10_1) t295).bind fun t296 => (attestorref06_back.l1 k2 a0 a1 x10_1 (wrap64 (x11_2 + 1)) a2_0 a2_1 a2_2 a2_3 t290 3 t291 17 77 171 7373 665496235 (updv x295000_2 0 x10_1 t296) (updv x295001_2 1 x10_1 t296) (updv x295002_2 2 x10_1 t296) (updv x295003_2 3 x10_1 t296))) = some (r1, r2, r3, r4) := H
                        have A26 := Aside0.mk A260
                        clear A260
                        replace H := Option.bind_eq_some_iff.mp H
                        obtain ⟨t296, A270, H⟩ := H
                        replace H : (attestorref06_back.l1 k2 a0 a1 x10_1 (wrap64 (x11_2 + 1)) a2_0 a2_1 a2_2 a2_3 t290 3 t291 17 77 171 7373 665496235 (updv x295000_2 0 x10_1 t296) (updv x295001_2 1 x10_1 t296) (updv x295002_2 2 x10_1 t296) (updv x295003_2 3 x10_1 t296)) = some (r1, r2, r3, r4) := H
                        have A27 := Aside0.mk A270
                        clear A270
                        have H' := Aside0.mk H
                        clear H
                        try go_wp2
                        have n0_ := Aside0.mk (blk_drew BK288.out)
                        have n1_ := Aside0.mk (blk_drew BK289.out)
                        have n2_ := Aside0.mk (blk_drew BK292.out)
                        have n3_ := Aside0.mk (blk_drew BK293.out)
                        have n4_ := Aside0.mk (blk_drew BK294.out)
                        have n5_ := Aside0.mk (below_drew1 HB.out)
                        clear BK288
                        clear BK289
                        clear BK292
                        clear BK293
                        clear BK294
                        clear HB
                        have BK288 := n0_
                        have BK289 := n1_
                        have BK292 := n2_
                        have BK293 := n3_
                        have BK294 := n4_
                        have HB := n5_
                        clear n0_ n1_ n2_ n3_ n4_ n5_
                        have hlt29 : (x10_1 < 4) = True := eq_true (of_decide_eq_true (by first | (with_reducible assumption) | assumption))
                        have hge30 : (0 ≤ x10_1) = True := eq_true (of_decide_eq_true (by first | (with_reducible assumption) | assumption))
                        have hlt31 : (x11_2 < 4) = True := eq_true (of_decide_eq_true (by first | (with_reducible assumption) | assumption))
                        have hge32 : (0 ≤ x11_2) = True := eq_true (of_decide_eq_true (by first | (with_reducible assumption) | assumption))
                        have hlt33 : ((ji23) < 4) = True := eq_true (of_decide_eq_true (by first | (with_reducible assumption) | assumption))
                        have hge34 : (0 ≤ (ji23)) = True := eq_true (of_decide_eq_true (by first | (with_reducible assumption) | assumption))
                        have hlt37 : (x10_1 < 4) = True := eq_true (of_decide_eq_true (by first | (with_reducible assumption) | assumption))
                        have hge38 : (0 ≤ x10_1) = True := eq_true (of_decide_eq_true (by first | (with_reducible assumption) | assumption))
                        refine start_ (n := 19) (S := fun w' => w'.cell? ⟨gb294, (x10_1).toNat, none⟩ = some (.int .u64 (rd ([x295000_2, x295001_2, x295002_2, x295003_2] : List Int) x10_1)) ∧ w'.cell? ⟨gb292, (x11_2).toNat, none⟩ = some (.int .u64 (rd ([t290, 3, t291, 17] : List Int) x11_2)) ∧ w'.cell? ⟨gb288, ((ji23)).toNat, none⟩ = some (.int .u64 (rd ([a2_0, a2_1, a2_2, a2_3] : List Int) (ji23)))) (ds := [18]) #[false, false, false, false, false, false, false, false, false, false, false, false, false, false, false, false, false, false, false] (by kernel_rfl) rfl rfl ⟨(sel_at (pre := []) (l := ([x295000_2, x295001_2, x295002_2, x295003_2] : List Int)) (post := []) BK294.out rfl (by simp) (of_decide_eq_true (by first | (with_reducible assumption) | assumption)) (of_decide_eq_true (by first | (with_reducible assumption) | assumption))), (sel_at (pre := []) (l := ([t290, 3, t291, 17] : List Int)) (post := []) BK292.out rfl (by simp) (of_decide_eq_true (by first | (with_reducible assumption) | assumption)) (of_decide_eq_true (by first | (with_reducible assumption) | assumption))), (sel_at (pre := []) (l := ([a2_0, a2_1, a2_2, a2_3] : List Int)) (post := []) BK288.out rfl (by simp) (of_decide_eq_true (by first | (with_reducible assumption) | assumption)) (of_decide_eq_true (by first | (with_reducible assumption) | assumption)))⟩ (fun hHeld => ?_); refine with_tabW attestorref06_back.tab10 attestorref06_back.bits10 (fun HT_ HW_ => ?_)
                        generalize wr.drew = w28 at BK288 BK289 BK292 BK293 BK294 HB hHeld ⊢
                        refine pure_ (i := 0) (N := some 26) (v := ?_) (a' := ?_) #[true, false, false, false, false, false, false, false, false, false, false, false, false, false, false, false, false, false, false] rfl rfl (any_of HT_.out (by kernel_rfl)) (fun _ _ _ h => h) (Or.inl ⟨by rfl, ?_⟩) ?_ ?_
                        rotate_left
                        · intro w'
                          go_simp
                          with_reducible rfl
                        rotate_left
                        · simp only [Act.put, List.setIfInBounds_toArray, List.set_cons_zero, List.set_cons_succ, i64_w, i32_w]
                          rfl
                        refine pure_ (i := 1) (N := some 27) (v := ?_) (a' := ?_) #[true, true, false, false, false, false, false, false, false, false, false, false, false, false, false, false, false, false, false] rfl rfl (any_of HT_.out (by kernel_rfl)) (fun _ _ _ h => h) (Or.inl ⟨by rfl, ?_⟩) ?_ ?_
                        rotate_left
                        · intro w'
                          go_simp
                          with_reducible rfl
                        rotate_left
                        · simp only [Act.put, List.setIfInBounds_toArray, List.set_cons_zero, List.set_cons_succ, i64_w, i32_w]
                          rfl
                        refine pure_ (i := 2) (N := some 28) (v := ?_) (a' := ?_) #[true, true, true, false, false, false, false, false, false, false, false, false, false, false, false, false, false, false, false] rfl rfl (any_of HT_.out (by kernel_rfl)) (fun _ _ _ h => h) (Or.inl ⟨by rfl, ?_⟩) ?_ ?_
                        rotate_left
                        · intro w'
                          go_simp
                          with_reducible rfl
                        rotate_left
                        · simp only [Act.put, List.setIfInBounds_toArray, List.set_cons_zero, List.set_cons_succ, i64_w, i32_w]
                          rfl
                        refine pure_ (i := 3) (N := some 29) (v := ?_) (a' := ?_) #[true, true, true, true, false, false, false, false, false, false, false, false, false, false, false, false, false, false, false] rfl rfl (any_of HT_.out (by kernel_rfl)) (fun _ _ _ h => h) (Or.inl ⟨by rfl, ?_⟩) ?_ ?_
                        rotate_left
                        · intro w'
                          go_simp
                          with_reducible rfl
                        rotate_left
                        · simp only [Act.put, List.setIfInBounds_toArray, List.set_cons_zero, List.set_cons_succ, i64_w, i32_w]
                          rfl
                        refine pure_ (i := 5) (N := some 31) (v := ?_) (a' := ?_) #[true, true, true, true, false, true, false, false, false, false, false, false, false, false, false, false, false, false, false] rfl rfl (any_of HT_.out (by kernel_rfl)) (fun _ _ _ h => h) (Or.inl ⟨by rfl, ?_⟩) ?_ ?_
                        rotate_left
                        · intro w'
                          go_simp
                          with_reducible rfl
                        rotate_left
                        · simp only [Act.put, List.setIfInBounds_toArray, List.set_cons_zero, List.set_cons_succ, i64_w, i32_w]
                          rfl
                        refine pure_ (i := 6) (N := some 32) (v := ?_) (a' := ?_) #[true, true, true, true, false, true, true, false, false, false, false, false, false, false, false, false, false, false, false] rfl rfl (any_of HT_.out (by kernel_rfl)) (fun _ _ _ h => h) (Or.inl ⟨by rfl, ?_⟩) ?_ ?_
                        rotate_left
                        · intro w'
                          go_simp
                          with_reducible rfl
                        rotate_left
                        · simp only [Act.put, List.setIfInBounds_toArray, List.set_cons_zero, List.set_cons_succ, i64_w, i32_w]
                          rfl
                        refine pure_ (i := 7) (N := some 33) (v := ?_) (a' := ?_) #[true, true, true, true, false, true, true, true, false, false, false, false, false, false, false, false, false, false, false] rfl rfl (any_of HT_.out (by kernel_rfl)) (fun _ _ _ h => h) (Or.inl ⟨by rfl, ?_⟩) ?_ ?_
                        rotate_left
                        · intro w'
                          go_simp
                          with_reducible rfl
                        rotate_left
                        · simp only [Act.put, List.setIfInBounds_toArray, List.set_cons_zero, List.set_cons_succ, i64_w, i32_w]
                          rfl
                        refine pure_ (i := 9) (N := some 35) (v := ?_) (a' := ?_) #[true, true, true, true, false, true, true, true, false, true, false, false, false, false, false, false, false, false, false] rfl rfl (any_of HT_.out (by kernel_rfl)) (fun _ _ _ h => h) (Or.inl ⟨by rfl, ?_⟩) ?_ ?_
                        rotate_left
                        · intro w'
                          go_simp
                          with_reducible rfl
                        rotate_left
                        · simp only [Act.put, List.setIfInBounds_toArray, List.set_cons_zero, List.set_cons_succ, i64_w, i32_w]
                          rfl
                        refine pure_ (i := 10) (N := some 36) (v := ?_) (a' := ?_) #[true, true, true, true, false, true, true, true, false, true, true, false, false, false, false, false, false, false, false] rfl rfl (any_of HT_.out (by kernel_rfl)) (fun _ _ _ h => h) (Or.inl ⟨by rfl, ?_⟩) ?_ ?_
                        rotate_left
                        · intro w'
                          go_simp
                          with_reducible rfl
                        rotate_left
                        · simp only [Act.put, List.setIfInBounds_toArray, List.set_cons_zero, List.set_cons_succ, i64_w, i32_w]
                          rfl
                        refine pure_ (i := 11) (N := some 37) (v := ?_) (a' := ?_) #[true, true, true, true, false, true, true, true, false, true, true, true, false, false, false, false, false, false, false] rfl rfl (any_of HT_.out (by kernel_rfl)) (fun _ _ _ h => h) (Or.inl ⟨by rfl, ?_⟩) ?_ ?_
                        rotate_left
                        · intro w'
                          go_simp
                          with_reducible rfl
                        rotate_left
                        · simp only [Act.put, List.setIfInBounds_toArray, List.set_cons_zero, List.set_cons_succ, i64_w, i32_w]
                          rfl
                        refine pure_ (i := 12) (N := some 38) (v := ?_) (a' := ?_) #[true, true, true, true, false, true, true, true, false, true, true, true, true, false, false, false, false, false, false] rfl rfl (any_of HT_.out (by kernel_rfl)) (fun _ _ _ h => h) (Or.inl ⟨by rfl, ?_⟩) ?_ ?_
                        rotate_left
                        · intro w'
                          go_simp
                          with_reducible rfl
                        rotate_left
                        · simp only [Act.put, List.setIfInBounds_toArray, List.set_cons_zero, List.set_cons_succ, i64_w, i32_w]
                          rfl
                        refine pure_ (i := 13) (N := some 39) (v := ?_) (a' := ?_) #[true, true, true, true, false, true, true, true, false, true, true, true, true, true, false, false, false, false, false] rfl rfl (any_of HT_.out (by kernel_rfl)) (fun _ _ _ h => h) (Or.inl ⟨by rfl, ?_⟩) ?_ ?_
                        rotate_left
                        · intro w'
                          go_simp
                          with_reducible rfl
                        rotate_left
                        · simp only [Act.put, List.setIfInBounds_toArray, List.set_cons_zero, List.set_cons_succ, i64_w, i32_w]
                          rfl
                        refine take_ (i := 4) (N := some 30) (v := ?_) (a' := ?_) #[true, true, true, true, true, true, true, true, false, true, true, true, true, true, false, false, false, false, false] rfl rfl (take_ofW HT_.out HW_.out (by kernel_rfl)) (fun _ _ _ h => h) (Or.inl ⟨by rfl, ?_⟩) hHeld ?_ ?_
                        rotate_left
                        · rintro w' ⟨s0, s1, s2⟩
                          go_simp
                          with_reducible rfl
                        rotate_left
                        · simp only [Act.put, List.setIfInBounds_toArray, List.set_cons_zero, List.set_cons_succ, i64_w, i32_w]
                          rfl
                        refine take_ (i := 8) (N := some 34) (v := ?_) (a' := ?_) #[true, true, true, true, true, true, true, true, true, true, true, true, true, true, false, false, false, false, false] rfl rfl (take_ofW HT_.out HW_.out (by kernel_rfl)) (fun _ _ _ h => h) (Or.inl ⟨by rfl, ?_⟩) hHeld ?_ ?_
                        rotate_left
                        · rintro w' ⟨s0, s1, s2⟩
                          go_simp
                          with_reducible rfl
                        rotate_left
                        · simp only [Act.put, List.setIfInBounds_toArray, List.set_cons_zero, List.set_cons_succ, i64_w, i32_w]
                          rfl
                        refine take_ (i := 14) (N := some 40) (v := ?_) (a' := ?_) #[true, true, true, true, true, true, true, true, true, true, true, true, true, true, true, false, false, false, false] rfl rfl (take_ofW HT_.out HW_.out (by kernel_rfl)) (fun _ _ _ h => h) (Or.inl ⟨by rfl, ?_⟩) hHeld ?_ ?_
                        rotate_left
                        · rintro w' ⟨s0, s1, s2⟩
                          go_simp
                          with_reducible rfl
                        rotate_left
                        · simp only [Act.put, List.setIfInBounds_toArray, List.set_cons_zero, List.set_cons_succ, i64_w, i32_w]
                          rfl
                        refine one_ (i := 15) (N := some 41) #[true, true, true, true, true, true, true, true, true, true, true, true, true, true, true, true, false, false, false] rfl rfl (one_of HT_.out (by kernel_rfl)) (by decide) (fun K hK => ?_)
                        refine goes_ Tryd.func40 (by kernel_rfl) rfl #[.int .i64 a0, .int .u64 (rd ([t290, 3, t291, 17] : List Int) x11_2), .int .u64 (rd ([a2_0, a2_1, a2_2, a2_3] : List Int) (ji23))] (by rfl) rfl rfl (by (try simp only [List.map_toArray, List.map_cons, List.map_nil]); first | done | (simp only [hji23]; rfl) | rfl | (simp only [List.length_drop, List.length_take]; rfl) | (go_simp; done) | (go_simp; rw [Int.tmod_eq_emod_of_nonneg (by omega)]; omega)) ?_
                        with_reducible refine (attestorref01_Mul.calls a0 (rd ([t290, 3, t291, 17] : List Int) x11_2) (rd ([a2_0, a2_1, a2_2, a2_3] : List Int) (ji23)) t295 _ A26.out).mono ?_
                        rintro e w' ⟨rfl, ⟨nd, rfl⟩⟩
                        refine ⟨_, rfl, ?_⟩
                        (try (rw [drewN_self w28]; generalize hq_ : World.drewN w28 _ = w28; have n0_ := Aside0.mk (blk_at hq_ BK288.out); have n1_ := Aside0.mk (blk_at hq_ BK289.out); have n2_ := Aside0.mk (blk_at hq_ BK292.out); have n3_ := Aside0.mk (blk_at hq_ BK293.out); have n4_ := Aside0.mk (blk_at hq_ BK294.out); have n5_ := Aside0.mk (below_at hq_ HB.out); clear hq_ BK288 BK289 BK292 BK293 BK294 HB; have BK288 := n0_; have BK289 := n1_; have BK292 := n2_; have BK293 := n3_; have BK294 := n4_; have HB := n5_; clear n0_ n1_ n2_ n3_ n4_ n5_))
                        refine hK.out _ _ ⟨(sel_at (pre := []) (l := ([x295000_2, x295001_2, x295002_2, x295003_2] : List Int)) (post := []) BK294.out rfl (by simp) (of_decide_eq_true (by first | (with_reducible assumption) | assumption)) (of_decide_eq_true (by first | (with_reducible assumption) | assumption))), (sel_at (pre := []) (l := ([t290, 3, t291, 17] : List Int)) (post := []) BK292.out rfl (by simp) (of_decide_eq_true (by first | (with_reducible assumption) | assumption)) (of_decide_eq_true (by first | (with_reducible assumption) | assumption))), (sel_at (pre := []) (l := ([a2_0, a2_1, a2_2, a2_3] : List Int)) (post := []) BK288.out rfl (by simp) (of_decide_eq_true (by first | (with_reducible assumption) | assumption)) (of_decide_eq_true (by first | (with_reducible assumption) | assumption)))⟩ (fun hHeld => ?_)
                        clear hK K
                        refine norm_ (a' := ?_) ?_ ?_
                        rotate_left
                        · show Act.put _ (some 41) _ = _
                          simp only [Act.put, List.setIfInBounds_toArray, List.set_cons_zero, List.set_cons_succ, i64_w, i32_w]
                          rfl
                        refine one_ (i := 16) (N := some 42) #[true, true, true, true, true, true, true, true, true, true, true, true, true, true, true, true, true, false, false] rfl rfl (one_of HT_.out (by kernel_rfl)) (by decide) (fun K hK => ?_)
                        refine goes_ Tryd.func32 (by kernel_rfl) rfl #[.int .i64 a0, .int .u64 (rd ([x295000_2, x295001_2, x295002_2, x295003_2] : List Int) x10_1), .int .u64 t295] (by rfl) rfl rfl (by (try simp only [List.map_toArray, List.map_cons, List.map_nil]); first | done | rfl | (simp only [List.length_drop, List.length_take]; rfl) | (go_simp; done) | (go_simp; rw [Int.tmod_eq_emod_of_nonneg (by omega)]; omega)) ?_
                        with_reducible refine (attestorref01_Add.calls a0 (rd ([x295000_2, x295001_2, x295002_2, x295003_2] : List Int) x10_1) t295 t296 _ A27.out).mono ?_
                        rintro e w' ⟨rfl, ⟨nd, rfl⟩⟩
                        refine ⟨_, rfl, ?_⟩
                        (try (rw [drewN_self w28]; generalize hq_ : World.drewN w28 _ = w28; have n0_ := Aside0.mk (blk_at hq_ BK288.out); have n1_ := Aside0.mk (blk_at hq_ BK289.out); have n2_ := Aside0.mk (blk_at hq_ BK292.out); have n3_ := Aside0.mk (blk_at hq_ BK293.out); have n4_ := Aside0.mk (blk_at hq_ BK294.out); have n5_ := Aside0.mk (below_at hq_ HB.out); clear hq_ BK288 BK289 BK292 BK293 BK294 HB; have BK288 := n0_; have BK289 := n1_; have BK292 := n2_; have BK293 := n3_; have BK294 := n4_; have HB := n5_; clear n0_ n1_ n2_ n3_ n4_ n5_))
                        refine hK.out _ _ ⟨(sel_at (pre := []) (l := ([x295000_2, x295001_2, x295002_2, x295003_2] : List Int)) (post := []) BK294.out rfl (by simp) (of_decide_eq_true (by first | (with_reducible assumption) | assumption)) (of_decide_eq_true (by first | (with_reducible assumption) | assumption))), (sel_at (pre := []) (l := ([t290, 3, t291, 17] : List Int)) (post := []) BK292.out rfl (by simp) (of_decide_eq_true (by first | (with_reducible assumption) | assumption)) (of_decide_eq_true (by first | (with_reducible assumption) | assumption))), (sel_at (pre := []) (l := ([a2_0, a2_1, a2_2, a2_3] : List Int)) (post := []) BK288.out rfl (by simp) (of_decide_eq_true (by first | (with_reducible assumption) | assumption)) (of_decide_eq_true (by first | (with_reducible assumption) | assumption)))⟩ (fun hHeld => ?_)
                        clear hK K
                        refine norm_ (a' := ?_) ?_ ?_
                        rotate_left
                        · show Act.put _ (some 42) _ = _
                          simp only [Act.put, List.setIfInBounds_toArray, List.set_cons_zero, List.set_cons_succ, i64_w, i32_w]
                          rfl
                        refine pure_ (i := 17) (N := some 43) (v := ?_) (a' := ?_) #[true, true, true, true, true, true, true, true, true, true, true, true, true, true, true, true, true, true, false] rfl rfl (any_of HT_.out (by kernel_rfl)) (fun _ _ _ h => h) (Or.inl ⟨by rfl, ?_⟩) ?_ ?_
                        rotate_left
                        · intro w'
                          go_simp
                          with_reducible rfl
                        rotate_left
                        · simp only [Act.put, List.setIfInBounds_toArray, List.set_cons_zero, List.set_cons_succ, i64_w, i32_w]
                          rfl
                        refine last_ (i := 18) (N := none) #[true, true, true, true, true, true, true, true, true, true, true, true, true, true, true, true, true, true, true] rfl rfl (one_of HT_.out (by kernel_rfl)) (by decide) (fun K hK => ?_)
                        have hsv35 : w28.cell? ⟨gb294, (x10_1).toNat, none⟩ = some (.int .u64 (rd ([x295000_2, x295001_2, x295002_2, x295003_2] : List Int) x10_1)) := (sel_at (pre := []) (l := ([x295000_2, x295001_2, x295002_2, x295003_2] : List Int)) (post := []) BK294.out rfl (by simp) (of_decide_eq_true (by first | (with_reducible assumption) | assumption)) (of_decide_eq_true (by first | (with_reducible assumption) | assumption)))
                        have hfv36 := blk_frozen BK294.out ((x10_1).toNat)
                        have hns39_0 := NB288_294.out
                        have hns39_1 := NB289_294.out
                        have hns39_2 := NB292_294.out
                        have hns39_3 := NB293_294.out
                        have hms39_0 := NB294_288.out
                        have hms39_1 := NB294_289.out
                        have hms39_2 := NB294_292.out
                        have hms39_3 := NB294_293.out
                        refine skip_ (w1 := ?_) (by rfl) rfl ?_ ?_
                        rotate_left
                        · go_simp
                          rfl
                        refine hK.out _ _ ?_
                        clear hK K
                        refine done_ (done_of HT_.out (by kernel_rfl)) ?_
                        try go_wp2
                        go_roundg k2
                        case measure => have := HK1.out; have := HK2.out; omega
                        case rel => exact ⟨(wrap64 (x11_2 + 1)), ((updv x295000_2 0 x10_1 t296)), ((updv x295001_2 1 x10_1 t296)), ((updv x295002_2 2 x10_1 t296)), ((updv x295003_2 3 x10_1 t296)), (by first | rfl | (simp; done) | (simp [*]; done) | (simp; rfl) | (simp; decide +kernel)), H', ⟨by have := HK1.out; have := HK2.out; omega⟩, ⟨by (with_reducible repeat (first | refine blk_drewN ?_ _ | refine blk_drew ?_ | refine blk_alloc ?_ _)); refine blk_far ?_ NB288_294.out _; (with_reducible repeat (first | refine blk_drewN ?_ _ | refine blk_drew ?_ | refine blk_alloc ?_ _)); exact BK288.out⟩, ⟨by (with_reducible repeat (first | refine blk_drewN ?_ _ | refine blk_drew ?_ | refine blk_alloc ?_ _)); refine blk_far ?_ NB289_294.out _; (with_reducible repeat (first | refine blk_drewN ?_ _ | refine blk_drew ?_ | refine blk_alloc ?_ _)); exact BK289.out⟩, ⟨by (with_reducible repeat (first | refine blk_drewN ?_ _ | refine blk_drew ?_ | refine blk_alloc ?_ _)); refine blk_far ?_ NB292_294.out _; (with_reducible repeat (first | refine blk_drewN ?_ _ | refine blk_drew ?_ | refine blk_alloc ?_ _)); exact BK292.out⟩, ⟨by (with_reducible repeat (first | refine blk_drewN ?_ _ | refine blk_drew ?_ | refine blk_alloc ?_ _)); refine blk_far ?_ NB293_294.out _; (with_reducible repeat (first | refine blk_drewN ?_ _ | refine blk_drew ?_ | refine blk_alloc ?_ _)); exact BK293.out⟩, ⟨by (with_reducible repeat (first | refine blk_drewN ?_ _ | refine blk_drew ?_ | refine blk_alloc ?_ _)); refine sel_put (pre := []) (l := ([x295000_2, x295001_2, x295002_2, x295003_2] : List Int)) (post := []) ?_ rfl rfl (by simp) (of_decide_eq_true (by first | (with_reducible assumption) | assumption)) (of_decide_eq_true (by first | (with_reducible assumption) | assumption)); (with_reducible repeat (first | refine blk_drewN ?_ _ | refine blk_drew ?_ | refine blk_alloc ?_ _)); exact BK294.out⟩, ⟨by repeat (first | (with_reducible first | exact HB.out | apply below_alloc | apply pw_below_drewN | apply below_drew1 | refine below_set ?_ GE288.out | refine below_set ?_ GE289.out | refine below_set ?_ GE292.out | refine below_set ?_ GE293.out | refine below_set ?_ GE294.out) | exact HB.out)⟩⟩
                      · rw [if_neg c25] at H
                        exact absurd H (by simp)
                    · rw [if_neg c24] at H
                      exact absurd H (by simp)
                  · rw [if_neg c22] at H
                    exact absurd H (by simp)
                · rw [if_neg c21] at H
                  exact absurd H (by simp)
              · rw [if_neg c20] at H
                exact absurd H (by simp)
            · rw [if_neg c19] at H
              have c19b0 : decide (x11_2 < 4) = false := decide_eq_false c19
              clear c19
              by_cases c40 : 0 ≤ x10_1
              · rw [if_pos c40] at H
                have c40b0 := eq_true c40
                have c40b1 : decide (0 ≤ x10_1) = true := decide_eq_true c40
                clear c40
                by_cases c41 : x10_1 < 4
                · rw [if_pos c41] at H
                  have c41b0 := eq_true c41
                  have c41b1 : decide (x10_1 < 4) = true := decide_eq_true c41
                  clear c41
                  replace H := Option.bind_eq_some_iff.mp H
                  obtain ⟨t297, A420, H⟩ := H
                  replace H : ((attestorref01_Mul.f a0 (rd ([x295000_2, x295001_2, x295002_2, x295003_2] : List Int) x10_1) t297).bind fun t298 => (if 0 ≤ a0 then (if a0 < 4 then ((attestorref01_Pow.f k2 a0 (rd ([(updv x295000_2 0 x10_1 t298), (updv x295001_2 1 x10_1 t298), (updv x295002_2 2 x10_1 t298), (updv x295003_2 3 x10_1 t298)] : List Int) x10_1) (rd ([77, 171, 7373, 665496235] : List Int) a0)).bind fun t299 => ((attestorref06_Constant.f k2 a0 a1 x10_1).bind fun t300 => ((attestorref01_Sub.f a0 (rd ([(updv (updv x295000_2 0 x10_1 t298) 0 x10_1 t299), (updv (updv x295001_2 1 x10_1 t298) 1 x10_1 t299), (updv (updv x295002_2 2 x10_1 t298) 2 x10_1 t299), (updv (updv x295003_2 3 x10_1 t298) 3 x10_1 t299)] : List Int) x10_1) t300).bind fun t301 => (attestorref06_back.l0 k2 a0 a1 (wrap64 (x10_1 + 1)) a2_0 a2_1 a2_2 a2_3 t290 3 t291 17 77 171 7373 665496235 (updv (updv (updv x295000_2 0 x10_1 t298) 0 x10_1 t299) 0 x10_1 t301) (updv (updv (updv x295001_2 1 x10_1 t298) 1 x10_1 t299) 1 x10_1 t301) (updv (updv (updv x295002_2 2 x10_1 t298) 2 x10_1 t299) 2 x10_1 t301) (updv (updv (updv x295003_2 3 x10_1 t298) 3 x10_1 t299) 3 x10_1 t301))))) else (none)) else (none))) = some (r1, r2, r3, r4) := H
                  have A42 := Aside0.mk A420
                  clear A420
                  replace H := Option.bind_eq_some_iff.mp H
                  obtain ⟨t298, A430, H⟩ := H
                  replace H : (if 0 ≤ a0 then (if a0 < 4 then ((attestorref01_Pow.f k2 a0 (rd ([(updv x295000_2 0 x10_1 t298), (updv x295001_2 1 x10_1 t298), (updv x295002_2 2 x10_1 t298), (updv x295003_2 3 x10_1 t298)] : List Int) x10_1) (rd ([77, 171, 7373, 665496235] : List Int) a0)).bind fun t299 => ((attestorref06_Constant.f k2 a0 a1 x10_1).bind fun t300 => ((attestorref01_Sub.f a0 (rd ([(updv (updv x295000_2 0 x10_1 t298) 0 x10_1 t299), (updv (updv x295001_2 1 x10_1 t298) 1 x10_1 t299), (updv (updv x295002_2 2 x10_1 t298) 2 x10_1 t299), (updv (updv x295003_2 3 x10_1 t298) 3 x10_1 t299)] : List Int) x10_1) t300).bind fun t301 => (attestorref06_back.l0 k2 a0 a1 (wrap64 (x10_1 + 1)) a2_0 a2_1 a2_2 a2_3 t290 3 t291 17 77 171 7373 665496235 (updv (updv (updv x295000_2 0 x10_1 t298) 0 x10_1 t299) 0 x10_1 t301) (updv (updv (updv x295001_2 1 x10_1 t298) 1 x10_1 t299) 1 x10_1 t301) (updv (updv (updv x295002_2 2 x10_1 t298) 2 x10_1 t299) 2 x10_1 t301) (updv (updv (updv x295003_2 3 x10_1 t298) 3 x10_1 t299) 3 x10_1 t301))))) else (none)) else (none)) = some (r1, r2, r3, r4) := H
                  have A43 := Aside0.mk A430
                  clear A430
                  by_cases c44 : 0 ≤ a0
                  · rw [if_pos c44] at H
                    have c44b0 := eq_true c44
                    have c44b1 : decide (0 ≤ a0) = true := decide_eq_true c44
                    clear c44
                    by_cases c45 : a0 < 4
                    · rw [if_pos c45] at H
                      have c45b0 := eq_true c45
                      have c45b1 : decide (a0 < 4) = true := decide_eq_true c45
                      clear c45
                      replace H := Option.bind_eq_some_iff.mp H
                      obtain ⟨t299, A460, H⟩ := H
                      replace H : ((attestorref06_Constant.f k2 a0 a1 x10_1).bind fun t300 => ((attestorref01_Sub.f a0 (rd ([(updv (updv x295000_2 0 x10_1 t298) 0 x10_1 t299), (updv (updv x295001_2 1 x10_1 t298) 1 x10_1 t299), (updv (updv x295002_2 2 x10_1 t298) 2 x10_1 t299), (updv (updv x295003_2 3 x10_1 t298) 3 x10_1 t299)] : List Int) x10_1) t300).bind fun t301 => (attestorref06_back.l0 k2 a0 a1 (wrap64 (x10_1 + 1)) a2_0 a2_1 a2_2 a2_3 t290 3 t291 17 77 171 7373 665496235 (updv (updv (updv x295000_2 0 x10_1 t298) 0 x10_1 t299) 0 x10_1 t301) (updv (updv (updv x295001_2 1 x10_1 t298) 1 x10_1 t299) 1 x10_1 t301) (updv (updv (updv x295002_2 2 x10_1 t298) 2 x10_1 t299) 2 x10_1 t301) (updv (updv (updv x295003_2 3 x10_1 t298) 3 x10_1 t299) 3 x10_1 t301)))) = some (r1, r2, r3, r4) := H
                      have A46 := Aside0.mk A460
                      clear A460
                      replace H := Option.bind_eq_some_iff.mp H
                      obtain ⟨t300, A470, H⟩ := H
                      replace H : ((attestorref01_Sub.f a0 (rd ([(updv (updv x295000_2 0 x10_1 t298) 0 x10_1 t299), (updv (updv x295001_2 1 x10_1 t298) 1 x10_1 t299), (updv (updv x295002_2 2 x10_1 t298) 2 x10_1 t299), (updv (updv x295003_2 3 x10_1 t298) 3 x10_1 t299)] : List Int) x10_1) t300).bind fun t301 => (attestorref06_back.l0 k2 a0 a1 (wrap64 (x10_1 + 1)) a2_0 a2_1 a2_2 a2_3 t290 3 t291 17 77 171 7373 665496235 (updv (updv (updv x295000_2 0 x10_1 t298) 0 x10_1 t299) 0 x10_1 t301) (updv (updv (updv x295001_2 1 x10_1 t298) 1 x10_1 t299) 1 x10_1 t301) (updv (updv (updv x295002_2 2 x10_1 t298) 2 x10_1 t299) 2 x10_1 t301) (updv (updv (updv x295003_2 3 x10_1 t298) 3 x10_1 t299) 3 x10_1 t301))) = some (r1, r2, r3, r4) := H
                      have A47 := Aside0.mk A470
                      clear A470
                      replace H := Option.bind_eq_some_iff.mp H
                      obtain ⟨t301, A480, H⟩ := H
                      replace H : (attestorref06_back.l0 k2 a0 a1 (wrap64 (x10_1 + 1)) a2_0 a2_1 a2_2 a2_3 t290 3 t291 17 77 171 7373 665496235 (updv (updv (updv x295000_2 0 x10_1 t298) 0 x10_1 t299) 0 x10_1 t301) (updv (updv (updv x295001_2 1 x10_1 t298) 1 x10_1 t299) 1 x10_1 t301) (updv (updv (updv x295002_2 2 x10_1 t298) 2 x10_1 t299) 2 x10_1 t301) (updv (updv (updv x295003_2 3 x10_1 t298) 3 x10_1 t299) 3 x10_1 t301)) = some (r1, r2, r3, r4) := H
                      have A48 := Aside0.mk A480
                      clear A480
                      have H' := Aside0.mk H
                      clear H
                      try go_wp2
                      have n0_ := Aside0.mk (blk_drew BK288.out)
                      have n1_ := Aside0.mk (blk_drew BK289.out)
                      have n2_ := Aside0.mk (blk_drew BK292.out)
                      have n3_ := Aside0.mk (blk_drew BK293.out)
                      have n4_ := Aside0.mk (blk_drew BK294.out)
                      have n5_ := Aside0.mk (below_drew1 HB.out)
                      clear BK288
                      clear BK289
                      clear BK292
                      clear BK293
                      clear BK294
                      clear HB
                      have BK288 := n0_
                      have BK289 := n1_
                      have BK292 := n2_
                      have BK293 := n3_
                      have BK294 := n4_
                      have HB := n5_
                      clear n0_ n1_ n2_ n3_ n4_ n5_
                      have hlt50 : (x10_1 < 4) = True := eq_true (of_decide_eq_true (by first | (with_reducible assumption) | assumption))
                      have hge51 : (0 ≤ x10_1) = True := eq_true (of_decide_eq_true (by first | (with_reducible assumption) | assumption))
                      have hlt54 : (x10_1 < 4) = True := eq_true (of_decide_eq_true (by first | (with_reducible assumption) | assumption))
                      have hge55 : (0 ≤ x10_1) = True := eq_true (of_decide_eq_true (by first | (with_reducible assumption) | assumption))
                      refine start_ (n := 10) (S := fun w' => w'.cell? ⟨gb294, (x10_1).toNat, none⟩ = some (.int .u64 (rd ([x295000_2, x295001_2, x295002_2, x295003_2] : List Int) x10_1))) (ds := [9]) #[false, false, false, false, false, false, false, false, false, false] (by kernel_rfl) rfl rfl ((sel_at (pre := []) (l := ([x295000_2, x295001_2, x295002_2, x295003_2] : List Int)) (post := []) BK294.out rfl (by simp) (of_decide_eq_true (by first | (with_reducible assumption) | assumption)) (of_decide_eq_true (by first | (with_reducible assumption) | assumption)))) (fun hHeld => ?_); refine with_tabW attestorref06_back.tab11 attestorref06_back.bits11 (fun HT_ HW_ => ?_)
                      generalize wr.drew = w49 at BK288 BK289 BK292 BK293 BK294 HB hHeld ⊢
                      refine pure_ (i := 0) (N := some 44) (v := ?_) (a' := ?_) #[true, false, false, false, false, false, false, false, false, false] rfl rfl (any_of HT_.out (by kernel_rfl)) (fun _ _ _ h => h) (Or.inl ⟨by rfl, ?_⟩) ?_ ?_
                      rotate_left
                      · intro w'
                        go_simp
                        with_reducible rfl
                      rotate_left
                      · simp only [Act.put, List.setIfInBounds_toArray, List.set_cons_zero, List.set_cons_succ, i64_w, i32_w]
                        rfl
                      refine pure_ (i := 1) (N := some 45) (v := ?_) (a' := ?_) #[true, true, false, false, false, false, false, false, false, false] rfl rfl (any_of HT_.out (by kernel_rfl)) (fun _ _ _ h => h) (Or.inl ⟨by rfl, ?_⟩) ?_ ?_
                      rotate_left
                      · intro w'
                        go_simp
                        with_reducible rfl
                      rotate_left
                      · simp only [Act.put, List.setIfInBounds_toArray, List.set_cons_zero, List.set_cons_succ, i64_w, i32_w]
                        rfl
                      refine pure_ (i := 2) (N := some 46) (v := ?_) (a' := ?_) #[true, true, true, false, false, false, false, false, false, false] rfl rfl (any_of HT_.out (by kernel_rfl)) (fun _ _ _ h => h) (Or.inl ⟨by rfl, ?_⟩) ?_ ?_
                      rotate_left
                      · intro w'
                        go_simp
                        with_reducible rfl
                      rotate_left
                      · simp only [Act.put, List.setIfInBounds_toArray, List.set_cons_zero, List.set_cons_succ, i64_w, i32_w]
                        rfl
                      refine pure_ (i := 3) (N := some 47) (v := ?_) (a' := ?_) #[true, true, true, true, false, false, false, false, false, false] rfl rfl (any_of HT_.out (by kernel_rfl)) (fun _ _ _ h => h) (Or.inl ⟨by rfl, ?_⟩) ?_ ?_
                      rotate_left
                      · intro w'
                        go_simp
                        with_reducible rfl
                      rotate_left
                      · simp only [Act.put, List.setIfInBounds_toArray, List.set_cons_zero, List.set_cons_succ, i64_w, i32_w]
                        rfl
                      refine pure_ (i := 5) (N := some 49) (v := ?_) (a' := ?_) #[true, true, true, true, false, true, false, false, false, false] rfl rfl (any_of HT_.out (by kernel_rfl)) (fun _ _ _ h => h) (Or.inl ⟨by rfl, ?_⟩) ?_ ?_
                      rotate_left
                      · intro w'
                        go_simp
                        with_reducible rfl
                      rotate_left
                      · simp only [Act.put, List.setIfInBounds_toArray, List.set_cons_zero, List.set_cons_succ, i64_w, i32_w]
                        rfl
                      refine take_ (i := 4) (N := some 48) (v := ?_) (a' := ?_) #[true, true, true, true, true, true, false, false, false, false] rfl rfl (take_ofW HT_.out HW_.out (by kernel_rfl)) (fun _ _ _ h => h) (Or.inl ⟨by rfl, ?_⟩) hHeld ?_ ?_
                      rotate_left
                      · intro w' s0
                        go_simp
                        with_reducible rfl
                      rotate_left
                      · simp only [Act.put, List.setIfInBounds_toArray, List.set_cons_zero, List.set_cons_succ, i64_w, i32_w]
                        rfl
                      refine one_ (i := 6) (N := some 50) #[true, true, true, true, true, true, true, false, false, false] rfl rfl (one_of HT_.out (by kernel_rfl)) (by decide) (fun K hK => ?_)
                      refine goes_ Tryd.func56 (by kernel_rfl) rfl #[.int .i64 a0, .int .u64 35] (by rfl) rfl rfl (by (try simp only [List.map_toArray, List.map_cons, List.map_nil]); first | done | rfl | (simp only [List.length_drop, List.length_take]; rfl) | (go_simp; done) | (go_simp; rw [Int.tmod_eq_emod_of_nonneg (by omega)]; omega)) ?_
                      with_reducible refine (attestorref01_Inv.calls k2 a0 35 t297 _ A42.out).mono ?_
                      rintro e w' ⟨rfl, ⟨nd, rfl⟩⟩
                      refine ⟨_, rfl, ?_⟩
                      (try (rw [drewN_self w49]; generalize hq_ : World.drewN w49 _ = w49; have n0_ := Aside0.mk (blk_at hq_ BK288.out); have n1_ := Aside0.mk (blk_at hq_ BK289.out); have n2_ := Aside0.mk (blk_at hq_ BK292.out); have n3_ := Aside0.mk (blk_at hq_ BK293.out); have n4_ := Aside0.mk (blk_at hq_ BK294.out); have n5_ := Aside0.mk (below_at hq_ HB.out); clear hq_ BK288 BK289 BK292 BK293 BK294 HB; have BK288 := n0_; have BK289 := n1_; have BK292 := n2_; have BK293 := n3_; have BK294 := n4_; have HB := n5_; clear n0_ n1_ n2_ n3_ n4_ n5_))
                      refine hK.out _ _ ((sel_at (pre := []) (l := ([x295000_2, x295001_2, x295002_2, x295003_2] : List Int)) (post := []) BK294.out rfl (by simp) (of_decide_eq_true (by first | (with_reducible assumption) | assumption)) (of_decide_eq_true (by first | (with_reducible assumption) | assumption)))) (fun hHeld => ?_)
                      clear hK K
                      refine norm_ (a' := ?_) ?_ ?_
                      rotate_left
                      · show Act.put _ (some 50) _ = _
                        simp only [Act.put, List.setIfInBounds_toArray, List.set_cons_zero, List.set_cons_succ, i64_w, i32_w]
                        rfl
                      refine one_ (i := 7) (N := some 51) #[true, true, true, true, true, true, true, true, false, false] rfl rfl (one_of HT_.out (by kernel_rfl)) (by decide) (fun K hK => ?_)
                      refine goes_ Tryd.func40 (by kernel_rfl) rfl #[.int .i64 a0, .int .u64 (rd ([x295000_2, x295001_2, x295002_2, x295003_2] : List Int) x10_1), .int .u64 t297] (by rfl) rfl rfl (by (try simp only [List.map_toArray, List.map_cons, List.map_nil]); first | done | rfl | (simp only [List.length_drop, List.length_take]; rfl) | (go_simp; done) | (go_simp; rw [Int.tmod_eq_emod_of_nonneg (by omega)]; omega)) ?_
                      with_reducible refine (attestorref01_Mul.calls a0 (rd ([x295000_2, x295001_2, x295002_2, x295003_2] : List Int) x10_1) t297 t298 _ A43.out).mono ?_
                      rintro e w' ⟨rfl, ⟨nd, rfl⟩⟩
                      refine ⟨_, rfl, ?_⟩
                      (try (rw [drewN_self w49]; generalize hq_ : World.drewN w49 _ = w49; have n0_ := Aside0.mk (blk_at hq_ BK288.out); have n1_ := Aside0.mk (blk_at hq_ BK289.out); have n2_ := Aside0.mk (blk_at hq_ BK292.out); have n3_ := Aside0.mk (blk_at hq_ BK293.out); have n4_ := Aside0.mk (blk_at hq_ BK294.out); have n5_ := Aside0.mk (below_at hq_ HB.out); clear hq_ BK288 BK289 BK292 BK293 BK294 HB; have BK288 := n0_; have BK289 := n1_; have BK292 := n2_; have BK293 := n3_; have BK294 := n4_; have HB := n5_; clear n0_ n1_ n2_ n3_ n4_ n5_))
                      refine hK.out _ _ ((sel_at (pre := []) (l := ([x295000_2, x295001_2, x295002_2, x295003_2] : List Int)) (post := []) BK294.out rfl (by simp) (of_decide_eq_true (by first | (with_reducible assumption) | assumption)) (of_decide_eq_true (by first | (with_reducible assumption) | assumption)))) (fun hHeld => ?_)
                      clear hK K
                      refine norm_ (a' := ?_) ?_ ?_
                      rotate_left
                      · show Act.put _ (some 51) _ = _
                        simp only [Act.put, List.setIfInBounds_toArray, List.set_cons_zero, List.set_cons_succ, i64_w, i32_w]
                        rfl
                      refine pure_ (i := 8) (N := some 52) (v := ?_) (a' := ?_) #[true, true, true, true, true, true, true, true, true, false] rfl rfl (any_of HT_.out (by kernel_rfl)) (fun _ _ _ h => h) (Or.inl ⟨by rfl, ?_⟩) ?_ ?_
                      rotate_left
                      · intro w'
                        go_simp
                        with_reducible rfl
                      rotate_left
                      · simp only [Act.put, List.setIfInBounds_toArray, List.set_cons_zero, List.set_cons_succ, i64_w, i32_w]
                        rfl
                      refine last_ (i := 9) (N := none) #[true, true, true, true, true, true, true, true, true, true] rfl rfl (one_of HT_.out (by kernel_rfl)) (by decide) (fun K hK => ?_)
                      have hsv52 : w49.cell? ⟨gb294, (x10_1).toNat, none⟩ = some (.int .u64 (rd ([x295000_2, x295001_2, x295002_2, x295003_2] : List Int) x10_1)) := (sel_at (pre := []) (l := ([x295000_2, x295001_2, x295002_2, x295003_2] : List Int)) (post := []) BK294.out rfl (by simp) (of_decide_eq_true (by first | (with_reducible assumption) | assumption)) (of_decide_eq_true (by first | (with_reducible assumption) | assumption)))
                      have hfv53 := blk_frozen BK294.out ((x10_1).toNat)
                      have hns56_0 := NB288_294.out
                      have hns56_1 := NB289_294.out
                      have hns56_2 := NB292_294.out
                      have hns56_3 := NB293_294.out
                      have hms56_0 := NB294_288.out
                      have hms56_1 := NB294_289.out
                      have hms56_2 := NB294_292.out
                      have hms56_3 := NB294_293.out
                      refine skip_ (w1 := ?_) (by rfl) rfl ?_ ?_
                      rotate_left
                      · go_simp
                        rfl
                      refine hK.out _ _ ?_
                      clear hK K
                      refine done_ (done_of HT_.out (by kernel_rfl)) ?_
                      try go_wp2
                      have n0_ : Aside0 ((w49.setCell ⟨gb294, (x10_1).toNat, none⟩ (.int .u64 t298)).heap[gb288]? = some (.cells #[.int .u64 a2_0, .int .u64 a2_1, .int .u64 a2_2, .int .u64 a2_3] 23 (0, 0))) := ⟨by (with_reducible repeat (first | refine blk_drewN ?_ _ | refine blk_drew ?_ | refine blk_alloc ?_ _)); refine blk_far ?_ NB288_294.out _; (with_reducible repeat (first | refine blk_drewN ?_ _ | refine blk_drew ?_ | refine blk_alloc ?_ _)); exact BK288.out⟩
                      have n1_ : Aside0 ((w49.setCell ⟨gb294, (x10_1).toNat, none⟩ (.int .u64 t298)).heap[gb289]? = some (.cells #[.int .u64 0, .int .u64 0, .int .u64 0, .int .u64 0] 23 (0, 0))) := ⟨by (with_reducible repeat (first | refine blk_drewN ?_ _ | refine blk_drew ?_ | refine blk_alloc ?_ _)); refine blk_far ?_ NB289_294.out _; (with_reducible repeat (first | refine blk_drewN ?_ _ | refine blk_drew ?_ | refine blk_alloc ?_ _)); exact BK289.out⟩
                      have n2_ : Aside0 ((w49.setCell ⟨gb294, (x10_1).toNat, none⟩ (.int .u64 t298)).heap[gb292]? = some (.cells #[.int .u64 t290, .int .u64 3, .int .u64 t291, .int .u64 17] 23 (0, 0))) := ⟨by (with_reducible repeat (first | refine blk_drewN ?_ _ | refine blk_drew ?_ | refine blk_alloc ?_ _)); refine blk_far ?_ NB292_294.out _; (with_reducible repeat (first | refine blk_drewN ?_ _ | refine blk_drew ?_ | refine blk_alloc ?_ _)); exact BK292.out⟩
                      have n3_ : Aside0 ((w49.setCell ⟨gb294, (x10_1).toNat, none⟩ (.int .u64 t298)).heap[gb293]? = some (.cells #[.int .u64 77, .int .u64 171, .int .u64 7373, .int .u64 665496235] 23 (0, 0))) := ⟨by (with_reducible repeat (first | refine blk_drewN ?_ _ | refine blk_drew ?_ | refine blk_alloc ?_ _)); refine blk_far ?_ NB293_294.out _; (with_reducible repeat (first | refine blk_drewN ?_ _ | refine blk_drew ?_ | refine blk_alloc ?_ _)); exact BK293.out⟩
                      have n4_ : Aside0 ((w49.setCell ⟨gb294, (x10_1).toNat, none⟩ (.int .u64 t298)).heap[gb294]? = some (.cells #[.int .u64 (updv x295000_2 0 x10_1 t298), .int .u64 (updv x295001_2 1 x10_1 t298), .int .u64 (updv x295002_2 2 x10_1 t298), .int .u64 (updv x295003_2 3 x10_1 t298)] 23 (0, 0))) := ⟨by (with_reducible repeat (first | refine blk_drewN ?_ _ | refine blk_drew ?_ | refine blk_alloc ?_ _)); refine sel_put (pre := []) (l := ([x295000_2, x295001_2, x295002_2, x295003_2] : List Int)) (post := []) ?_ rfl rfl (by simp) (of_decide_eq_true (by first | (with_reducible assumption) | assumption)) (of_decide_eq_true (by first | (with_reducible assumption) | assumption)); (with_reducible repeat (first | refine blk_drewN ?_ _ | refine blk_drew ?_ | refine blk_alloc ?_ _)); exact BK294.out⟩
                      have n5_ : Aside0 (Below w.heap.size w (w49.setCell ⟨gb294, (x10_1).toNat, none⟩ (.int .u64 t298))) := ⟨by repeat (first | (with_reducible first | exact HB.out | apply below_alloc | apply pw_below_drewN | apply below_drew1 | refine below_set ?_ GE288.out | refine below_set ?_ GE289.out | refine below_set ?_ GE292.out | refine below_set ?_ GE293.out | refine below_set ?_ GE294.out) | exact HB.out)⟩
                      (try clear BK288)
                      (try clear BK289)
                      (try clear BK292)
                      (try clear BK293)
                      (try clear BK294)
                      (try clear HB)
                      generalize (w49.setCell ⟨gb294, (x10_1).toNat, none⟩ (.int .u64 t298)) = w57 at n0_ n1_ n2_ n3_ n4_ n5_ ⊢
                      have BK288 := n0_
                      have BK289 := n1_
                      have BK292 := n2_
                      have BK293 := n3_
                      have BK294 := n4_
                      have HB := n5_
                      clear n0_ n1_ n2_ n3_ n4_ n5_
                      have n0_ := Aside0.mk (blk_drew BK288.out)
                      have n1_ := Aside0.mk (blk_drew BK289.out)
                      have n2_ := Aside0.mk (blk_drew BK292.out)
                      have n3_ := Aside0.mk (blk_drew BK293.out)
                      have n4_ := Aside0.mk (blk_drew BK294.out)
                      have n5_ := Aside0.mk (below_drew1 HB.out)
                      clear BK288
                      clear BK289
                      clear BK292
                      clear BK293
                      clear BK294
                      clear HB
                      have BK288 := n0_
                      have BK289 := n1_
                      have BK292 := n2_
                      have BK293 := n3_
                      have BK294 := n4_
                      have HB := n5_
                      clear n0_ n1_ n2_ n3_ n4_ n5_
                      have hlt59 : (x10_1 < 4) = True := eq_true (of_decide_eq_true (by first | (with_reducible assumption) | assumption))
                      have hge60 : (0 ≤ x10_1) = True := eq_true (of_decide_eq_true (by first | (with_reducible assumption) | assumption))
                      have hlt61 : (a0 < 4) = True := eq_true (of_decide_eq_true (by first | (with_reducible assumption) | assumption))
                      have hge62 : (0 ≤ a0) = True := eq_true (of_decide_eq_true (by first | (with_reducible assumption) | assumption))
                      have hlt65 : (x10_1 < 4) = True := eq_true (of_decide_eq_true (by first | (with_reducible assumption) | assumption))
                      have hge66 : (0 ≤ x10_1) = True := eq_true (of_decide_eq_true (by first | (with_reducible assumption) | assumption))
                      refine start_ (n := 11) (S := fun w' => w'.cell? ⟨gb294, (x10_1).toNat, none⟩ = some (.int .u64 (rd ([(updv x295000_2 0 x10_1 t298), (updv x295001_2 1 x10_1 t298), (updv x295002_2 2 x10_1 t298), (updv x295003_2 3 x10_1 t298)] : List Int) x10_1)) ∧ w'.cell? ⟨gb293, (a0).toNat, none⟩ = some (.int .u64 (rd ([77, 171, 7373, 665496235] : List Int) a0))) (ds := [10]) #[false, false, false, false, false, false, false, false, false, false, false] (by kernel_rfl) rfl rfl ⟨(sel_at (pre := []) (l := ([(updv x295000_2 0 x10_1 t298), (updv x295001_2 1 x10_1 t298), (updv x295002_2 2 x10_1 t298), (updv x295003_2 3 x10_1 t298)] : List Int)) (post := []) BK294.out rfl (by simp) (of_decide_eq_true (by first | (with_reducible assumption) | assumption)) (of_decide_eq_true (by first | (with_reducible assumption) | assumption))), (sel_at (pre := []) (l := ([77, 171, 7373, 665496235] : List Int)) (post := []) BK293.out rfl (by simp) (of_decide_eq_true (by first | (with_reducible assumption) | assumption)) (of_decide_eq_true (by first | (with_reducible assumption) | assumption)))⟩ (fun hHeld => ?_); refine with_tabW attestorref06_back.tab12 attestorref06_back.bits12 (fun HT_ HW_ => ?_)
                      generalize w57.drew = w58 at BK288 BK289 BK292 BK293 BK294 HB hHeld ⊢
                      refine pure_ (i := 0) (N := some 53) (v := ?_) (a' := ?_) #[true, false, false, false, false, false, false, false, false, false, false] rfl rfl (any_of HT_.out (by kernel_rfl)) (fun _ _ _ h => h) (Or.inl ⟨by rfl, ?_⟩) ?_ ?_
                      rotate_left
                      · intro w'
                        go_simp
                        with_reducible rfl
                      rotate_left
                      · simp only [Act.put, List.setIfInBounds_toArray, List.set_cons_zero, List.set_cons_succ, i64_w, i32_w]
                        rfl
                      refine pure_ (i := 1) (N := some 54) (v := ?_) (a' := ?_) #[true, true, false, false, false, false, false, false, false, false, false] rfl rfl (any_of HT_.out (by kernel_rfl)) (fun _ _ _ h => h) (Or.inl ⟨by rfl, ?_⟩) ?_ ?_
                      rotate_left
                      · intro w'
                        go_simp
                        with_reducible rfl
                      rotate_left
                      · simp only [Act.put, List.setIfInBounds_toArray, List.set_cons_zero, List.set_cons_succ, i64_w, i32_w]
                        rfl
                      refine pure_ (i := 2) (N := some 55) (v := ?_) (a' := ?_) #[true, true, true, false, false, false, false, false, false, false, false] rfl rfl (any_of HT_.out (by kernel_rfl)) (fun _ _ _ h => h) (Or.inl ⟨by rfl, ?_⟩) ?_ ?_
                      rotate_left
                      · intro w'
                        go_simp
                        with_reducible rfl
                      rotate_left
                      · simp only [Act.put, List.setIfInBounds_toArray, List.set_cons_zero, List.set_cons_succ, i64_w, i32_w]
                        rfl
                      refine pure_ (i := 3) (N := some 56) (v := ?_) (a' := ?_) #[true, true, true, true, false, false, false, false, false, false, false] rfl rfl (any_of HT_.out (by kernel_rfl)) (fun _ _ _ h => h) (Or.inl ⟨by rfl, ?_⟩) ?_ ?_
                      rotate_left
                      · intro w'
                        go_simp
                        with_reducible rfl
                      rotate_left
                      · simp only [Act.put, List.setIfInBounds_toArray, List.set_cons_zero, List.set_cons_succ, i64_w, i32_w]
                        rfl
                      refine pure_ (i := 5) (N := some 58) (v := ?_) (a' := ?_) #[true, true, true, true, false, true, false, false, false, false, false] rfl rfl (any_of HT_.out (by kernel_rfl)) (fun _ _ _ h => h) (Or.inl ⟨by rfl, ?_⟩) ?_ ?_
                      rotate_left
                      · intro w'
                        go_simp
                        with_reducible rfl
                      rotate_left
                      · simp only [Act.put, List.setIfInBounds_toArray, List.set_cons_zero, List.set_cons_succ, i64_w, i32_w]
                        rfl
                      refine pure_ (i := 6) (N := some 59) (v := ?_) (a' := ?_) #[true, true, true, true, false, true, true, false, false, false, false] rfl rfl (any_of HT_.out (by kernel_rfl)) (fun _ _ _ h => h) (Or.inl ⟨by rfl, ?_⟩) ?_ ?_
                      rotate_left
                      · intro w'
                        go_simp
                        with_reducible rfl
                      rotate_left
                      · simp only [Act.put, List.setIfInBounds_toArray, List.set_cons_zero, List.set_cons_succ, i64_w, i32_w]
                        rfl
                      refine take_ (i := 4) (N := some 57) (v := ?_) (a' := ?_) #[true, true, true, true, true, true, true, false, false, false, false] rfl rfl (take_ofW HT_.out HW_.out (by kernel_rfl)) (fun _ _ _ h => h) (Or.inl ⟨by rfl, ?_⟩) hHeld ?_ ?_
                      rotate_left
                      · rintro w' ⟨s0, s1⟩
                        go_simp
                        with_reducible rfl
                      rotate_left
                      · simp only [Act.put, List.setIfInBounds_toArray, List.set_cons_zero, List.set_cons_succ, i64_w, i32_w]
                        rfl
                      refine take_ (i := 7) (N := some 60) (v := ?_) (a' := ?_) #[true, true, true, true, true, true, true, true, false, false, false] rfl rfl (take_ofW HT_.out HW_.out (by kernel_rfl)) (fun _ _ _ h => h) (Or.inl ⟨by rfl, ?_⟩) hHeld ?_ ?_
                      rotate_left
                      · rintro w' ⟨s0, s1⟩
                        go_simp
                        with_reducible rfl
                      rotate_left
                      · simp only [Act.put, List.setIfInBounds_toArray, List.set_cons_zero, List.set_cons_succ, i64_w, i32_w]
                        rfl
                      refine one_ (i := 8) (N := some 61) #[true, true, true, true, true, true, true, true, true, false, false] rfl rfl (one_of HT_.out (by kernel_rfl)) (by decide) (fun K hK => ?_)
                      refine goes_ Tryd.func33 (by kernel_rfl) rfl #[.int .i64 a0, .int .u64 (rd ([(updv x295000_2 0 x10_1 t298), (updv x295001_2 1 x10_1 t298), (updv x295002_2 2 x10_1 t298), (updv x295003_2 3 x10_1 t298)] : List Int) x10_1), .int .u64 (rd ([77, 171, 7373, 665496235] : List Int) a0)] (by rfl) rfl rfl (by (try simp only [List.map_toArray, List.map_cons, List.map_nil]); first | done | rfl | (simp only [List.length_drop, List.length_take]; rfl) | (go_simp; done) | (go_simp; rw [Int.tmod_eq_emod_of_nonneg (by omega)]; omega)) ?_
                      with_reducible refine (attestorref01_Pow.calls k2 a0 (rd ([(updv x295000_2 0 x10_1 t298), (updv x295001_2 1 x10_1 t298), (updv x295002_2 2 x10_1 t298), (updv x295003_2 3 x10_1 t298)] : List Int) x10_1) (rd ([77, 171, 7373, 665496235] : List Int) a0) t299 _ A46.out).mono ?_
                      rintro e w' ⟨rfl, ⟨nd, rfl⟩⟩
                      refine ⟨_, rfl, ?_⟩
                      (try (rw [drewN_self w58]; generalize hq_ : World.drewN w58 _ = w58; have n0_ := Aside0.mk (blk_at hq_ BK288.out); have n1_ := Aside0.mk (blk_at hq_ BK289.out); have n2_ := Aside0.mk (blk_at hq_ BK292.out); have n3_ := Aside0.mk (blk_at hq_ BK293.out); have n4_ := Aside0.mk (blk_at hq_ BK294.out); have n5_ := Aside0.mk (below_at hq_ HB.out); clear hq_ BK288 BK289 BK292 BK293 BK294 HB; have BK288 := n0_; have BK289 := n1_; have BK292 := n2_; have BK293 := n3_; have BK294 := n4_; have HB := n5_; clear n0_ n1_ n2_ n3_ n4_ n5_))
                      refine hK.out _ _ ⟨(sel_at (pre := []) (l := ([(updv x295000_2 0 x10_1 t298), (updv x295001_2 1 x10_1 t298), (updv x295002_2 2 x10_1 t298), (updv x295003_2 3 x10_1 t298)] : List Int)) (post := []) BK294.out rfl (by simp) (of_decide_eq_true (by first | (with_reducible assumption) | assumption)) (of_decide_eq_true (by first | (with_reducible assumption) | assumption))), (sel_at (pre := []) (l := ([77, 171, 7373, 665496235] : List Int)) (post := []) BK293.out rfl (by simp) (of_decide_eq_true (by first | (with_reducible assumption) | assumption)) (of_decide_eq_true (by first | (with_reducible assumption) | assumption)))⟩ (fun hHeld => ?_)
                      clear hK K
                      refine norm_ (a' := ?_) ?_ ?_
                      rotate_left
                      · show Act.put _ (some 61) _ = _
                        simp only [Act.put, List.setIfInBounds_toArray, List.set_cons_zero, List.set_cons_succ, i64_w, i32_w]
                        rfl
                      refine pure_ (i := 9) (N := some 62) (v := ?_) (a' := ?_) #[true, true, true, true, true, true, true, true, true, true, false] rfl rfl (any_of HT_.out (by kernel_rfl)) (fun _ _ _ h => h) (Or.inl ⟨by rfl, ?_⟩) ?_ ?_
                      rotate_left
                      · intro w'
                        go_simp
                        with_reducible rfl
                      rotate_left
                      · simp only [Act.put, List.setIfInBounds_toArray, List.set_cons_zero, List.set_cons_succ, i64_w, i32_w]
                        rfl
                      refine last_ (i := 10) (N := none) #[true, true, true, true, true, true, true, true, true, true, true] rfl rfl (one_of HT_.out (by kernel_rfl)) (by decide) (fun K hK => ?_)
                      have hsv63 : w58.cell? ⟨gb294, (x10_1).toNat, none⟩ = some (.int .u64 (rd ([(updv x295000_2 0 x10_1 t298), (updv x295001_2 1 x10_1 t298), (updv x295002_2 2 x10_1 t298), (updv x295003_2 3 x10_1 t298)] : List Int) x10_1)) := (sel_at (pre := []) (l := ([(updv x295000_2 0 x10_1 t298), (updv x295001_2 1 x10_1 t298), (updv x295002_2 2 x10_1 t298), (updv x295003_2 3 x10_1 t298)] : List Int)) (post := []) BK294.out rfl (by simp) (of_decide_eq_true (by first | (with_reducible assumption) | assumption)) (of_decide_eq_true (by first | (with_reducible assumption) | assumption)))
                      have hfv64 := blk_frozen BK294.out ((x10_1).toNat)
                      have hns67_0 := NB288_294.out
                      have hns67_1 := NB289_294.out
                      have hns67_2 := NB292_294.out
                      have hns67_3 := NB293_294.out
                      have hms67_0 := NB294_288.out
                      have hms67_1 := NB294_289.out
                      have hms67_2 := NB294_292.out
                      have hms67_3 := NB294_293.out
                      refine skip_ (w1 := ?_) (by rfl) rfl ?_ ?_
                      rotate_left
                      · go_simp
                        rfl
                      refine hK.out _ _ ?_
                      clear hK K
                      refine done_ (done_of HT_.out (by kernel_rfl)) ?_
                      try go_wp2
                      have n0_ : Aside0 ((w58.setCell ⟨gb294, (x10_1).toNat, none⟩ (.int .u64 t299)).heap[gb288]? = some (.cells #[.int .u64 a2_0, .int .u64 a2_1, .int .u64 a2_2, .int .u64 a2_3] 23 (0, 0))) := ⟨by (with_reducible repeat (first | refine blk_drewN ?_ _ | refine blk_drew ?_ | refine blk_alloc ?_ _)); refine blk_far ?_ NB288_294.out _; (with_reducible repeat (first | refine blk_drewN ?_ _ | refine blk_drew ?_ | refine blk_alloc ?_ _)); exact BK288.out⟩
                      have n1_ : Aside0 ((w58.setCell ⟨gb294, (x10_1).toNat, none⟩ (.int .u64 t299)).heap[gb289]? = some (.cells #[.int .u64 0, .int .u64 0, .int .u64 0, .int .u64 0] 23 (0, 0))) := ⟨by (with_reducible repeat (first | refine blk_drewN ?_ _ | refine blk_drew ?_ | refine blk_alloc ?_ _)); refine blk_far ?_ NB289_294.out _; (with_reducible repeat (first | refine blk_drewN ?_ _ | refine blk_drew ?_ | refine blk_alloc ?_ _)); exact BK289.out⟩
                      have n2_ : Aside0 ((w58.setCell ⟨gb294, (x10_1).toNat, none⟩ (.int .u64 t299)).heap[gb292]? = some (.cells #[.int .u64 t290, .int .u64 3, .int .u64 t291, .int .u64 17] 23 (0, 0))) := ⟨by (with_reducible repeat (first | refine blk_drewN ?_ _ | refine blk_drew ?_ | refine blk_alloc ?_ _)); refine blk_far ?_ NB292_294.out _; (with_reducible repeat (first | refine blk_drewN ?_ _ | refine blk_drew ?_ | refine blk_alloc ?_ _)); exact BK292.out⟩
                      have n3_ : Aside0 ((w58.setCell ⟨gb294, (x10_1).toNat, none⟩ (.int .u64 t299)).heap[gb293]? = some (.cells #[.int .u64 77, .int .u64 171, .int .u64 7373, .int .u64 665496235] 23 (0, 0))) := ⟨by (with_reducible repeat (first | refine blk_drewN ?_ _ | refine blk_drew ?_ | refine blk_alloc ?_ _)); refine blk_far ?_ NB293_294.out _; (with_reducible repeat (first | refine blk_drewN ?_ _ | refine blk_drew ?_ | refine blk_alloc ?_ _)); exact BK293.out⟩
                      have n4_ : Aside0 ((w58.setCell ⟨gb294, (x10_1).toNat, none⟩ (.int .u64 t299)).heap[gb294]? = some (.cells #[.int .u64 (updv (updv x295000_2 0 x10_1 t298) 0 x10_1 t299), .int .u64 (updv (updv x295001_2 1 x10_1 t298) 1 x10_1 t299), .int .u64 (updv (updv x295002_2 2 x10_1 t298) 2 x10_1 t299), .int .u64 (updv (updv x295003_2 3 x10_1 t298) 3 x10_1 t299)] 23 (0, 0))) := ⟨by (with_reducible repeat (first | refine blk_drewN ?_ _ | refine blk_drew ?_ | refine blk_alloc ?_ _)); refine sel_put (pre := []) (l := ([(updv x295000_2 0 x10_1 t298), (updv x295001_2 1 x10_1 t298), (updv x295002_2 2 x10_1 t298), (updv x295003_2 3 x10_1 t298)] : List Int)) (post := []) ?_ rfl rfl (by simp) (of_decide_eq_true (by first | (with_reducible assumption) | assumption)) (of_decide_eq_true (by first | (with_reducible assumption) | assumption)); (with_reducible repeat (first | refine blk_drewN ?_ _ | refine blk_drew ?_ | refine blk_alloc ?_ _)); exact BK294.out⟩
                      have n5_ : Aside0 (Below w.heap.size w (w58.setCell ⟨gb294, (x10_1).toNat, none⟩ (.int .u64 t299))) := ⟨by repeat (first | (with_reducible first | exact HB.out | apply below_alloc | apply pw_below_drewN | apply below_drew1 | refine below_set ?_ GE288.out | refine below_set ?_ GE289.out | refine below_set ?_ GE292.out | refine below_set ?_ GE293.out | refine below_set ?_ GE294.out) | exact HB.out)⟩
                      (try clear BK288)
                      (try clear BK289)
                      (try clear BK292)
                      (try clear BK293)
                      (try clear BK294)
                      (try clear HB)
                      generalize (w58.setCell ⟨gb294, (x10_1).toNat, none⟩ (.int .u64 t299)) = w68 at n0_ n1_ n2_ n3_ n4_ n5_ ⊢
                      have BK288 := n0_
                      have BK289 := n1_
                      have BK292 := n2_
                      have BK293 := n3_
                      have BK294 := n4_
                      have HB := n5_
                      clear n0_ n1_ n2_ n3_ n4_ n5_
                      have n0_ := Aside0.mk (blk_drew BK288.out)
                      have n1_ := Aside0.mk (blk_drew BK289.out)
                      have n2_ := Aside0.mk (blk_drew BK292.out)
                      have n3_ := Aside0.mk (blk_drew BK293.out)
                      have n4_ := Aside0.mk (blk_drew BK294.out)
                      have n5_ := Aside0.mk (below_drew1 HB.out)
                      clear BK288
                      clear BK289
                      clear BK292
                      clear BK293
                      clear BK294
                      clear HB
                      have BK288 := n0_
                      have BK289 := n1_
                      have BK292 := n2_
                      have BK293 := n3_
                      have BK294 := n4_
                      have HB := n5_
                      clear n0_ n1_ n2_ n3_ n4_ n5_
                      have hlt70 : (x10_1 < 4) = True := eq_true (of_decide_eq_true (by first | (with_reducible assumption) | assumption))
                      have hge71 : (0 ≤ x10_1) = True := eq_true (of_decide_eq_true (by first | (with_reducible assumption) | assumption))
                      have hlt74 : (x10_1 < 4) = True := eq_true (of_decide_eq_true (by first | (with_reducible assumption) | assumption))
                      have hge75 : (0 ≤ x10_1) = True := eq_true (of_decide_eq_true (by first | (with_reducible assumption) | assumption))
                      refine start_ (n := 12) (S := fun w' => w'.cell? ⟨gb294, (x10_1).toNat, none⟩ = some (.int .u64 (rd ([(updv (updv x295000_2 0 x10_1 t298) 0 x10_1 t299), (updv (updv x295001_2 1 x10_1 t298) 1 x10_1 t299), (updv (updv x295002_2 2 x10_1 t298) 2 x10_1 t299), (updv (updv x295003_2 3 x10_1 t298) 3 x10_1 t299)] : List Int) x10_1))) (ds := [11]) #[false, false, false, false, false, false, false, false, false, false, false, false] (by kernel_rfl) rfl rfl ((sel_at (pre := []) (l := ([(updv (updv x295000_2 0 x10_1 t298) 0 x10_1 t299), (updv (updv x295001_2 1 x10_1 t298) 1 x10_1 t299), (updv (updv x295002_2 2 x10_1 t298) 2 x10_1 t299), (updv (updv x295003_2 3 x10_1 t298) 3 x10_1 t299)] : List Int)) (post := []) BK294.out rfl (by simp) (of_decide_eq_true (by first | (with_reducible assumption) | assumption)) (of_decide_eq_true (by first | (with_reducible assumption) | assumption)))) (fun hHeld => ?_); refine with_tabW attestorref06_back.tab13 attestorref06_back.bits13 (fun HT_ HW_ => ?_)
                      generalize w68.drew = w69 at BK288 BK289 BK292 BK293 BK294 HB hHeld ⊢
                      refine pure_ (i := 0) (N := some 63) (v := ?_) (a' := ?_) #[true, false, false, false, false, false, false, false, false, false, false, false] rfl rfl (any_of HT_.out (by kernel_rfl)) (fun _ _ _ h => h) (Or.inl ⟨by rfl, ?_⟩) ?_ ?_
                      rotate_left
                      · intro w'
                        go_simp
                        with_reducible rfl
                      rotate_left
                      · simp only [Act.put, List.setIfInBounds_toArray, List.set_cons_zero, List.set_cons_succ, i64_w, i32_w]
                        rfl
                      refine pure_ (i := 1) (N := some 64) (v := ?_) (a' := ?_) #[true, true, false, false, false, false, false, false, false, false, false, false] rfl rfl (any_of HT_.out (by kernel_rfl)) (fun _ _ _ h => h) (Or.inl ⟨by rfl, ?_⟩) ?_ ?_
                      rotate_left
                      · intro w'
                        go_simp
                        with_reducible rfl
                      rotate_left
                      · simp only [Act.put, List.setIfInBounds_toArray, List.set_cons_zero, List.set_cons_succ, i64_w, i32_w]
                        rfl
                      refine pure_ (i := 2) (N := some 65) (v := ?_) (a' := ?_) #[true, true, true, false, false, false, false, false, false, false, false, false] rfl rfl (any_of HT_.out (by kernel_rfl)) (fun _ _ _ h => h) (Or.inl ⟨by rfl, ?_⟩) ?_ ?_
                      rotate_left
                      · intro w'
                        go_simp
                        with_reducible rfl
                      rotate_left
                      · simp only [Act.put, List.setIfInBounds_toArray, List.set_cons_zero, List.set_cons_succ, i64_w, i32_w]
                        rfl
                      refine pure_ (i := 3) (N := some 66) (v := ?_) (a' := ?_) #[true, true, true, true, false, false, false, false, false, false, false, false] rfl rfl (any_of HT_.out (by kernel_rfl)) (fun _ _ _ h => h) (Or.inl ⟨by rfl, ?_⟩) ?_ ?_
                      rotate_left
                      · intro w'
                        go_simp
                        with_reducible rfl
                      rotate_left
                      · simp only [Act.put, List.setIfInBounds_toArray, List.set_cons_zero, List.set_cons_succ, i64_w, i32_w]
                        rfl
                      refine pure_ (i := 5) (N := some 68) (v := ?_) (a' := ?_) #[true, true, true, true, false, true, false, false, false, false, false, false] rfl rfl (any_of HT_.out (by kernel_rfl)) (fun _ _ _ h => h) (Or.inl ⟨by rfl, ?_⟩) ?_ ?_
                      rotate_left
                      · intro w'
                        go_simp
                        with_reducible rfl
                      rotate_left
                      · simp only [Act.put, List.setIfInBounds_toArray, List.set_cons_zero, List.set_cons_succ, i64_w, i32_w]
                        rfl
                      refine pure_ (i := 6) (N := some 69) (v := ?_) (a' := ?_) #[true, true, true, true, false, true, true, false, false, false, false, false] rfl rfl (any_of HT_.out (by kernel_rfl)) (fun _ _ _ h => h) (Or.inl ⟨by rfl, ?_⟩) ?_ ?_
                      rotate_left
                      · intro w'
                        go_simp
                        with_reducible rfl
                      rotate_left
                      · simp only [Act.put, List.setIfInBounds_toArray, List.set_cons_zero, List.set_cons_succ, i64_w, i32_w]
                        rfl
                      refine pure_ (i := 7) (N := some 70) (v := ?_) (a' := ?_) #[true, true, true, true, false, true, true, true, false, false, false, false] rfl rfl (any_of HT_.out (by kernel_rfl)) (fun _ _ _ h => h) (Or.inl ⟨by rfl, ?_⟩) ?_ ?_
                      rotate_left
                      · intro w'
                        go_simp
                        with_reducible rfl
                      rotate_left
                      · simp only [Act.put, List.setIfInBounds_toArray, List.set_cons_zero, List.set_cons_succ, i64_w, i32_w]
                        rfl
                      refine take_ (i := 4) (N := some 67) (v := ?_) (a' := ?_) #[true, true, true, true, true, true, true, true, false, false, false, false] rfl rfl (take_ofW HT_.out HW_.out (by kernel_rfl)) (fun _ _ _ h => h) (Or.inl ⟨by rfl, ?_⟩) hHeld ?_ ?_
                      rotate_left
                      · intro w' s0
                        go_simp
                        with_reducible rfl
                      rotate_left
                      · simp only [Act.put, List.setIfInBounds_toArray, List.set_cons_zero, List.set_cons_succ, i64_w, i32_w]
                        rfl
                      refine one_ (i := 8) (N := some 71) #[true, true, true, true, true, true, true, true, true, false, false, false] rfl rfl (one_of HT_.out (by kernel_rfl)) (by decide) (fun K hK => ?_)
                      refine goes_ Tryd.func13 (by kernel_rfl) rfl #[.int .i64 a0, .int .i64 a1, .int .i64 x10_1] (by rfl) rfl rfl (by (try simp only [List.map_toArray, List.map_cons, List.map_nil]); first | done | rfl | (simp only [List.length_drop, List.length_take]; rfl) | (go_simp; done) | (go_simp; rw [Int.tmod_eq_emod_of_nonneg (by omega)]; omega)) ?_
                      with_reducible refine (attestorref06_Constant.calls k2 a0 a1 x10_1 t300 _ A47.out).mono ?_
                      rintro e w' ⟨rfl, ⟨nd, rfl⟩⟩
                      refine ⟨_, rfl, ?_⟩
                      (try (rw [drewN_self w69]; generalize hq_ : World.drewN w69 _ = w69; have n0_ := Aside0.mk (blk_at hq_ BK288.out); have n1_ := Aside0.mk (blk_at hq_ BK289.out); have n2_ := Aside0.mk (blk_at hq_ BK292.out); have n3_ := Aside0.mk (blk_at hq_ BK293.out); have n4_ := Aside0.mk (blk_at hq_ BK294.out); have n5_ := Aside0.mk (below_at hq_ HB.out); clear hq_ BK288 BK289 BK292 BK293 BK294 HB; have BK288 := n0_; have BK289 := n1_; have BK292 := n2_; have BK293 := n3_; have BK294 := n4_; have HB := n5_; clear n0_ n1_ n2_ n3_ n4_ n5_))
                      refine hK.out _ _ ((sel_at (pre := []) (l := ([(updv (updv x295000_2 0 x10_1 t298) 0 x10_1 t299), (updv (updv x295001_2 1 x10_1 t298) 1 x10_1 t299), (updv (updv x295002_2 2 x10_1 t298) 2 x10_1 t299), (updv (updv x295003_2 3 x10_1 t298) 3 x10_1 t299)] : List Int)) (post := []) BK294.out rfl (by simp) (of_decide_eq_true (by first | (with_reducible assumption) | assumption)) (of_decide_eq_true (by first | (with_reducible assumption) | assumption)))) (fun hHeld => ?_)
                      clear hK K
                      refine norm_ (a' := ?_) ?_ ?_
                      rotate_left
                      · show Act.put _ (some 71) _ = _
                        simp only [Act.put, List.setIfInBounds_toArray, List.set_cons_zero, List.set_cons_succ, i64_w, i32_w]
                        rfl
                      refine one_ (i := 9) (N := some 72) #[true, true, true, true, true, true, true, true, true, true, false, false] rfl rfl (one_of HT_.out (by kernel_rfl)) (by decide) (fun K hK => ?_)
                      refine goes_ Tryd.func57 (by kernel_rfl) rfl #[.int .i64 a0, .int .u64 (rd ([(updv (updv x295000_2 0 x10_1 t298) 0 x10_1 t299), (updv (updv x295001_2 1 x10_1 t298) 1 x10_1 t299), (updv (updv x295002_2 2 x10_1 t298) 2 x10_1 t299), (updv (updv x295003_2 3 x10_1 t298) 3 x10_1 t299)] : List Int) x10_1), .int .u64 t300] (by rfl) rfl rfl (by (try simp only [List.map_toArray, List.map_cons, List.map_nil]); first | done | rfl | (simp only [List.length_drop, List.length_take]; rfl) | (go_simp; done) | (go_simp; rw [Int.tmod_eq_emod_of_nonneg (by omega)]; omega)) ?_
                      with_reducible refine (attestorref01_Sub.calls a0 (rd ([(updv (updv x295000_2 0 x10_1 t298) 0 x10_1 t299), (updv (updv x295001_2 1 x10_1 t298) 1 x10_1 t299), (updv (updv x295002_2 2 x10_1 t298) 2 x10_1 t299), (updv (updv x295003_2 3 x10_1 t298) 3 x10_1 t299)] : List Int) x10_1) t300 t301 _ A48.out).mono ?_
                      rintro e w' ⟨rfl, ⟨nd, rfl⟩⟩
                      refine ⟨_, rfl, ?_⟩
                      (try (rw [drewN_self w69]; generalize hq_ : World.drewN w69 _ = w69; have n0_ := Aside0.mk (blk_at hq_ BK288.out); have n1_ := Aside0.mk (blk_at hq_ BK289.out); have n2_ := Aside0.mk (blk_at hq_ BK292.out); have n3_ := Aside0.mk (blk_at hq_ BK293.out); have n4_ := Aside0.mk (blk_at hq_ BK294.out); have n5_ := Aside0.mk (below_at hq_ HB.out); clear hq_ BK288 BK289 BK292 BK293 BK294 HB; have BK288 := n0_; have BK289 := n1_; have BK292 := n2_; have BK293 := n3_; have BK294 := n4_; have HB := n5_; clear n0_ n1_ n2_ n3_ n4_ n5_))
                      refine hK.out _ _ ((sel_at (pre := []) (l := ([(updv (updv x295000_2 0 x10_1 t298) 0 x10_1 t299), (updv (updv x295001_2 1 x10_1 t298) 1 x10_1 t299), (updv (updv x295002_2 2 x10_1 t298) 2 x10_1 t299), (updv (updv x295003_2 3 x10_1 t298) 3 x10_1 t299)] : List Int)) (post := []) BK294.out rfl (by simp) (of_decide_eq_true (by first | (with_reducible assumption) | assumption)) (of_decide_eq_true (by first | (with_reducible assumption) | assumption)))) (fun hHeld => ?_)
                      clear hK K
                      refine norm_ (a' := ?_) ?_ ?_
                      rotate_left
                      · show Act.put _ (some 72) _ = _
                        simp only [Act.put, List.setIfInBounds_toArray, List.set_cons_zero, List.set_cons_succ, i64_w, i32_w]
                        rfl
                      refine pure_ (i := 10) (N := some 73) (v := ?_) (a' := ?_) #[true, true, true, true, true, true, true, true, true, true, true, false] rfl rfl (any_of HT_.out (by kernel_rfl)) (fun _ _ _ h => h) (Or.inl ⟨by rfl, ?_⟩) ?_ ?_
                      rotate_left
                      · intro w'
                        go_simp
                        with_reducible rfl
                      rotate_left
                      · simp only [Act.put, List.setIfInBounds_toArray, List.set_cons_zero, List.set_cons_succ, i64_w, i32_w]
                        rfl
                      refine last_ (i := 11) (N := none) #[true, true, true, true, true, true, true, true, true, true, true, true] rfl rfl (one_of HT_.out (by kernel_rfl)) (by decide) (fun K hK => ?_)
                      have hsv72 : w69.cell? ⟨gb294, (x10_1).toNat, none⟩ = some (.int .u64 (rd ([(updv (updv x295000_2 0 x10_1 t298) 0 x10_1 t299), (updv (updv x295001_2 1 x10_1 t298) 1 x10_1 t299), (updv (updv x295002_2 2 x10_1 t298) 2 x10_1 t299), (updv (updv x295003_2 3 x10_1 t298) 3 x10_1 t299)] : List Int) x10_1)) := (sel_at (pre := []) (l := ([(updv (updv x295000_2 0 x10_1 t298) 0 x10_1 t299), (updv (updv x295001_2 1 x10_1 t298) 1 x10_1 t299), (updv (updv x295002_2 2 x10_1 t298) 2 x10_1 t299), (updv (updv x295003_2 3 x10_1 t298) 3 x10_1 t299)] : List Int)) (post := []) BK294.out rfl (by simp) (of_decide_eq_true (by first | (with_reducible assumption) | assumption)) (of_decide_eq_true (by first | (with_reducible assumption) | assumption)))
                      have hfv73 := blk_frozen BK294.out ((x10_1).toNat)
                      have hns76_0 := NB288_294.out
                      have hns76_1 := NB289_294.out
                      have hns76_2 := NB292_294.out
                      have hns76_3 := NB293_294.out
                      have hms76_0 := NB294_288.out
                      have hms76_1 := NB294_289.out
                      have hms76_2 := NB294_292.out
                      have hms76_3 := NB294_293.out
                      refine skip_ (w1 := ?_) (by rfl) rfl ?_ ?_
                      rotate_left
                      · go_simp
                        rfl
                      refine hK.out _ _ ?_
                      clear hK K
                      refine done_ (done_of HT_.out (by kernel_rfl)) ?_
                      try go_wp2
                      go_roundg k2
                      case measure => have := HK1.out; have := HK2.out; omega
                      case rel => exact ⟨(wrap64 (x10_1 + 1)), ((updv (updv (updv x295000_2 0 x10_1 t298) 0 x10_1 t299) 0 x10_1 t301)), ((updv (updv (updv x295001_2 1 x10_1 t298) 1 x10_1 t299) 1 x10_1 t301)), ((updv (updv (updv x295002_2 2 x10_1 t298) 2 x10_1 t299) 2 x10_1 t301)), ((updv (updv (updv x295003_2 3 x10_1 t298) 3 x10_1 t299) 3 x10_1 t301)), (by first | rfl | (simp; done) | (simp [*]; done) | (simp; rfl) | (simp; decide +kernel)), H', ⟨by have := HK1.out; have := HK2.out; omega⟩, ⟨by (with_reducible repeat (first | refine blk_drewN ?_ _ | refine blk_drew ?_ | refine blk_alloc ?_ _)); refine blk_far ?_ NB288_294.out _; (with_reducible repeat (first | refine blk_drewN ?_ _ | refine blk_drew ?_ | refine blk_alloc ?_ _)); exact BK288.out⟩, ⟨by (with_reducible repeat (first | refine blk_drewN ?_ _ | refine blk_drew ?_ | refine blk_alloc ?_ _)); refine blk_far ?_ NB289_294.out _; (with_reducible repeat (first | refine blk_drewN ?_ _ | refine blk_drew ?_ | refine blk_alloc ?_ _)); exact BK289.out⟩, ⟨by (with_reducible repeat (first | refine blk_drewN ?_ _ | refine blk_drew ?_ | refine blk_alloc ?_ _)); refine blk_far ?_ NB292_294.out _; (with_reducible repeat (first | refine blk_drewN ?_ _ | refine blk_drew ?_ | refine blk_alloc ?_ _)); exact BK292.out⟩, ⟨by (with_reducible repeat (first | refine blk_drewN ?_ _ | refine blk_drew ?_ | refine blk_alloc ?_ _)); refine blk_far ?_ NB293_294.out _; (with_reducible repeat (first | refine blk_drewN ?_ _ | refine blk_drew ?_ | refine blk_alloc ?_ _)); exact BK293.out⟩, ⟨by (with_reducible repeat (first | refine blk_drewN ?_ _ | refine blk_drew ?_ | refine blk_alloc ?_ _)); refine sel_put (pre := []) (l := ([(updv (updv x295000_2 0 x10_1 t298) 0 x10_1 t299), (updv (updv x295001_2 1 x10_1 t298) 1 x10_1 t299), (updv (updv x295002_2 2 x10_1 t298) 2 x10_1 t299), (updv (updv x295003_2 3 x10_1 t298) 3 x10_1 t299)] : List Int)) (post := []) ?_ rfl rfl (by simp) (of_decide_eq_true (by first | (with_reducible assumption) | assumption)) (of_decide_eq_true (by first | (with_reducible assumption) | assumption)); (with_reducible repeat (first | refine blk_drewN ?_ _ | refine blk_drew ?_ | refine blk_alloc ?_ _)); exact BK294.out⟩, ⟨by repeat (first | (with_reducible first | exact HB.out | apply below_alloc | apply pw_below_drewN | apply below_drew1 | refine below_set ?_ GE288.out | refine below_set ?_ GE289.out | refine below_set ?_ GE292.out | refine below_set ?_ GE293.out | refine below_set ?_ GE294.out) | exact HB.out)⟩⟩
                    · rw [if_neg c45] at H
                      exact absurd H (by simp)
                  · rw [if_neg c44] at H
                    exact absurd H (by simp)
                · rw [if_neg c41] at H
                  exact absurd H (by simp)
              · rw [if_neg c40] at H
                exact absurd H (by simp)
      · rw [if_neg c18] at H
        have c18b0 : decide (x10_1 < 4) = false := decide_eq_false c18
        clear c18
        simp only [Option.some.injEq, Prod.mk.injEq] at H
        obtain ⟨rfl, rfl, rfl, rfl⟩ := H
        have hnb77 := NB294_288.out
        have hnc77 := NB288_294.out
        have hnb78 := NB294_289.out
        have hnc78 := NB289_294.out
        have hnb79 := NB294_292.out
        have hnc79 := NB292_294.out
        have hnb80 := NB294_293.out
        have hnc80 := NB293_294.out
        have hcz81_0 : wr.cell? ⟨gb294, 0, none⟩ = some (.int .u64 x295000_1) := (blk_cell BK294.out 0).trans rfl
        have hcz81_1 : wr.cell? ⟨gb294, 1, none⟩ = some (.int .u64 x295001_1) := (blk_cell BK294.out 1).trans rfl
        have hcz81_2 : wr.cell? ⟨gb294, 2, none⟩ = some (.int .u64 x295002_1) := (blk_cell BK294.out 2).trans rfl
        have hcz81_3 : wr.cell? ⟨gb294, 3, none⟩ = some (.int .u64 x295003_1) := (blk_cell BK294.out 3).trans rfl
        have hfz81_0 := blk_frozen BK294.out 0
        have hfz81_1 := blk_frozen BK294.out 1
        have hfz81_2 := blk_frozen BK294.out 2
        have hfz81_3 := blk_frozen BK294.out 3
        have hnb82 := NB289_288.out
        have hnc82 := NB288_289.out
        have hnb83 := NB289_292.out
        have hnc83 := NB292_289.out
        have hnb84 := NB289_293.out
        have hnc84 := NB293_289.out
        have hcz85_0 : wr.cell? ⟨gb289, 0, none⟩ = some (.int .u64 0) := (blk_cell BK289.out 0).trans rfl
        have hcz85_1 : wr.cell? ⟨gb289, 1, none⟩ = some (.int .u64 0) := (blk_cell BK289.out 1).trans rfl
        have hcz85_2 : wr.cell? ⟨gb289, 2, none⟩ = some (.int .u64 0) := (blk_cell BK289.out 2).trans rfl
        have hcz85_3 : wr.cell? ⟨gb289, 3, none⟩ = some (.int .u64 0) := (blk_cell BK289.out 3).trans rfl
        have hfz85_0 := blk_frozen BK289.out 0
        have hfz85_1 := blk_frozen BK289.out 1
        have hfz85_2 := blk_frozen BK289.out 2
        have hfz85_3 := blk_frozen BK289.out 3
        go_wp2
        refine bodyPost_ret (results_cell_row rfl _ _ gb289 23 #[.int .u64 x295000_1, .int .u64 x295001_1, .int .u64 x295002_1, .int .u64 x295003_1] (0, 0) _ rfl (by (with_reducible repeat (first | refine blk_drewN ?_ _ | refine blk_drew ?_ | refine blk_alloc ?_ _)); refine blk_put (cs := #[.int .u64 x295000_1, .int .u64 x295001_1, .int .u64 x295002_1, .int .u64 0]) ?_ 3 _ rfl; (with_reducible repeat (first | refine blk_drewN ?_ _ | refine blk_drew ?_ | refine blk_alloc ?_ _)); refine blk_put (cs := #[.int .u64 x295000_1, .int .u64 x295001_1, .int .u64 0, .int .u64 0]) ?_ 2 _ rfl; (with_reducible repeat (first | refine blk_drewN ?_ _ | refine blk_drew ?_ | refine blk_alloc ?_ _)); refine blk_put (cs := #[.int .u64 x295000_1, .int .u64 0, .int .u64 0, .int .u64 0]) ?_ 1 _ rfl; (with_reducible repeat (first | refine blk_drewN ?_ _ | refine blk_drew ?_ | refine blk_alloc ?_ _)); refine blk_put (cs := #[.int .u64 0, .int .u64 0, .int .u64 0, .int .u64 0]) ?_ 0 _ rfl; (with_reducible repeat (first | refine blk_drewN ?_ _ | refine blk_drew ?_ | refine blk_alloc ?_ _)); exact BK289.out) Tryd.underlying23 rfl (by kernel_rfl)) rfl ?_
        exact ⟨by first | rfl | (simp [errW_none, errW_some] <;> rfl) | (simp [*, errW_none, errW_some] <;> rfl), by repeat (first | (with_reducible first | exact HB.out | apply below_alloc | apply pw_below_drewN | apply below_drew1 | refine below_set ?_ GE288.out | refine below_set ?_ GE289.out | refine below_set ?_ GE292.out | refine below_set ?_ GE293.out | refine below_set ?_ GE294.out) | exact HB.out)⟩

end Go.Proofs.YtjfekjblnoagkaaDoor.Q
end
section
namespace Go.Proofs.YtjfekjblnoagkaaDoor.Q
open Go.RowKit Go.Proofs.YtjfekjblnoagkaaDoorW.PrintWords Go.Proofs.YtjfekjblnoagkaaDoorW.PrintLast Go.Proofs.YtjfekjblnoagkaaDoorW.PrintMore
attribute [local go_sem] max2_int min2_int max_two min_two max_three min_three max_four min_four   -- for this text's walks alone
set_option linter.unusedVariables false
set_option linter.unusedSimpArgs false

/-! ### attestorref06_Inverse: function 26 -/
def attestorref06_Inverse.l0 : Nat → Int → Int → Int → Int → Int → Int → Option (Int × Int × Int × Int)
  | 0, _, _, _, _, _, _ => none
  | k + 1, x0, x5, x303000, x303001, x303002, x303003 => if x5 ≥ 0 then ((attestorref06_back.f k x0 x5 x303000 x303001 x303002 x303003).bind fun bt305 => (attestorref06_Inverse.l0 k x0 (wrap64 (x5 - 1)) bt305.1 bt305.2.1 bt305.2.2.1 bt305.2.2.2)) else (some (x303000, x303001, x303002, x303003))
def attestorref06_Inverse.f (k : Nat) (a0 : Int) (a1_0 : Int) (a1_1 : Int) (a1_2 : Int) (a1_3 : Int) : Option (Int × Int × Int × Int) := (attestorref01_Valid.f a0).bind fun t304 => (if t304 = true then (attestorref06_Inverse.l0 k a0 7 a1_0 a1_1 a1_2 a1_3) else (some (0, 0, 0, 0)))
theorem attestorref06_Inverse.mono_l : ∀ k, (∀ y0 y1 y2 y3 y4 y5, LeO (attestorref06_Inverse.l0 k y0 y1 y2 y3 y4 y5) (attestorref06_Inverse.l0 (k + 1) y0 y1 y2 y3 y4 y5))
  | 0 => fun _ _ _ _ _ _ r h => by simp [attestorref06_Inverse.l0] at h
  | k + 1 => by
    have ih0 := attestorref06_Inverse.mono_l k
    · intro y0 y1 y2 y3 y4 y5
      unfold attestorref06_Inverse.l0
      repeat' first
      | (with_reducible exact ih0 _ _ _ _ _ _)
      | (with_reducible exact attestorref06_back.mono _ _ _ _ _ _ _)
      | (with_reducible exact LeO.refl _)
      | (with_reducible exact LeO.none _)
      | (with_reducible refine LeO.ite ?_ ?_)
      | (with_reducible refine LeO.bind ?_ (fun _ => ?_))
      | exact ih0 _ _ _ _ _ _
      | exact attestorref06_back.mono _ _ _ _ _ _ _
      | exact LeO.none _
      | refine LeO.ite ?_ ?_
      | refine LeO.bind ?_ (fun _ => ?_)
theorem attestorref06_Inverse.mono : ∀ a0 a1 a2 a3 a4 k, LeO (attestorref06_Inverse.f k a0 a1 a2 a3 a4) (attestorref06_Inverse.f (k + 1) a0 a1 a2 a3 a4) := by
  intro a0 a1 a2 a3 a4 k
  have ih0 := attestorref06_Inverse.mono_l k
  unfold attestorref06_Inverse.f
  repeat' first
      | (with_reducible exact ih0 _ _ _ _ _ _)
      | (with_reducible exact attestorref06_back.mono _ _ _ _ _ _ _)
      | (with_reducible exact LeO.refl _)
      | (with_reducible exact LeO.none _)
      | (with_reducible refine LeO.ite ?_ ?_)
      | (with_reducible refine LeO.bind ?_ (fun _ => ?_))
      | exact ih0 _ _ _ _ _ _
      | exact attestorref06_back.mono _ _ _ _ _ _ _
      | exact LeO.none _
      | refine LeO.ite ?_ ?_
      | refine LeO.bind ?_ (fun _ => ?_)
set_option maxHeartbeats 8000000 in
set_option maxRecDepth 100000 in
theorem attestorref06_Inverse.calls (k : Nat) (a0 : Int) (a1_0 : Int) (a1_1 : Int) (a1_2 : Int) (a1_3 : Int) (r1 : Int) (r2 : Int) (r3 : Int) (r4 : Int) (w : World) (h : attestorref06_Inverse.f k a0 a1_0 a1_1 a1_2 a1_3 = some (r1, r2, r3, r4)) :
    Calls Tryd.prog 26 #[.int .i64 a0, .agg #[.int .u64 a1_0, .int .u64 a1_1, .int .u64 a1_2, .int .u64 a1_3]] w fun e w' => e = .returned (.agg #[.int .u64 r1, .int .u64 r2, .int .u64 r3, .int .u64 r4]) ∧ Below w.heap.size w w' := by
  have hu23 := Tryd.underlying23
  have HB := Aside0.mk (Below.refl w.heap.size w)
  have H : ((attestorref01_Valid.f a0).bind fun t304 => (if t304 = true then (attestorref06_Inverse.l0 k a0 7 a1_0 a1_1 a1_2 a1_3) else (some (0, 0, 0, 0)))) = some (r1, r2, r3, r4) := h
  clear h
  replace H := Option.bind_eq_some_iff.mp H
  obtain ⟨t304, A30, H⟩ := H
  replace H : (if t304 = true then (attestorref06_Inverse.l0 k a0 7 a1_0 a1_1 a1_2 a1_3) else (some (0, 0, 0, 0))) = some (r1, r2, r3, r4) := H
  have A3 := Aside0.mk A30
  clear A30
  by_cases c4 : t304 = true
  · subst c4
    have H1 : (attestorref06_Inverse.l0 k a0 7 a1_0 a1_1 a1_2 a1_3) = some (r1, r2, r3, r4) := by rw [if_pos rfl] at H; exact H
    clear H
    have H := H1
    clear H1
    have H' := Aside0.mk H
    clear H
    go_enter Tryd.func26, Tryd.ntmps26
    go_wp2_with (first | ((with_reducible refine gate_dst (N := 3) rfl ?_); refine box_event ?hg (N := 3) ?hd (cs := #[.int .u64 a1_0, .int .u64 a1_1, .int .u64 a1_2, .int .u64 a1_3]) (t := 23) ?hr ?_; (case hd => rfl); (case hg => rfl); (case hr => first | (go_simp; done) | (go_simp; rfl)); intro gb302 hg w5 hbox hb; have n0_ := Aside0.mk (below_step (by repeat (first | (with_reducible first | exact HB.out | apply below_alloc | apply pw_below_drewN | apply below_drew1) | exact HB.out)) hb); have n1_ := Aside0.mk (hbox); have n2_ := Aside0.mk ((by rw [hg]; exact (below_size (by repeat (first | (with_reducible first | exact HB.out | apply below_alloc | apply pw_below_drewN | apply below_drew1) | exact HB.out))) : w.heap.size ≤ gb302)); have n3_ := Aside0.mk ((by rw [hg]; exact (below_size (by repeat (first | (with_reducible first | exact HB.out | apply below_alloc | apply pw_below_drewN | apply below_drew1) | exact HB.out))) : w.heap.size ≤ gb302)); clear HB; have HB := n0_; have BK302 := n1_; have GW302 := n2_; have GE302 := n3_; clear n0_ n1_ n2_ n3_; clear hb hbox hg) | ((with_reducible refine gate_dst (N := 4) rfl ?_); refine box_event ?hg (N := 4) ?hd (cs := #[.int .u64 0, .int .u64 0, .int .u64 0, .int .u64 0]) (t := 23) ?hr ?_; (case hd => rfl); (case hg => rfl); (case hr => first | (go_simp; done) | (go_simp; rfl)); intro gb303 hg w6 hbox hb; have n0_ := Aside0.mk (blk_below (g := gb302) (o := .cells #[.int .u64 a1_0, .int .u64 a1_1, .int .u64 a1_2, .int .u64 a1_3] 23 (0, 0)) (by (with_reducible repeat (first | refine blk_drewN ?_ _ | refine blk_drew ?_ | refine blk_alloc ?_ _)); exact BK302.out) hb); have n1_ := Aside0.mk (below_step (by repeat (first | (with_reducible first | exact HB.out | apply below_alloc | apply pw_below_drewN | apply below_drew1 | refine below_set ?_ GE302.out) | exact HB.out)) hb); have n2_ := Aside0.mk (hbox); have n3_ := Aside0.mk ((by rw [hg]; exact (below_size (by repeat (first | (with_reducible first | exact HB.out | apply below_alloc | apply pw_below_drewN | apply below_drew1 | refine below_set ?_ GE302.out) | exact HB.out))) : w.heap.size ≤ gb303)); have n4_ := Aside0.mk ((by rw [hg]; exact (below_size (by repeat (first | (with_reducible first | exact HB.out | apply below_alloc | apply pw_below_drewN | apply below_drew1 | refine below_set ?_ GE302.out) | exact HB.out))) : w.heap.size ≤ gb303)); have n5_ := Aside0.mk ((by rw [hg]; exact Nat.ne_of_lt (blk_lt (g := gb302) (o := .cells #[.int .u64 a1_0, .int .u64 a1_1, .int .u64 a1_2, .int .u64 a1_3] 23 (0, 0)) (by (with_reducible repeat (first | refine blk_drewN ?_ _ | refine blk_drew ?_ | refine blk_alloc ?_ _)); exact BK302.out)) : gb302 ≠ gb303)); have n6_ := Aside0.mk ((by rw [hg]; exact Nat.ne_of_gt (blk_lt (g := gb302) (o := .cells #[.int .u64 a1_0, .int .u64 a1_1, .int .u64 a1_2, .int .u64 a1_3] 23 (0, 0)) (by (with_reducible repeat (first | refine blk_drewN ?_ _ | refine blk_drew ?_ | refine blk_alloc ?_ _)); exact BK302.out)) : gb303 ≠ gb302)); clear BK302; clear HB; have BK302 := n0_; have HB := n1_; have BK303 := n2_; have GW303 := n3_; have GE303 := n4_; have NB302_303 := n5_; have NB303_302 := n6_; clear n0_ n1_ n2_ n3_ n4_ n5_ n6_; clear hb hbox hg) | ((with_reducible refine gate_callee (f := 31) rfl ?_); refine goesL_ (some 7) rfl rfl Tryd.func31 (by kernel_rfl) rfl #[.int .i64 a0] rfl (by (try simp only [List.map_toArray, List.map_cons, List.map_nil]); first | done | rfl | (simp only [List.length_drop, List.length_take]; rfl) | (go_simp; done) | (go_simp; rw [Int.tmod_eq_emod_of_nonneg (by omega)]; omega)) ?_; (with_reducible refine (attestorref01_Valid.calls a0 true _ A3.out).mono ?_); rintro e w' ⟨rfl, ⟨nd, rfl⟩⟩; refine ⟨_, rfl, ?_⟩))
    go_loopg [5] k (fun kq v5 w' => ∃ (x5_1 : Int) (x303000_1 : Int) (x303001_1 : Int) (x303002_1 : Int) (x303003_1 : Int), v5 = .int .i64 x5_1 ∧ Aside0 (attestorref06_Inverse.l0 kq a0 x5_1 x303000_1 x303001_1 x303002_1 x303003_1 = some (r1, r2, r3, r4)) ∧ Aside0 (kq ≤ k) ∧ Aside0 (w'.heap[gb302]? = some (.cells #[.int .u64 x303000_1, .int .u64 x303001_1, .int .u64 x303002_1, .int .u64 x303003_1] 23 (0, 0))) ∧ Aside0 (w'.heap[gb303]? = some (.cells #[.int .u64 0, .int .u64 0, .int .u64 0, .int .u64 0] 23 (0, 0))) ∧ Aside0 (Below w.heap.size w w'))
    case atStart => exact ⟨(7), (a1_0), (a1_1), (a1_2), (a1_3), (by first | rfl | (simp; done) | (simp [*]; done) | (simp; rfl) | (simp; decide +kernel)), H', ⟨Nat.le_refl _⟩, ⟨by (with_reducible repeat (first | refine blk_drewN ?_ _ | refine blk_drew ?_ | refine blk_alloc ?_ _)); exact BK302.out⟩, ⟨by (with_reducible repeat (first | refine blk_drewN ?_ _ | refine blk_drew ?_ | refine blk_alloc ?_ _)); exact BK303.out⟩, ⟨by repeat (first | (with_reducible first | exact HB.out | apply below_alloc | apply pw_below_drewN | apply below_drew1 | refine below_set ?_ GE302.out | refine below_set ?_ GE303.out) | exact HB.out)⟩⟩
    case round =>
      clear H'
      try clear c2
      try clear p2
      try clear c3
      try clear c4
      obtain ⟨x5_1, x303000_1, x303001_1, x303002_1, x303003_1, rfl, HA, HK1, BK302, BK303, HB⟩ := hrel
      cases gk with
      | zero => exact absurd HA.out (by simp [attestorref06_Inverse.l0])
      | succ k1 =>
        have H := HA.out
        clear HA
        simp only [attestorref06_Inverse.l0] at H
        by_cases c7 : x5_1 ≥ 0
        · rw [if_pos c7] at H
          have c7b0 : decide (0 ≤ x5_1) = true := decide_eq_true c7
          clear c7
          replace H := Option.bind_eq_some_iff.mp H
          obtain ⟨⟨t305, t306, t307, t308⟩, A80, H⟩ := H
          replace H : (attestorref06_Inverse.l0 k1 a0 (wrap64 (x5_1 - 1)) t305 t306 t307 t308) = some (r1, r2, r3, r4) := H
          have A8 := Aside0.mk A80
          clear A80
          have H' := Aside0.mk H
          clear H
          have hnb9 := NB302_303.out
          have hnc9 := NB303_302.out
          have hcz10_0 : wr.cell? ⟨gb302, 0, none⟩ = some (.int .u64 x303000_1) := (blk_cell BK302.out 0).trans rfl
          have hcz10_1 : wr.cell? ⟨gb302, 1, none⟩ = some (.int .u64 x303001_1) := (blk_cell BK302.out 1).trans rfl
          have hcz10_2 : wr.cell? ⟨gb302, 2, none⟩ = some (.int .u64 x303002_1) := (blk_cell BK302.out 2).trans rfl
          have hcz10_3 : wr.cell? ⟨gb302, 3, none⟩ = some (.int .u64 x303003_1) := (blk_cell BK302.out 3).trans rfl
          have hfz10_0 := blk_frozen BK302.out 0
          have hfz10_1 := blk_frozen BK302.out 1
          have hfz10_2 := blk_frozen BK302.out 2
          have hfz10_3 := blk_frozen BK302.out 3
          go_wp2_with (first | ((with_reducible refine gate_callee (f := 46) rfl ?_); refine goesL_ (some 17) rfl rfl Tryd.func46 (by kernel_rfl) rfl #[.int .i64 a0, .int .i64 x5_1, .agg #[.int .u64 x303000_1, .int .u64 x303001_1, .int .u64 x303002_1, .int .u64 x303003_1]] rfl (by (try simp only [List.map_toArray, List.map_cons, List.map_nil]); first | done | rfl | (simp only [List.length_drop, List.length_take]; rfl) | (go_simp; done) | (go_simp; rw [Int.tmod_eq_emod_of_nonneg (by omega)]; omega)) ?_; (with_reducible refine (attestorref06_back.calls k1 a0 x5_1 x303000_1 x303001_1 x303002_1 x303003_1 t305 t306 t307 t308 _ A8.out).mono ?_); rintro e w11 ⟨rfl, hb⟩; refine ⟨_, rfl, ?_⟩; have n0_ := Aside0.mk (blk_below (g := gb302) (o := .cells #[.int .u64 x303000_1, .int .u64 x303001_1, .int .u64 x303002_1, .int .u64 x303003_1] 23 (0, 0)) (by (with_reducible repeat (first | refine blk_drewN ?_ _ | refine blk_drew ?_ | refine blk_alloc ?_ _)); exact BK302.out) hb); have n1_ := Aside0.mk (blk_below (g := gb303) (o := .cells #[.int .u64 0, .int .u64 0, .int .u64 0, .int .u64 0] 23 (0, 0)) (by (with_reducible repeat (first | refine blk_drewN ?_ _ | refine blk_drew ?_ | refine blk_alloc ?_ _)); exact BK303.out) hb); have n2_ := Aside0.mk (below_step (by repeat (first | (with_reducible first | exact HB.out | apply below_alloc | apply pw_below_drewN | apply below_drew1 | refine below_set ?_ GE302.out | refine below_set ?_ GE303.out) | exact HB.out)) hb); clear BK302; clear BK303; clear HB; have BK302 := n0_; have BK303 := n1_; have HB := n2_; clear n0_ n1_ n2_; (try clear hb); (try clear hb2); (try clear hk); (try clear hi); have hcz12_0 : w11.cell? ⟨gb302, 0, none⟩ = some (.int .u64 x303000_1) := (blk_cell BK302.out 0).trans rfl; have hcz12_1 : w11.cell? ⟨gb302, 1, none⟩ = some (.int .u64 x303001_1) := (blk_cell BK302.out 1).trans rfl; have hcz12_2 : w11.cell? ⟨gb302, 2, none⟩ = some (.int .u64 x303002_1) := (blk_cell BK302.out 2).trans rfl; have hcz12_3 : w11.cell? ⟨gb302, 3, none⟩ = some (.int .u64 x303003_1) := (blk_cell BK302.out 3).trans rfl; have hfz12_0 := blk_frozen BK302.out 0; have hfz12_1 := blk_frozen BK302.out 1; have hfz12_2 := blk_frozen BK302.out 2; have hfz12_3 := blk_frozen BK302.out 3))
          go_roundg k1
          case measure => have := HK1.out; omega
          case rel => exact ⟨(wrap64 (x5_1 - 1)), (t305), (t306), (t307), (t308), (by first | rfl | (simp; done) | (simp [*]; done) | (simp; rfl) | (simp; decide +kernel)), H', ⟨by have := HK1.out; omega⟩, ⟨by (with_reducible repeat (first | refine blk_drewN ?_ _ | refine blk_drew ?_ | refine blk_alloc ?_ _)); refine blk_put (cs := #[.int .u64 t305, .int .u64 t306, .int .u64 t307, .int .u64 x303003_1]) ?_ 3 _ rfl; (with_reducible repeat (first | refine blk_drewN ?_ _ | refine blk_drew ?_ | refine blk_alloc ?_ _)); refine blk_put (cs := #[.int .u64 t305, .int .u64 t306, .int .u64 x303002_1, .int .u64 x303003_1]) ?_ 2 _ rfl; (with_reducible repeat (first | refine blk_drewN ?_ _ | refine blk_drew ?_ | refine blk_alloc ?_ _)); refine blk_put (cs := #[.int .u64 t305, .int .u64 x303001_1, .int .u64 x303002_1, .int .u64 x303003_1]) ?_ 1 _ rfl; (with_reducible repeat (first | refine blk_drewN ?_ _ | refine blk_drew ?_ | refine blk_alloc ?_ _)); refine blk_put (cs := #[.int .u64 x303000_1, .int .u64 x303001_1, .int .u64 x303002_1, .int .u64 x303003_1]) ?_ 0 _ rfl; (with_reducible repeat (first | refine blk_drewN ?_ _ | refine blk_drew ?_ | refine blk_alloc ?_ _)); exact BK302.out⟩, ⟨by (with_reducible repeat (first | refine blk_drewN ?_ _ | refine blk_drew ?_ | refine blk_alloc ?_ _)); refine blk_far ?_ NB303_302.out _; (with_reducible repeat (first | refine blk_drewN ?_ _ | refine blk_drew ?_ | refine blk_alloc ?_ _)); refine blk_far ?_ NB303_302.out _; (with_reducible repeat (first | refine blk_drewN ?_ _ | refine blk_drew ?_ | refine blk_alloc ?_ _)); refine blk_far ?_ NB303_302.out _; (with_reducible repeat (first | refine blk_drewN ?_ _ | refine blk_drew ?_ | refine blk_alloc ?_ _)); refine blk_far ?_ NB303_302.out _; (with_reducible repeat (first | refine blk_drewN ?_ _ | refine blk_drew ?_ | refine blk_alloc ?_ _)); exact BK303.out⟩, ⟨by repeat (first | (with_reducible first | exact HB.out | apply below_alloc | apply pw_below_drewN | apply below_drew1 | refine below_set ?_ GE302.out | refine below_set ?_ GE303.out) | exact HB.out)⟩⟩
        · rw [if_neg c7] at H
          have c7b0 : decide (0 ≤ x5_1) = false := decide_eq_false c7
          clear c7
          simp only [Option.some.injEq, Prod.mk.injEq] at H
          obtain ⟨rfl, rfl, rfl, rfl⟩ := H
          have hnb13 := NB302_303.out
          have hnc13 := NB303_302.out
          have hcz14_0 : wr.cell? ⟨gb302, 0, none⟩ = some (.int .u64 x303000_1) := (blk_cell BK302.out 0).trans rfl
          have hcz14_1 : wr.cell? ⟨gb302, 1, none⟩ = some (.int .u64 x303001_1) := (blk_cell BK302.out 1).trans rfl
          have hcz14_2 : wr.cell? ⟨gb302, 2, none⟩ = some (.int .u64 x303002_1) := (blk_cell BK302.out 2).trans rfl
          have hcz14_3 : wr.cell? ⟨gb302, 3, none⟩ = some (.int .u64 x303003_1) := (blk_cell BK302.out 3).trans rfl
          have hfz14_0 := blk_frozen BK302.out 0
          have hfz14_1 := blk_frozen BK302.out 1
          have hfz14_2 := blk_frozen BK302.out 2
          have hfz14_3 := blk_frozen BK302.out 3
          have hcz15_0 : wr.cell? ⟨gb303, 0, none⟩ = some (.int .u64 0) := (blk_cell BK303.out 0).trans rfl
          have hcz15_1 : wr.cell? ⟨gb303, 1, none⟩ = some (.int .u64 0) := (blk_cell BK303.out 1).trans rfl
          have hcz15_2 : wr.cell? ⟨gb303, 2, none⟩ = some (.int .u64 0) := (blk_cell BK303.out 2).trans rfl
          have hcz15_3 : wr.cell? ⟨gb303, 3, none⟩ = some (.int .u64 0) := (blk_cell BK303.out 3).trans rfl
          have hfz15_0 := blk_frozen BK303.out 0
          have hfz15_1 := blk_frozen BK303.out 1
          have hfz15_2 := blk_frozen BK303.out 2
          have hfz15_3 := blk_frozen BK303.out 3
          go_wp2
          refine bodyPost_ret (results_cell_row rfl _ _ gb303 23 #[.int .u64 x303000_1, .int .u64 x303001_1, .int .u64 x303002_1, .int .u64 x303003_1] (0, 0) _ rfl (by (with_reducible repeat (first | refine blk_drewN ?_ _ | refine blk_drew ?_ | refine blk_alloc ?_ _)); refine blk_put (cs := #[.int .u64 x303000_1, .int .u64 x303001_1, .int .u64 x303002_1, .int .u64 0]) ?_ 3 _ rfl; (with_reducible repeat (first | refine blk_drewN ?_ _ | refine blk_drew ?_ | refine blk_alloc ?_ _)); refine blk_put (cs := #[.int .u64 x303000_1, .int .u64 x303001_1, .int .u64 0, .int .u64 0]) ?_ 2 _ rfl; (with_reducible repeat (first | refine blk_drewN ?_ _ | refine blk_drew ?_ | refine blk_alloc ?_ _)); refine blk_put (cs := #[.int .u64 x303000_1, .int .u64 0, .int .u64 0, .int .u64 0]) ?_ 1 _ rfl; (with_reducible repeat (first | refine blk_drewN ?_ _ | refine blk_drew ?_ | refine blk_alloc ?_ _)); refine blk_put (cs := #[.int .u64 0, .int .u64 0, .int .u64 0, .int .u64 0]) ?_ 0 _ rfl; (with_reducible repeat (first | refine blk_drewN ?_ _ | refine blk_drew ?_ | refine blk_alloc ?_ _)); exact BK303.out) Tryd.underlying23 rfl (by kernel_rfl)) rfl ?_
          exact ⟨by first | rfl | (simp [errW_none, errW_some] <;> rfl) | (simp [*, errW_none, errW_some] <;> rfl), by repeat (first | (with_reducible first | exact HB.out | apply below_alloc | apply pw_below_drewN | apply below_drew1 | refine below_set ?_ GE302.out | refine below_set ?_ GE303.out) | exact HB.out)⟩
  · replace c4 := Bool.eq_false_iff.mpr c4
    subst c4
    have H1 : (some (0, 0, 0, 0)) = some (r1, r2, r3, r4) := by rw [if_neg (show ¬ (false = true) by decide)] at H; exact H
    clear H
    have H := H1
    clear H1
    simp only [Option.some.injEq, Prod.mk.injEq] at H
    obtain ⟨rfl, rfl, rfl, rfl⟩ := H
    go_enter Tryd.func26, Tryd.ntmps26
    go_wp2_with (first | ((with_reducible refine gate_dst (N := 3) rfl ?_); refine box_event ?hg (N := 3) ?hd (cs := #[.int .u64 a1_0, .int .u64 a1_1, .int .u64 a1_2, .int .u64 a1_3]) (t := 23) ?hr ?_; (case hd => rfl); (case hg => rfl); (case hr => first | (go_simp; done) | (go_simp; rfl)); intro gb302 hg w16 hbox hb; have n0_ := Aside0.mk (below_step (by repeat (first | (with_reducible first | exact HB.out | apply below_alloc | apply pw_below_drewN | apply below_drew1) | exact HB.out)) hb); have n1_ := Aside0.mk (hbox); have n2_ := Aside0.mk ((by rw [hg]; exact (below_size (by repeat (first | (with_reducible first | exact HB.out | apply below_alloc | apply pw_below_drewN | apply below_drew1) | exact HB.out))) : w.heap.size ≤ gb302)); have n3_ := Aside0.mk ((by rw [hg]; exact (below_size (by repeat (first | (with_reducible first | exact HB.out | apply below_alloc | apply pw_below_drewN | apply below_drew1) | exact HB.out))) : w.heap.size ≤ gb302)); clear HB; have HB := n0_; have BK302 := n1_; have GW302 := n2_; have GE302 := n3_; clear n0_ n1_ n2_ n3_; clear hb hbox hg) | ((with_reducible refine gate_dst (N := 4) rfl ?_); refine box_event ?hg (N := 4) ?hd (cs := #[.int .u64 0, .int .u64 0, .int .u64 0, .int .u64 0]) (t := 23) ?hr ?_; (case hd => rfl); (case hg => rfl); (case hr => first | (go_simp; done) | (go_simp; rfl)); intro gb303 hg w17 hbox hb; have n0_ := Aside0.mk (blk_below (g := gb302) (o := .cells #[.int .u64 a1_0, .int .u64 a1_1, .int .u64 a1_2, .int .u64 a1_3] 23 (0, 0)) (by (with_reducible repeat (first | refine blk_drewN ?_ _ | refine blk_drew ?_ | refine blk_alloc ?_ _)); exact BK302.out) hb); have n1_ := Aside0.mk (below_step (by repeat (first | (with_reducible first | exact HB.out | apply below_alloc | apply pw_below_drewN | apply below_drew1 | refine below_set ?_ GE302.out) | exact HB.out)) hb); have n2_ := Aside0.mk (hbox); have n3_ := Aside0.mk ((by rw [hg]; exact (below_size (by repeat (first | (with_reducible first | exact HB.out | apply below_alloc | apply pw_below_drewN | apply below_drew1 | refine below_set ?_ GE302.out) | exact HB.out))) : w.heap.size ≤ gb303)); have n4_ := Aside0.mk ((by rw [hg]; exact (below_size (by repeat (first | (with_reducible first | exact HB.out | apply below_alloc | apply pw_below_drewN | apply below_drew1 | refine below_set ?_ GE302.out) | exact HB.out))) : w.heap.size ≤ gb303)); have n5_ := Aside0.mk ((by rw [hg]; exact Nat.ne_of_lt (blk_lt (g := gb302) (o := .cells #[.int .u64 a1_0, .int .u64 a1_1, .int .u64 a1_2, .int .u64 a1_3] 23 (0, 0)) (by (with_reducible repeat (first | refine blk_drewN ?_ _ | refine blk_drew ?_ | refine blk_alloc ?_ _)); exact BK302.out)) : gb302 ≠ gb303)); have n6_ := Aside0.mk ((by rw [hg]; exact Nat.ne_of_gt (blk_lt (g := gb302) (o := .cells #[.int .u64 a1_0, .int .u64 a1_1, .int .u64 a1_2, .int .u64 a1_3] 23 (0, 0)) (by (with_reducible repeat (first | refine blk_drewN ?_ _ | refine blk_drew ?_ | refine blk_alloc ?_ _)); exact BK302.out)) : gb303 ≠ gb302)); clear BK302; clear HB; have BK302 := n0_; have HB := n1_; have BK303 := n2_; have GW303 := n3_; have GE303 := n4_; have NB302_303 := n5_; have NB303_302 := n6_; clear n0_ n1_ n2_ n3_ n4_ n5_ n6_; clear hb hbox hg) | ((with_reducible refine gate_callee (f := 31) rfl ?_); refine goesL_ (some 7) rfl rfl Tryd.func31 (by kernel_rfl) rfl #[.int .i64 a0] rfl (by (try simp only [List.map_toArray, List.map_cons, List.map_nil]); first | done | rfl | (simp only [List.length_drop, List.length_take]; rfl) | (go_simp; done) | (go_simp; rw [Int.tmod_eq_emod_of_nonneg (by omega)]; omega)) ?_; (with_reducible refine (attestorref01_Valid.calls a0 false _ A3.out).mono ?_); rintro e w' ⟨rfl, ⟨nd, rfl⟩⟩; refine ⟨_, rfl, ?_⟩; (try (rw [drewN_self w17]; generalize hq_ : World.drewN w17 _ = w17; have n0_ : Aside0 (w17.heap[gb302]? = some (.cells #[.int .u64 a1_0, .int .u64 a1_1, .int .u64 a1_2, .int .u64 a1_3] 23 (0, 0))) := ⟨by rw [← hq_]; exact (by (with_reducible repeat (first | refine blk_drewN ?_ _ | refine blk_drew ?_ | refine blk_alloc ?_ _)); exact BK302.out)⟩; have n1_ : Aside0 (w17.heap[gb303]? = some (.cells #[.int .u64 0, .int .u64 0, .int .u64 0, .int .u64 0] 23 (0, 0))) := ⟨by rw [← hq_]; exact (by (with_reducible repeat (first | refine blk_drewN ?_ _ | refine blk_drew ?_ | refine blk_alloc ?_ _)); exact BK303.out)⟩; have n2_ : Aside0 (Below w.heap.size w w17) := ⟨by rw [← hq_]; exact (by repeat (first | (with_reducible first | exact HB.out | apply below_alloc | apply pw_below_drewN | apply below_drew1 | refine below_set ?_ GE302.out | refine below_set ?_ GE303.out) | exact HB.out))⟩; clear BK302 BK303 HB hq_; have BK302 := n0_; have BK303 := n1_; have HB := n2_; clear n0_ n1_ n2_)); have hnb18 := NB303_302.out; have hnc18 := NB302_303.out; have hcz19_0 : w17.cell? ⟨gb303, 0, none⟩ = some (.int .u64 0) := (blk_cell BK303.out 0).trans rfl; have hcz19_1 : w17.cell? ⟨gb303, 1, none⟩ = some (.int .u64 0) := (blk_cell BK303.out 1).trans rfl; have hcz19_2 : w17.cell? ⟨gb303, 2, none⟩ = some (.int .u64 0) := (blk_cell BK303.out 2).trans rfl; have hcz19_3 : w17.cell? ⟨gb303, 3, none⟩ = some (.int .u64 0) := (blk_cell BK303.out 3).trans rfl; have hfz19_0 := blk_frozen BK303.out 0; have hfz19_1 := blk_frozen BK303.out 1; have hfz19_2 := blk_frozen BK303.out 2; have hfz19_3 := blk_frozen BK303.out 3))
    refine bodyPost_ret (results_cell_row rfl _ _ gb303 23 #[.int .u64 0, .int .u64 0, .int .u64 0, .int .u64 0] (0, 0) _ rfl (by (with_reducible repeat (first | refine blk_drewN ?_ _ | refine blk_drew ?_ | refine blk_alloc ?_ _)); refine blk_put (cs := #[.int .u64 0, .int .u64 0, .int .u64 0, .int .u64 0]) ?_ 3 _ rfl; (with_reducible repeat (first | refine blk_drewN ?_ _ | refine blk_drew ?_ | refine blk_alloc ?_ _)); refine blk_put (cs := #[.int .u64 0, .int .u64 0, .int .u64 0, .int .u64 0]) ?_ 2 _ rfl; (with_reducible repeat (first | refine blk_drewN ?_ _ | refine blk_drew ?_ | refine blk_alloc ?_ _)); refine blk_put (cs := #[.int .u64 0, .int .u64 0, .int .u64 0, .int .u64 0]) ?_ 1 _ rfl; (with_reducible repeat (first | refine blk_drewN ?_ _ | refine blk_drew ?_ | refine blk_alloc ?_ _)); refine blk_put (cs := #[.int .u64 0, .int .u64 0, .int .u64 0, .int .u64 0]) ?_ 0 _ rfl; (with_reducible repeat (first | refine blk_drewN ?_ _ | refine blk_drew ?_ | refine blk_alloc ?_ _)); exact BK303.out) Tryd.underlying23 rfl (by kernel_rfl)) rfl ?_
    exact ⟨by first | rfl | (simp [errW_none, errW_some] <;> rfl) | (simp [*, errW_none, errW_some] <;> rfl), by repeat (first | (with_reducible first | exact HB.out | apply below_alloc | apply pw_below_drewN | apply below_drew1 | refine below_set ?_ GE302.out | refine below_set ?_ GE303.out) | exact HB.out)⟩

end Go.Proofs.YtjfekjblnoagkaaDoor.Q
end
section
namespace Go.Proofs.YtjfekjblnoagkaaDoor.Q
open Go.RowKit Go.Proofs.YtjfekjblnoagkaaDoorW.PrintWords Go.Proofs.YtjfekjblnoagkaaDoorW.PrintLast Go.Proofs.YtjfekjblnoagkaaDoorW.PrintMore
attribute [local go_sem] max2_int min2_int max_two min_two max_three min_three max_four min_four   -- for this text's walks alone
set_option linter.unusedVariables false
set_option linter.unusedSimpArgs false

attribute [local go_sem high] eqA23
/-! ### attestorlaw06_SpongePerms: function 8 -/
def attestorlaw06_SpongePerms.f (k : Nat) (a0 : Int) (a1_0 : Int) (a1_1 : Int) (a1_2 : Int) (a1_3 : Int) : Option (Bool) := (sponge_Perm.f k a0 a1_0 a1_1 a1_2 a1_3).bind fun bt310 => ((attestorref06_Perm.f k a0 a1_0 a1_1 a1_2 a1_3).bind fun bt314 => (if (bt310.1 == bt314.1 && (bt310.2.1 == bt314.2.1 && (bt310.2.2.1 == bt314.2.2.1 && (bt310.2.2.2 == bt314.2.2.2)))) = true then ((sponge_Inverse.f k a0 a1_0 a1_1 a1_2 a1_3).bind fun bt318 => ((attestorref06_Inverse.f k a0 a1_0 a1_1 a1_2 a1_3).bind fun bt322 => (if (bt318.1 == bt322.1 && (bt318.2.1 == bt322.2.1 && (bt318.2.2.1 == bt322.2.2.1 && (bt318.2.2.2 == bt322.2.2.2)))) = true then ((attestorlaw06_lives.f k).bind fun t326 => (some t326)) else (none)))) else (none)))
theorem attestorlaw06_SpongePerms.mono : ∀ a0 a1 a2 a3 a4 k, LeO (attestorlaw06_SpongePerms.f k a0 a1 a2 a3 a4) (attestorlaw06_SpongePerms.f (k + 1) a0 a1 a2 a3 a4) := by
  intro a0 a1 a2 a3 a4 k
  unfold attestorlaw06_SpongePerms.f
  repeat' first
      | (with_reducible exact attestorlaw06_lives.mono _)
      | (with_reducible exact attestorref06_Inverse.mono _ _ _ _ _ _)
      | (with_reducible exact attestorref06_Perm.mono _ _ _ _ _ _)
      | (with_reducible exact sponge_Inverse.mono _ _ _ _ _ _)
      | (with_reducible exact sponge_Perm.mono _ _ _ _ _ _)
      | (with_reducible exact LeO.refl _)
      | (with_reducible exact LeO.none _)
      | (with_reducible refine LeO.ite ?_ ?_)
      | (with_reducible refine LeO.bind ?_ (fun _ => ?_))
      | exact attestorlaw06_lives.mono _
      | exact attestorref06_Inverse.mono _ _ _ _ _ _
      | exact attestorref06_Perm.mono _ _ _ _ _ _
      | exact sponge_Inverse.mono _ _ _ _ _ _
      | exact sponge_Perm.mono _ _ _ _ _ _
      | exact LeO.none _
      | refine LeO.ite ?_ ?_
      | refine LeO.bind ?_ (fun _ => ?_)
def attestorlaw06_SpongePerms.T1 : Bool × List (List Nat × List Nat) := (true, [([], []), ([], []), ([0, 1], [0, 1]), ([], []), ([], []), ([3, 4, 2], [3, 4]), ([2, 5], [2, 5]), ([6, 5], [6]), ([7], [7]), ([7], [7]), ([8, 9, 7, 7], [7, 8, 9]), ([7], [7]), ([7], [7]), ([11, 12, 10, 7], [7, 11, 12]), ([10, 13, 7], [7, 10, 13]), ([7, 14], [7, 14]), ([15, 13], [15]), ([16, 16], [16]), ([16, 17], [16, 17]), ([18, 17, 0, 1, 2, 3, 4, 5, 6, 7, 8, 9, 10, 11, 12, 13, 14, 15, 16, 17, 18], [18])])
def attestorlaw06_SpongePerms.B1 : List Nat := [0, 0, 3, 0, 0, 31, 63, 127, 255, 255, 1023, 255, 255, 8191, 16383, 32767, 65535, 131071, 262143, 524287]
theorem attestorlaw06_SpongePerms.tab1 : rtab .any (opsOf Tryd.f8 1) = attestorlaw06_SpongePerms.T1 := by kernel_rfl
theorem attestorlaw06_SpongePerms.bits1 : waitsOk attestorlaw06_SpongePerms.T1.2 attestorlaw06_SpongePerms.B1 = true := by kernel_rfl
set_option maxHeartbeats 8000000 in
set_option maxRecDepth 100000 in
theorem attestorlaw06_SpongePerms.calls (k : Nat) (a0 : Int) (a1_0 : Int) (a1_1 : Int) (a1_2 : Int) (a1_3 : Int) (r : Bool) (w : World) (hrG : GL w) (h : attestorlaw06_SpongePerms.f k a0 a1_0 a1_1 a1_2 a1_3 = some r) :
    Calls Tryd.prog 8 #[.int .i64 a0, .agg #[.int .u64 a1_0, .int .u64 a1_1, .int .u64 a1_2, .int .u64 a1_3]] w fun e w' => e = .returned (.bool r) ∧ Below w.heap.size w w' := by
  have hu23 := Tryd.underlying23
  have HRG := Aside0.mk hrG
  clear hrG
  have HB := Aside0.mk (Below.refl w.heap.size w)
  have H : ((sponge_Perm.f k a0 a1_0 a1_1 a1_2 a1_3).bind fun bt310 => ((attestorref06_Perm.f k a0 a1_0 a1_1 a1_2 a1_3).bind fun bt314 => (if (bt310.1 == bt314.1 && (bt310.2.1 == bt314.2.1 && (bt310.2.2.1 == bt314.2.2.1 && (bt310.2.2.2 == bt314.2.2.2)))) = true then ((sponge_Inverse.f k a0 a1_0 a1_1 a1_2 a1_3).bind fun bt318 => ((attestorref06_Inverse.f k a0 a1_0 a1_1 a1_2 a1_3).bind fun bt322 => (if (bt318.1 == bt322.1 && (bt318.2.1 == bt322.2.1 && (bt318.2.2.1 == bt322.2.2.1 && (bt318.2.2.2 == bt322.2.2.2)))) = true then ((attestorlaw06_lives.f k).bind fun t326 => (some t326)) else (none)))) else (none)))) = some r := h
  clear h
  replace H := Option.bind_eq_some_iff.mp H
  obtain ⟨⟨t310, t311, t312, t313⟩, A30, H⟩ := H
  replace H : ((attestorref06_Perm.f k a0 a1_0 a1_1 a1_2 a1_3).bind fun bt314 => (if (t310 == bt314.1 && (t311 == bt314.2.1 && (t312 == bt314.2.2.1 && (t313 == bt314.2.2.2)))) = true then ((sponge_Inverse.f k a0 a1_0 a1_1 a1_2 a1_3).bind fun bt318 => ((attestorref06_Inverse.f k a0 a1_0 a1_1 a1_2 a1_3).bind fun bt322 => (if (bt318.1 == bt322.1 && (bt318.2.1 == bt322.2.1 && (bt318.2.2.1 == bt322.2.2.1 && (bt318.2.2.2 == bt322.2.2.2)))) = true then ((attestorlaw06_lives.f k).bind fun t326 => (some t326)) else (none)))) else (none))) = some r := H
  have A3 := Aside0.mk A30
  clear A30
  replace H := Option.bind_eq_some_iff.mp H
  obtain ⟨⟨t314, t315, t316, t317⟩, A40, H⟩ := H
  replace H : (if (t310 == t314 && (t311 == t315 && (t312 == t316 && (t313 == t317)))) = true then ((sponge_Inverse.f k a0 a1_0 a1_1 a1_2 a1_3).bind fun bt318 => ((attestorref06_Inverse.f k a0 a1_0 a1_1 a1_2 a1_3).bind fun bt322 => (if (bt318.1 == bt322.1 && (bt318.2.1 == bt322.2.1 && (bt318.2.2.1 == bt322.2.2.1 && (bt318.2.2.2 == bt322.2.2.2)))) = true then ((attestorlaw06_lives.f k).bind fun t326 => (some t326)) else (none)))) else (none)) = some r := H
  have A4 := Aside0.mk A40
  clear A40
  by_cases c5 : (t310 == t314 && (t311 == t315 && (t312 == t316 && (t313 == t317)))) = true
  · rw [if_pos c5] at H
    have c5b0 : (t310 == t314 && (t311 == t315 && (t312 == t316 && (t313 == t317)))) = true := c5
    (try (have c5b1 : decide (t310 = t314 && (t311 == t315 && (t312 == t316 && (t313 == t317)))) = true := by simpa using c5))
    (try (have c5b2 : (t310 == t314 && (t311 == t315 && (t312 == t316 && (t313 == t317)))) = true := by simpa using c5))
    clear c5
    replace H := Option.bind_eq_some_iff.mp H
    obtain ⟨⟨t318, t319, t320, t321⟩, A60, H⟩ := H
    replace H : ((attestorref06_Inverse.f k a0 a1_0 a1_1 a1_2 a1_3).bind fun bt322 => (if (t318 == bt322.1 && (t319 == bt322.2.1 && (t320 == bt322.2.2.1 && (t321 == bt322.2.2.2)))) = true then ((attestorlaw06_lives.f k).bind fun t326 => (some t326)) else (none))) = some r := H
    have A6 := Aside0.mk A60
    clear A60
    replace H := Option.bind_eq_some_iff.mp H
    obtain ⟨⟨t322, t323, t324, t325⟩, A70, H⟩ := H
    replace H : (if (t318 == t322 && (t319 == t323 && (t320 == t324 && (t321 == t325)))) = true then ((attestorlaw06_lives.f k).bind fun t326 => (some t326)) else (none)) = some r := H
    have A7 := Aside0.mk A70
    clear A70
    by_cases c8 : (t318 == t322 && (t319 == t323 && (t320 == t324 && (t321 == t325)))) = true
    · rw [if_pos c8] at H
      have c8b0 : (t318 == t322 && (t319 == t323 && (t320 == t324 && (t321 == t325)))) = true := c8
      (try (have c8b1 : decide (t318 = t322 && (t319 == t323 && (t320 == t324 && (t321 == t325)))) = true := by simpa using c8))
      (try (have c8b2 : (t318 == t322 && (t319 == t323 && (t320 == t324 && (t321 == t325)))) = true := by simpa using c8))
      clear c8
      replace H := Option.bind_eq_some_iff.mp H
      obtain ⟨t326, A90, H⟩ := H
      replace H : (some t326) = some r := H
      have A9 := Aside0.mk A90
      clear A90
      obtain rfl := Option.some.inj H
      go_enter Tryd.func8, Tryd.ntmps8
      try go_wp2_with (first | ((with_reducible refine gate_dst (N := 3) rfl ?_); refine box_event ?hg (N := 3) ?hd (cs := #[.int .u64 a1_0, .int .u64 a1_1, .int .u64 a1_2, .int .u64 a1_3]) (t := 23) ?hr ?_; (case hd => rfl); (case hg => rfl); (case hr => first | (go_simp; done) | (go_simp; rfl)); intro gb309 hg w10 hbox hb; have n0_ := Aside0.mk (below_step (by repeat (first | (with_reducible first | exact HB.out | apply below_alloc | apply pw_below_drewN | apply below_drew1) | exact HB.out)) hb); have n1_ := Aside0.mk (hbox); have n2_ := Aside0.mk ((by rw [hg]; exact (below_size (by repeat (first | (with_reducible first | exact HB.out | apply below_alloc | apply pw_below_drewN | apply below_drew1) | exact HB.out))) : w.heap.size ≤ gb309)); have n3_ := Aside0.mk ((by rw [hg]; exact (below_size (by repeat (first | (with_reducible first | exact HB.out | apply below_alloc | apply pw_below_drewN | apply below_drew1) | exact HB.out))) : w.heap.size ≤ gb309)); clear HB; have HB := n0_; have BK309 := n1_; have GW309 := n2_; have GE309 := n3_; clear n0_ n1_ n2_ n3_; clear hb hbox hg))
      have n0_ := Aside0.mk (blk_drew BK309.out)
      have n1_ := Aside0.mk (below_drew1 HB.out)
      clear BK309
      clear HB
      have BK309 := n0_
      have HB := n1_
      clear n0_ n1_
      refine start_ (n := 20) (S := fun w' => w'.cell? ⟨gb309, 0, none⟩ = some (.int .u64 a1_0) ∧ w'.cell? ⟨gb309, 1, none⟩ = some (.int .u64 a1_1) ∧ w'.cell? ⟨gb309, 2, none⟩ = some (.int .u64 a1_2) ∧ w'.cell? ⟨gb309, 3, none⟩ = some (.int .u64 a1_3)) (ds := []) #[false, false, false, false, false, false, false, false, false, false, false, false, false, false, false, false, false, false, false, false] (by kernel_rfl) rfl rfl ⟨(blk_cell BK309.out 0).trans rfl, (blk_cell BK309.out 1).trans rfl, (blk_cell BK309.out 2).trans rfl, (blk_cell BK309.out 3).trans rfl⟩ (fun hHeld => ?_); refine with_tabW attestorlaw06_SpongePerms.tab1 attestorlaw06_SpongePerms.bits1 (fun HT_ HW_ => ?_)
      generalize w10.drew = w11 at BK309 HB hHeld ⊢
      refine pure_ (i := 0) (N := some 5) (v := ?_) (a' := ?_) #[true, false, false, false, false, false, false, false, false, false, false, false, false, false, false, false, false, false, false, false] rfl rfl (any_of HT_.out (by kernel_rfl)) (fun _ _ _ h => h) (Or.inl ⟨by rfl, ?_⟩) ?_ ?_
      rotate_left
      · intro w'
        go_simp
        with_reducible rfl
      rotate_left
      · simp only [Act.put, List.setIfInBounds_toArray, List.set_cons_zero, List.set_cons_succ, i64_w, i32_w]
        rfl
      refine pure_ (i := 3) (N := some 8) (v := ?_) (a' := ?_) #[true, false, false, true, false, false, false, false, false, false, false, false, false, false, false, false, false, false, false, false] rfl rfl (any_of HT_.out (by kernel_rfl)) (fun _ _ _ h => h) (Or.inl ⟨by rfl, ?_⟩) ?_ ?_
      rotate_left
      · intro w'
        go_simp
        with_reducible rfl
      rotate_left
      · simp only [Act.put, List.setIfInBounds_toArray, List.set_cons_zero, List.set_cons_succ, i64_w, i32_w]
        rfl
      refine take_ (i := 1) (N := some 6) (v := ?_) (a' := ?_) #[true, true, false, true, false, false, false, false, false, false, false, false, false, false, false, false, false, false, false, false] rfl rfl (take_ofW HT_.out HW_.out (by kernel_rfl)) (fun _ _ _ h => h) (Or.inl ⟨by rfl, ?_⟩) hHeld ?_ ?_
      rotate_left
      · rintro w' ⟨s0, s1, s2, s3⟩
        go_simp
        with_reducible rfl
      rotate_left
      · simp only [Act.put, List.setIfInBounds_toArray, List.set_cons_zero, List.set_cons_succ, i64_w, i32_w]
        rfl
      refine take_ (i := 4) (N := some 9) (v := ?_) (a' := ?_) #[true, true, false, true, true, false, false, false, false, false, false, false, false, false, false, false, false, false, false, false] rfl rfl (take_ofW HT_.out HW_.out (by kernel_rfl)) (fun _ _ _ h => h) (Or.inl ⟨by rfl, ?_⟩) hHeld ?_ ?_
      rotate_left
      · rintro w' ⟨s0, s1, s2, s3⟩
        go_simp
        with_reducible rfl
      rotate_left
      · simp only [Act.put, List.setIfInBounds_toArray, List.set_cons_zero, List.set_cons_succ, i64_w, i32_w]
        rfl
      refine one_ (i := 2) (N := some 7) #[true, true, true, true, true, false, false, false, false, false, false, false, false, false, false, false, false, false, false, false] rfl rfl (one_of HT_.out (by kernel_rfl)) (by decide) (fun K hK => ?_)
      refine goes_ Tryd.func19 (by kernel_rfl) rfl #[.int .i64 a0, .agg #[.int .u64 a1_0, .int .u64 a1_1, .int .u64 a1_2, .int .u64 a1_3]] (by rfl) rfl rfl (by (try simp only [List.map_toArray, List.map_cons, List.map_nil]); first | done | rfl | (simp only [List.length_drop, List.length_take]; rfl) | (go_simp; done) | (go_simp; rw [Int.tmod_eq_emod_of_nonneg (by omega)]; omega)) ?_
      with_reducible refine (sponge_Perm.calls k a0 a1_0 a1_1 a1_2 a1_3 t310 t311 t312 t313 _ ?side1 A3.out).mono ?_
      (case side1 => repeat (first | exact (GL.below HRG.out HB.out) | (with_reducible refine GL.alloc ?_ _) | (with_reducible refine GL.drewN ?_ _) | (with_reducible refine GL.drew ?_)))
      rintro e w12 ⟨rfl, hb⟩
      refine ⟨_, rfl, ?_⟩
      have n0_ := Aside0.mk (blk_below (g := gb309) (o := .cells #[.int .u64 a1_0, .int .u64 a1_1, .int .u64 a1_2, .int .u64 a1_3] 23 (0, 0)) (by (with_reducible repeat (first | refine blk_drewN ?_ _ | refine blk_drew ?_ | refine blk_alloc ?_ _)); exact BK309.out) hb)
      have n1_ := Aside0.mk (below_step (by repeat (first | (with_reducible first | exact HB.out | apply below_alloc | apply pw_below_drewN | apply below_drew1 | refine below_set ?_ GE309.out) | exact HB.out)) hb)
      clear BK309
      clear HB
      have BK309 := n0_
      have HB := n1_
      clear n0_ n1_
      (try clear hb)
      (try clear hb2)
      (try clear hk)
      (try clear hi)
      refine hK.out _ _ ⟨(blk_cell BK309.out 0).trans rfl, (blk_cell BK309.out 1).trans rfl, (blk_cell BK309.out 2).trans rfl, (blk_cell BK309.out 3).trans rfl⟩ (fun hHeld => ?_)
      clear hK K
      refine norm_ (a' := ?_) ?_ ?_
      rotate_left
      · show Act.put _ (some 7) _ = _
        simp only [Act.put, List.setIfInBounds_toArray, List.set_cons_zero, List.set_cons_succ, i64_w, i32_w]
        rfl
      refine one_ (i := 5) (N := some 10) #[true, true, true, true, true, true, false, false, false, false, false, false, false, false, false, false, false, false, false, false] rfl rfl (one_of HT_.out (by kernel_rfl)) (by decide) (fun K hK => ?_)
      refine goes_ Tryd.func24 (by kernel_rfl) rfl #[.int .i64 a0, .agg #[.int .u64 a1_0, .int .u64 a1_1, .int .u64 a1_2, .int .u64 a1_3]] (by rfl) rfl rfl (by (try simp only [List.map_toArray, List.map_cons, List.map_nil]); first | done | rfl | (simp only [List.length_drop, List.length_take]; rfl) | (go_simp; done) | (go_simp; rw [Int.tmod_eq_emod_of_nonneg (by omega)]; omega)) ?_
      with_reducible refine (attestorref06_Perm.calls k a0 a1_0 a1_1 a1_2 a1_3 t314 t315 t316 t317 _ A4.out).mono ?_
      rintro e w13 ⟨rfl, hb⟩
      refine ⟨_, rfl, ?_⟩
      have n0_ := Aside0.mk (blk_below (g := gb309) (o := .cells #[.int .u64 a1_0, .int .u64 a1_1, .int .u64 a1_2, .int .u64 a1_3] 23 (0, 0)) (by (with_reducible repeat (first | refine blk_drewN ?_ _ | refine blk_drew ?_ | refine blk_alloc ?_ _)); exact BK309.out) hb)
      have n1_ := Aside0.mk (below_step (by repeat (first | (with_reducible first | exact HB.out | apply below_alloc | apply pw_below_drewN | apply below_drew1 | refine below_set ?_ GE309.out) | exact HB.out)) hb)
      clear BK309
      clear HB
      have BK309 := n0_
      have HB := n1_
      clear n0_ n1_
      (try clear hb)
      (try clear hb2)
      (try clear hk)
      (try clear hi)
      refine hK.out _ _ ⟨(blk_cell BK309.out 0).trans rfl, (blk_cell BK309.out 1).trans rfl, (blk_cell BK309.out 2).trans rfl, (blk_cell BK309.out 3).trans rfl⟩ (fun hHeld => ?_)
      clear hK K
      refine norm_ (a' := ?_) ?_ ?_
      rotate_left
      · show Act.put _ (some 10) _ = _
        simp only [Act.put, List.setIfInBounds_toArray, List.set_cons_zero, List.set_cons_succ, i64_w, i32_w]
        rfl
      refine pure_ (i := 6) (N := some 11) (v := ?_) (a' := ?_) #[true, true, true, true, true, true, true, false, false, false, false, false, false, false, false, false, false, false, false, false] rfl rfl (any_of HT_.out (by kernel_rfl)) (fun _ _ _ h => h) (Or.inl ⟨by rfl, ?_⟩) ?_ ?_
      rotate_left
      · intro w'
        go_simp
        with_reducible rfl
      rotate_left
      · simp only [Act.put, List.setIfInBounds_toArray, List.set_cons_zero, List.set_cons_succ, i64_w, i32_w]
        rfl
      refine pure_ (i := 7) (N := some 12) (v := ?_) (a' := ?_) #[true, true, true, true, true, true, true, true, false, false, false, false, false, false, false, false, false, false, false, false] rfl rfl (any_of HT_.out (by kernel_rfl)) (fun _ _ _ h => h) (Or.inl ⟨by rfl, ?_⟩) ?_ ?_
      rotate_left
      · intro w'
        go_simp
        with_reducible rfl
      rotate_left
      · simp only [Act.put, List.setIfInBounds_toArray, List.set_cons_zero, List.set_cons_succ, i64_w, i32_w]
        rfl
      refine pure_ (i := 8) (N := some 13) (v := ?_) (a' := ?_) #[true, true, true, true, true, true, true, true, true, false, false, false, false, false, false, false, false, false, false, false] rfl rfl (any_of HT_.out (by kernel_rfl)) (fun _ _ _ h => h) (Or.inl ⟨by rfl, ?_⟩) ?_ ?_
      rotate_left
      · intro w'
        go_simp
        with_reducible rfl
      rotate_left
      · simp only [Act.put, List.setIfInBounds_toArray, List.set_cons_zero, List.set_cons_succ, i64_w, i32_w]
        rfl
      refine pure_ (i := 11) (N := some 16) (v := ?_) (a' := ?_) #[true, true, true, true, true, true, true, true, true, false, false, true, false, false, false, false, false, false, false, false] rfl rfl (any_of HT_.out (by kernel_rfl)) (fun _ _ _ h => h) (Or.inl ⟨by rfl, ?_⟩) ?_ ?_
      rotate_left
      · intro w'
        go_simp
        with_reducible rfl
      rotate_left
      · simp only [Act.put, List.setIfInBounds_toArray, List.set_cons_zero, List.set_cons_succ, i64_w, i32_w]
        rfl
      refine take_ (i := 9) (N := some 14) (v := ?_) (a' := ?_) #[true, true, true, true, true, true, true, true, true, true, false, true, false, false, false, false, false, false, false, false] rfl rfl (take_ofW HT_.out HW_.out (by kernel_rfl)) (fun _ _ _ h => h) (Or.inl ⟨by rfl, ?_⟩) hHeld ?_ ?_
      rotate_left
      · rintro w' ⟨s0, s1, s2, s3⟩
        go_simp
        with_reducible rfl
      rotate_left
      · simp only [Act.put, List.setIfInBounds_toArray, List.set_cons_zero, List.set_cons_succ, i64_w, i32_w]
        rfl
      refine take_ (i := 12) (N := some 17) (v := ?_) (a' := ?_) #[true, true, true, true, true, true, true, true, true, true, false, true, true, false, false, false, false, false, false, false] rfl rfl (take_ofW HT_.out HW_.out (by kernel_rfl)) (fun _ _ _ h => h) (Or.inl ⟨by rfl, ?_⟩) hHeld ?_ ?_
      rotate_left
      · rintro w' ⟨s0, s1, s2, s3⟩
        go_simp
        with_reducible rfl
      rotate_left
      · simp only [Act.put, List.setIfInBounds_toArray, List.set_cons_zero, List.set_cons_succ, i64_w, i32_w]
        rfl
      refine one_ (i := 10) (N := some 15) #[true, true, true, true, true, true, true, true, true, true, true, true, true, false, false, false, false, false, false, false] rfl rfl (one_of HT_.out (by kernel_rfl)) (by decide) (fun K hK => ?_)
      refine goes_ Tryd.func25 (by kernel_rfl) rfl #[.int .i64 a0, .agg #[.int .u64 a1_0, .int .u64 a1_1, .int .u64 a1_2, .int .u64 a1_3]] (by rfl) rfl rfl (by (try simp only [List.map_toArray, List.map_cons, List.map_nil]); first | done | rfl | (simp only [List.length_drop, List.length_take]; rfl) | (go_simp; done) | (go_simp; rw [Int.tmod_eq_emod_of_nonneg (by omega)]; omega)) ?_
      with_reducible refine (sponge_Inverse.calls k a0 a1_0 a1_1 a1_2 a1_3 t318 t319 t320 t321 _ ?side1 A6.out).mono ?_
      (case side1 => repeat (first | exact (GL.below HRG.out HB.out) | (with_reducible refine GL.alloc ?_ _) | (with_reducible refine GL.drewN ?_ _) | (with_reducible refine GL.drew ?_)))
      rintro e w14 ⟨rfl, hb⟩
      refine ⟨_, rfl, ?_⟩
      have n0_ := Aside0.mk (blk_below (g := gb309) (o := .cells #[.int .u64 a1_0, .int .u64 a1_1, .int .u64 a1_2, .int .u64 a1_3] 23 (0, 0)) (by (with_reducible repeat (first | refine blk_drewN ?_ _ | refine blk_drew ?_ | refine blk_alloc ?_ _)); exact BK309.out) hb)
      have n1_ := Aside0.mk (below_step (by repeat (first | (with_reducible first | exact HB.out | apply below_alloc | apply pw_below_drewN | apply below_drew1 | refine below_set ?_ GE309.out) | exact HB.out)) hb)
      clear BK309
      clear HB
      have BK309 := n0_
      have HB := n1_
      clear n0_ n1_
      (try clear hb)
      (try clear hb2)
      (try clear hk)
      (try clear hi)
      refine hK.out _ _ ⟨(blk_cell BK309.out 0).trans rfl, (blk_cell BK309.out 1).trans rfl, (blk_cell BK309.out 2).trans rfl, (blk_cell BK309.out 3).trans rfl⟩ (fun hHeld => ?_)
      clear hK K
      refine norm_ (a' := ?_) ?_ ?_
      rotate_left
      · show Act.put _ (some 15) _ = _
        simp only [Act.put, List.setIfInBounds_toArray, List.set_cons_zero, List.set_cons_succ, i64_w, i32_w]
        rfl
      refine one_ (i := 13) (N := some 18) #[true, true, true, true, true, true, true, true, true, true, true, true, true, true, false, false, false, false, false, false] rfl rfl (one_of HT_.out (by kernel_rfl)) (by decide) (fun K hK => ?_)
      refine goes_ Tryd.func26 (by kernel_rfl) rfl #[.int .i64 a0, .agg #[.int .u64 a1_0, .int .u64 a1_1, .int .u64 a1_2, .int .u64 a1_3]] (by rfl) rfl rfl (by (try simp only [List.map_toArray, List.map_cons, List.map_nil]); first | done | rfl | (simp only [List.length_drop, List.length_take]; rfl) | (go_simp; done) | (go_simp; rw [Int.tmod_eq_emod_of_nonneg (by omega)]; omega)) ?_
      with_reducible refine (attestorref06_Inverse.calls k a0 a1_0 a1_1 a1_2 a1_3 t322 t323 t324 t325 _ A7.out).mono ?_
      rintro e w15 ⟨rfl, hb⟩
      refine ⟨_, rfl, ?_⟩
      have n0_ := Aside0.mk (blk_below (g := gb309) (o := .cells #[.int .u64 a1_0, .int .u64 a1_1, .int .u64 a1_2, .int .u64 a1_3] 23 (0, 0)) (by (with_reducible repeat (first | refine blk_drewN ?_ _ | refine blk_drew ?_ | refine blk_alloc ?_ _)); exact BK309.out) hb)
      have n1_ := Aside0.mk (below_step (by repeat (first | (with_reducible first | exact HB.out | apply below_alloc | apply pw_below_drewN | apply below_drew1 | refine below_set ?_ GE309.out) | exact HB.out)) hb)
      clear BK309
      clear HB
      have BK309 := n0_
      have HB := n1_
      clear n0_ n1_
      (try clear hb)
      (try clear hb2)
      (try clear hk)
      (try clear hi)
      refine hK.out _ _ ⟨(blk_cell BK309.out 0).trans rfl, (blk_cell BK309.out 1).trans rfl, (blk_cell BK309.out 2).trans rfl, (blk_cell BK309.out 3).trans rfl⟩ (fun hHeld => ?_)
      clear hK K
      refine norm_ (a' := ?_) ?_ ?_
      rotate_left
      · show Act.put _ (some 18) _ = _
        simp only [Act.put, List.setIfInBounds_toArray, List.set_cons_zero, List.set_cons_succ, i64_w, i32_w]
        rfl
      refine pure_ (i := 14) (N := some 19) (v := ?_) (a' := ?_) #[true, true, true, true, true, true, true, true, true, true, true, true, true, true, true, false, false, false, false, false] rfl rfl (any_of HT_.out (by kernel_rfl)) (fun _ _ _ h => h) (Or.inl ⟨by rfl, ?_⟩) ?_ ?_
      rotate_left
      · intro w'
        go_simp
        with_reducible rfl
      rotate_left
      · simp only [Act.put, List.setIfInBounds_toArray, List.set_cons_zero, List.set_cons_succ, i64_w, i32_w]
        rfl
      refine pure_ (i := 15) (N := some 20) (v := ?_) (a' := ?_) #[true, true, true, true, true, true, true, true, true, true, true, true, true, true, true, true, false, false, false, false] rfl rfl (any_of HT_.out (by kernel_rfl)) (fun _ _ _ h => h) (Or.inl ⟨by rfl, ?_⟩) ?_ ?_
      rotate_left
      · intro w'
        go_simp
        with_reducible rfl
      rotate_left
      · simp only [Act.put, List.setIfInBounds_toArray, List.set_cons_zero, List.set_cons_succ, i64_w, i32_w]
        rfl
      refine pure_ (i := 16) (N := some 21) (v := ?_) (a' := ?_) #[true, true, true, true, true, true, true, true, true, true, true, true, true, true, true, true, true, false, false, false] rfl rfl (any_of HT_.out (by kernel_rfl)) (fun _ _ _ h => h) (Or.inl ⟨by rfl, ?_⟩) ?_ ?_
      rotate_left
      · intro w'
        go_simp
        with_reducible rfl
      rotate_left
      · simp only [Act.put, List.setIfInBounds_toArray, List.set_cons_zero, List.set_cons_succ, i64_w, i32_w]
        rfl
      refine one_ (i := 17) (N := some 22) #[true, true, true, true, true, true, true, true, true, true, true, true, true, true, true, true, true, true, false, false] rfl rfl (one_of HT_.out (by kernel_rfl)) (by decide) (fun K hK => ?_)
      refine goes_ Tryd.func16 (by kernel_rfl) rfl #[] (by rfl) rfl rfl (by (try simp only [List.map_toArray, List.map_cons, List.map_nil]); first | done | rfl | (simp only [List.length_drop, List.length_take]; rfl) | (go_simp; done) | (go_simp; rw [Int.tmod_eq_emod_of_nonneg (by omega)]; omega)) ?_
      with_reducible refine (attestorlaw06_lives.calls k  t326 _ ?side1 A9.out).mono ?_
      (case side1 => repeat (first | exact (GL.below HRG.out HB.out) | (with_reducible refine GL.alloc ?_ _) | (with_reducible refine GL.drewN ?_ _) | (with_reducible refine GL.drew ?_)))
      rintro e w16 ⟨rfl, hb⟩
      refine ⟨_, rfl, ?_⟩
      have n0_ := Aside0.mk (blk_below (g := gb309) (o := .cells #[.int .u64 a1_0, .int .u64 a1_1, .int .u64 a1_2, .int .u64 a1_3] 23 (0, 0)) (by (with_reducible repeat (first | refine blk_drewN ?_ _ | refine blk_drew ?_ | refine blk_alloc ?_ _)); exact BK309.out) hb)
      have n1_ := Aside0.mk (below_step (by repeat (first | (with_reducible first | exact HB.out | apply below_alloc | apply pw_below_drewN | apply below_drew1 | refine below_set ?_ GE309.out) | exact HB.out)) hb)
      clear BK309
      clear HB
      have BK309 := n0_
      have HB := n1_
      clear n0_ n1_
      (try clear hb)
      (try clear hb2)
      (try clear hk)
      (try clear hi)
      refine hK.out _ _ ⟨(blk_cell BK309.out 0).trans rfl, (blk_cell BK309.out 1).trans rfl, (blk_cell BK309.out 2).trans rfl, (blk_cell BK309.out 3).trans rfl⟩ (fun hHeld => ?_)
      clear hK K
      refine norm_ (a' := ?_) ?_ ?_
      rotate_left
      · show Act.put _ (some 22) _ = _
        simp only [Act.put, List.setIfInBounds_toArray, List.set_cons_zero, List.set_cons_succ, i64_w, i32_w]
        rfl
      refine pure_ (i := 18) (N := some 23) (v := ?_) (a' := ?_) #[true, true, true, true, true, true, true, true, true, true, true, true, true, true, true, true, true, true, true, false] rfl rfl (any_of HT_.out (by kernel_rfl)) (fun _ _ _ h => h) (Or.inl ⟨by rfl, ?_⟩) ?_ ?_
      rotate_left
      · intro w'
        go_simp
        with_reducible rfl
      rotate_left
      · simp only [Act.put, List.setIfInBounds_toArray, List.set_cons_zero, List.set_cons_succ, i64_w, i32_w]
        rfl
      refine pure_ (i := 19) (N := some 4) (v := ?_) (a' := ?_) #[true, true, true, true, true, true, true, true, true, true, true, true, true, true, true, true, true, true, true, true] rfl rfl (any_of HT_.out (by kernel_rfl)) (fun _ _ _ h => h) (Or.inl ⟨by rfl, ?_⟩) ?_ ?_
      rotate_left
      · intro w'
        go_simp
        with_reducible rfl
      rotate_left
      · simp only [Act.put, List.setIfInBounds_toArray, List.set_cons_zero, List.set_cons_succ, i64_w, i32_w]
        rfl
      refine done_ (done_of HT_.out (by kernel_rfl)) ?_
      try go_wp2
      go_ret
      exact ⟨by first | rfl | (simp [errW_none, errW_some] <;> rfl) | (simp [*, errW_none, errW_some] <;> rfl), by repeat (first | (with_reducible first | exact HB.out | apply below_alloc | apply pw_below_drewN | apply below_drew1 | refine below_set ?_ GE309.out) | exact HB.out)⟩
    · rw [if_neg c8] at H
      exact absurd H (by simp)
  · rw [if_neg c5] at H
    exact absurd H (by simp)

end Go.Proofs.YtjfekjblnoagkaaDoor.Q
end
section
namespace Go.Proofs.YtjfekjblnoagkaaDoor.Q
open Go.RowKit Go.Proofs.YtjfekjblnoagkaaDoorW.PrintWords Go.Proofs.YtjfekjblnoagkaaDoorW.PrintLast Go.Proofs.YtjfekjblnoagkaaDoorW.PrintMore
open Go.Proofs.YtjfekjblnoagkaaDoor.Num
set_option linter.unusedVariables false
set_option linter.unusedSimpArgs false

theorem mm_ (N i p : Nat) : N % p * i % p = N * i % p := by rw [Nat.mul_mod, Nat.mod_mod, ← Nat.mul_mod]
theorem rd_undo {f : Int} {d : Nat} (hf : (f = 0 ∧ d = 77) ∨ (f = 1 ∧ d = 171) ∨ (f = 2 ∧ d = 7373) ∨ (f = 3 ∧ d = 665496235)) : rd ([77, 171, 7373, 665496235] : List Int) f = (d : Int) := by
  rcases hf with ⟨rfl, rfl⟩ | ⟨rfl, rfl⟩ | ⟨rfl, rfl⟩ | ⟨rfl, rfl⟩ <;> rfl
theorem y0_0 : Int.tmod (wrap64 (0 + 0)) 4 = 0 := by decide +kernel
theorem y0_1 : Int.tmod (wrap64 (0 + 1)) 4 = 1 := by decide +kernel
theorem y0_2 : Int.tmod (wrap64 (0 + 2)) 4 = 2 := by decide +kernel
theorem y0_3 : Int.tmod (wrap64 (0 + 3)) 4 = 3 := by decide +kernel
theorem y1_0 : Int.tmod (wrap64 (1 + 0)) 4 = 1 := by decide +kernel
theorem y1_1 : Int.tmod (wrap64 (1 + 1)) 4 = 2 := by decide +kernel
theorem y1_2 : Int.tmod (wrap64 (1 + 2)) 4 = 3 := by decide +kernel
theorem y1_3 : Int.tmod (wrap64 (1 + 3)) 4 = 0 := by decide +kernel
theorem y2_0 : Int.tmod (wrap64 (2 + 0)) 4 = 2 := by decide +kernel
theorem y2_1 : Int.tmod (wrap64 (2 + 1)) 4 = 3 := by decide +kernel
theorem y2_2 : Int.tmod (wrap64 (2 + 2)) 4 = 0 := by decide +kernel
theorem y2_3 : Int.tmod (wrap64 (2 + 3)) 4 = 1 := by decide +kernel
theorem y3_0 : Int.tmod (wrap64 (3 + 0)) 4 = 3 := by decide +kernel
theorem y3_1 : Int.tmod (wrap64 (3 + 1)) 4 = 0 := by decide +kernel
theorem y3_2 : Int.tmod (wrap64 (3 + 2)) 4 = 1 := by decide +kernel
theorem y3_3 : Int.tmod (wrap64 (3 + 3)) 4 = 2 := by decide +kernel
theorem bl0_0 (k : Nat) (f n s0 s1 s2 s3 m0 m1 m2 m3 e0 e1 e2 e3 t0 t1 t2 t3 : Int) : attestorref06_back.l0 (k + 1) f n 0 s0 s1 s2 s3 m0 m1 m2 m3 e0 e1 e2 e3 t0 t1 t2 t3 = attestorref06_back.l1 k f n 0 0 s0 s1 s2 s3 m0 m1 m2 m3 e0 e1 e2 e3 t0 t1 t2 t3 := by
  rw [attestorref06_back.l0, if_pos (by decide)]
theorem bl1_00 (k : Nat) (f n s0 s1 s2 s3 m0 m1 m2 m3 e0 e1 e2 e3 t0 t1 t2 t3 : Int) : attestorref06_back.l1 (k + 1) f n 0 0 s0 s1 s2 s3 m0 m1 m2 m3 e0 e1 e2 e3 t0 t1 t2 t3 = (attestorref01_Mul.f f m0 s0).bind fun c => (attestorref01_Add.f f t0 c).bind fun v => attestorref06_back.l1 k f n 0 1 s0 s1 s2 s3 m0 m1 m2 m3 e0 e1 e2 e3 v t1 t2 t3 := by
  rw [attestorref06_back.l1, if_pos (by decide), if_pos (by decide), if_pos (by decide), if_pos (by decide), y0_0, v01, if_pos (by decide), if_pos (by decide)]
  rfl
theorem bl1_01 (k : Nat) (f n s0 s1 s2 s3 m0 m1 m2 m3 e0 e1 e2 e3 t0 t1 t2 t3 : Int) : attestorref06_back.l1 (k + 1) f n 0 1 s0 s1 s2 s3 m0 m1 m2 m3 e0 e1 e2 e3 t0 t1 t2 t3 = (attestorref01_Mul.f f m1 s1).bind fun c => (attestorref01_Add.f f t0 c).bind fun v => attestorref06_back.l1 k f n 0 2 s0 s1 s2 s3 m0 m1 m2 m3 e0 e1 e2 e3 v t1 t2 t3 := by
  rw [attestorref06_back.l1, if_pos (by decide), if_pos (by decide), if_pos (by decide), if_pos (by decide), y0_1, v12, if_pos (by decide), if_pos (by decide)]
  rfl
theorem bl1_02 (k : Nat) (f n s0 s1 s2 s3 m0 m1 m2 m3 e0 e1 e2 e3 t0 t1 t2 t3 : Int) : attestorref06_back.l1 (k + 1) f n 0 2 s0 s1 s2 s3 m0 m1 m2 m3 e0 e1 e2 e3 t0 t1 t2 t3 = (attestorref01_Mul.f f m2 s2).bind fun c => (attestorref01_Add.f f t0 c).bind fun v => attestorref06_back.l1 k f n 0 3 s0 s1 s2 s3 m0 m1 m2 m3 e0 e1 e2 e3 v t1 t2 t3 := by
  rw [attestorref06_back.l1, if_pos (by decide), if_pos (by decide), if_pos (by decide), if_pos (by decide), y0_2, v23, if_pos (by decide), if_pos (by decide)]
  rfl
theorem bl1_03 (k : Nat) (f n s0 s1 s2 s3 m0 m1 m2 m3 e0 e1 e2 e3 t0 t1 t2 t3 : Int) : attestorref06_back.l1 (k + 1) f n 0 3 s0 s1 s2 s3 m0 m1 m2 m3 e0 e1 e2 e3 t0 t1 t2 t3 = (attestorref01_Mul.f f m3 s3).bind fun c => (attestorref01_Add.f f t0 c).bind fun v => attestorref06_back.l1 k f n 0 4 s0 s1 s2 s3 m0 m1 m2 m3 e0 e1 e2 e3 v t1 t2 t3 := by
  rw [attestorref06_back.l1, if_pos (by decide), if_pos (by decide), if_pos (by decide), if_pos (by decide), y0_3, v34, if_pos (by decide), if_pos (by decide)]
  rfl
theorem bl1_04 (k : Nat) (f n s0 s1 s2 s3 m0 m1 m2 m3 e0 e1 e2 e3 t0 t1 t2 t3 : Int) (h0 : 0 ≤ f) (h4 : f < 4) : attestorref06_back.l1 (k + 1) f n 0 4 s0 s1 s2 s3 m0 m1 m2 m3 e0 e1 e2 e3 t0 t1 t2 t3 = (attestorref01_Inv.f k f 35).bind fun a => (attestorref01_Mul.f f t0 a).bind fun b => (attestorref01_Pow.f k f b (rd [e0, e1, e2, e3] f)).bind fun c => (attestorref06_Constant.f k f n 0).bind fun d => (attestorref01_Sub.f f c d).bind fun v => attestorref06_back.l0 k f n 1 s0 s1 s2 s3 m0 m1 m2 m3 e0 e1 e2 e3 v t1 t2 t3 := by
  rw [attestorref06_back.l1, if_neg (by decide), if_pos (by decide), if_pos (by decide)]
  refine congrArg _ (funext fun a => congrArg _ (funext fun b => ?_))
  rw [if_pos h0, if_pos h4, v01]
  rfl
theorem bl0_1 (k : Nat) (f n s0 s1 s2 s3 m0 m1 m2 m3 e0 e1 e2 e3 t0 t1 t2 t3 : Int) : attestorref06_back.l0 (k + 1) f n 1 s0 s1 s2 s3 m0 m1 m2 m3 e0 e1 e2 e3 t0 t1 t2 t3 = attestorref06_back.l1 k f n 1 0 s0 s1 s2 s3 m0 m1 m2 m3 e0 e1 e2 e3 t0 t1 t2 t3 := by
  rw [attestorref06_back.l0, if_pos (by decide)]
theorem bl1_10 (k : Nat) (f n s0 s1 s2 s3 m0 m1 m2 m3 e0 e1 e2 e3 t0 t1 t2 t3 : Int) : attestorref06_back.l1 (k + 1) f n 1 0 s0 s1 s2 s3 m0 m1 m2 m3 e0 e1 e2 e3 t0 t1 t2 t3 = (attestorref01_Mul.f f m0 s1).bind fun c => (attestorref01_Add.f f t1 c).bind fun v => attestorref06_back.l1 k f n 1 1 s0 s1 s2 s3 m0 m1 m2 m3 e0 e1 e2 e3 t0 v t2 t3 := by
  rw [attestorref06_back.l1, if_pos (by decide), if_pos (by decide), if_pos (by decide), if_pos (by decide), y1_0, v01, if_pos (by decide), if_pos (by decide)]
  rfl
theorem bl1_11 (k : Nat) (f n s0 s1 s2 s3 m0 m1 m2 m3 e0 e1 e2 e3 t0 t1 t2 t3 : Int) : attestorref06_back.l1 (k + 1) f n 1 1 s0 s1 s2 s3 m0 m1 m2 m3 e0 e1 e2 e3 t0 t1 t2 t3 = (attestorref01_Mul.f f m1 s2).bind fun c => (attestorref01_Add.f f t1 c).bind fun v => attestorref06_back.l1 k f n 1 2 s0 s1 s2 s3 m0 m1 m2 m3 e0 e1 e2 e3 t0 v t2 t3 := by
  rw [attestorref06_back.l1, if_pos (by decide), if_pos (by decide), if_pos (by decide), if_pos (by decide), y1_1, v12, if_pos (by decide), if_pos (by decide)]
  rfl
theorem bl1_12 (k : Nat) (f n s0 s1 s2 s3 m0 m1 m2 m3 e0 e1 e2 e3 t0 t1 t2 t3 : Int) : attestorref06_back.l1 (k + 1) f n 1 2 s0 s1 s2 s3 m0 m1 m2 m3 e0 e1 e2 e3 t0 t1 t2 t3 = (attestorref01_Mul.f f m2 s3).bind fun c => (attestorref01_Add.f f t1 c).bind fun v => attestorref06_back.l1 k f n 1 3 s0 s1 s2 s3 m0 m1 m2 m3 e0 e1 e2 e3 t0 v t2 t3 := by
  rw [attestorref06_back.l1, if_pos (by decide), if_pos (by decide), if_pos (by decide), if_pos (by decide), y1_2, v23, if_pos (by decide), if_pos (by decide)]
  rfl
theorem bl1_13 (k : Nat) (f n s0 s1 s2 s3 m0 m1 m2 m3 e0 e1 e2 e3 t0 t1 t2 t3 : Int) : attestorref06_back.l1 (k + 1) f n 1 3 s0 s1 s2 s3 m0 m1 m2 m3 e0 e1 e2 e3 t0 t1 t2 t3 = (attestorref01_Mul.f f m3 s0).bind fun c => (attestorref01_Add.f f t1 c).bind fun v => attestorref06_back.l1 k f n 1 4 s0 s1 s2 s3 m0 m1 m2 m3 e0 e1 e2 e3 t0 v t2 t3 := by
  rw [attestorref06_back.l1, if_pos (by decide), if_pos (by decide), if_pos (by decide), if_pos (by decide), y1_3, v34, if_pos (by decide), if_pos (by decide)]
  rfl
theorem bl1_14 (k : Nat) (f n s0 s1 s2 s3 m0 m1 m2 m3 e0 e1 e2 e3 t0 t1 t2 t3 : Int) (h0 : 0 ≤ f) (h4 : f < 4) : attestorref06_back.l1 (k + 1) f n 1 4 s0 s1 s2 s3 m0 m1 m2 m3 e0 e1 e2 e3 t0 t1 t2 t3 = (attestorref01_Inv.f k f 35).bind fun a => (attestorref01_Mul.f f t1 a).bind fun b => (attestorref01_Pow.f k f b (rd [e0, e1, e2, e3] f)).bind fun c => (attestorref06_Constant.f k f n 1).bind fun d => (attestorref01_Sub.f f c d).bind fun v => attestorref06_back.l0 k f n 2 s0 s1 s2 s3 m0 m1 m2 m3 e0 e1 e2 e3 t0 v t2 t3 := by
  rw [attestorref06_back.l1, if_neg (by decide), if_pos (by decide), if_pos (by decide)]
  refine congrArg _ (funext fun a => congrArg _ (funext fun b => ?_))
  rw [if_pos h0, if_pos h4, v12]
  rfl
theorem bl0_2 (k : Nat) (f n s0 s1 s2 s3 m0 m1 m2 m3 e0 e1 e2 e3 t0 t1 t2 t3 : Int) : attestorref06_back.l0 (k + 1) f n 2 s0 s1 s2 s3 m0 m1 m2 m3 e0 e1 e2 e3 t0 t1 t2 t3 = attestorref06_back.l1 k f n 2 0 s0 s1 s2 s3 m0 m1 m2 m3 e0 e1 e2 e3 t0 t1 t2 t3 := by
  rw [attestorref06_back.l0, if_pos (by decide)]
theorem bl1_20 (k : Nat) (f n s0 s1 s2 s3 m0 m1 m2 m3 e0 e1 e2 e3 t0 t1 t2 t3 : Int) : attestorref06_back.l1 (k + 1) f n 2 0 s0 s1 s2 s3 m0 m1 m2 m3 e0 e1 e2 e3 t0 t1 t2 t3 = (attestorref01_Mul.f f m0 s2).bind fun c => (attestorref01_Add.f f t2 c).bind fun v => attestorref06_back.l1 k f n 2 1 s0 s1 s2 s3 m0 m1 m2 m3 e0 e1 e2 e3 t0 t1 v t3 := by
  rw [attestorref06_back.l1, if_pos (by decide), if_pos (by decide), if_pos (by decide), if_pos (by decide), y2_0, v01, if_pos (by decide), if_pos (by decide)]
  rfl
theorem bl1_21 (k : Nat) (f n s0 s1 s2 s3 m0 m1 m2 m3 e0 e1 e2 e3 t0 t1 t2 t3 : Int) : attestorref06_back.l1 (k + 1) f n 2 1 s0 s1 s2 s3 m0 m1 m2 m3 e0 e1 e2 e3 t0 t1 t2 t3 = (attestorref01_Mul.f f m1 s3).bind fun c => (attestorref01_Add.f f t2 c).bind fun v => attestorref06_back.l1 k f n 2 2 s0 s1 s2 s3 m0 m1 m2 m3 e0 e1 e2 e3 t0 t1 v t3 := by
  rw [attestorref06_back.l1, if_pos (by decide), if_pos (by decide), if_pos (by decide), if_pos (by decide), y2_1, v12, if_pos (by decide), if_pos (by decide)]
  rfl
theorem bl1_22 (k : Nat) (f n s0 s1 s2 s3 m0 m1 m2 m3 e0 e1 e2 e3 t0 t1 t2 t3 : Int) : attestorref06_back.l1 (k + 1) f n 2 2 s0 s1 s2 s3 m0 m1 m2 m3 e0 e1 e2 e3 t0 t1 t2 t3 = (attestorref01_Mul.f f m2 s0).bind fun c => (attestorref01_Add.f f t2 c).bind fun v => attestorref06_back.l1 k f n 2 3 s0 s1 s2 s3 m0 m1 m2 m3 e0 e1 e2 e3 t0 t1 v t3 := by
  rw [attestorref06_back.l1, if_pos (by decide), if_pos (by decide), if_pos (by decide), if_pos (by decide), y2_2, v23, if_pos (by decide), if_pos (by decide)]
  rfl
theorem bl1_23 (k : Nat) (f n s0 s1 s2 s3 m0 m1 m2 m3 e0 e1 e2 e3 t0 t1 t2 t3 : Int) : attestorref06_back.l1 (k + 1) f n 2 3 s0 s1 s2 s3 m0 m1 m2 m3 e0 e1 e2 e3 t0 t1 t2 t3 = (attestorref01_Mul.f f m3 s1).bind fun c => (attestorref01_Add.f f t2 c).bind fun v => attestorref06_back.l1 k f n 2 4 s0 s1 s2 s3 m0 m1 m2 m3 e0 e1 e2 e3 t0 t1 v t3 := by
  rw [attestorref06_back.l1, if_pos (by decide), if_pos (by decide), if_pos (by decide), if_pos (by decide), y2_3, v34, if_pos (by decide), if_pos (by decide)]
  rfl
theorem bl1_24 (k : Nat) (f n s0 s1 s2 s3 m0 m1 m2 m3 e0 e1 e2 e3 t0 t1 t2 t3 : Int) (h0 : 0 ≤ f) (h4 : f < 4) : attestorref06_back.l1 (k + 1) f n 2 4 s0 s1 s2 s3 m0 m1 m2 m3 e0 e1 e2 e3 t0 t1 t2 t3 = (attestorref01_Inv.f k f 35).bind fun a => (attestorref01_Mul.f f t2 a).bind fun b => (attestorref01_Pow.f k f b (rd [e0, e1, e2, e3] f)).bind fun c => (attestorref06_Constant.f k f n 2).bind fun d => (attestorref01_Sub.f f c d).bind fun v => attestorref06_back.l0 k f n 3 s0 s1 s2 s3 m0 m1 m2 m3 e0 e1 e2 e3 t0 t1 v t3 := by
  rw [attestorref06_back.l1, if_neg (by decide), if_pos (by decide), if_pos (by decide)]
  refine congrArg _ (funext fun a => congrArg _ (funext fun b => ?_))
  rw [if_pos h0, if_pos h4, v23]
  rfl
theorem bl0_3 (k : Nat) (f n s0 s1 s2 s3 m0 m1 m2 m3 e0 e1 e2 e3 t0 t1 t2 t3 : Int) : attestorref06_back.l0 (k + 1) f n 3 s0 s1 s2 s3 m0 m1 m2 m3 e0 e1 e2 e3 t0 t1 t2 t3 = attestorref06_back.l1 k f n 3 0 s0 s1 s2 s3 m0 m1 m2 m3 e0 e1 e2 e3 t0 t1 t2 t3 := by
  rw [attestorref06_back.l0, if_pos (by decide)]
theorem bl1_30 (k : Nat) (f n s0 s1 s2 s3 m0 m1 m2 m3 e0 e1 e2 e3 t0 t1 t2 t3 : Int) : attestorref06_back.l1 (k + 1) f n 3 0 s0 s1 s2 s3 m0 m1 m2 m3 e0 e1 e2 e3 t0 t1 t2 t3 = (attestorref01_Mul.f f m0 s3).bind fun c => (attestorref01_Add.f f t3 c).bind fun v => attestorref06_back.l1 k f n 3 1 s0 s1 s2 s3 m0 m1 m2 m3 e0 e1 e2 e3 t0 t1 t2 v := by
  rw [attestorref06_back.l1, if_pos (by decide), if_pos (by decide), if_pos (by decide), if_pos (by decide), y3_0, v01, if_pos (by decide), if_pos (by decide)]
  rfl
theorem bl1_31 (k : Nat) (f n s0 s1 s2 s3 m0 m1 m2 m3 e0 e1 e2 e3 t0 t1 t2 t3 : Int) : attestorref06_back.l1 (k + 1) f n 3 1 s0 s1 s2 s3 m0 m1 m2 m3 e0 e1 e2 e3 t0 t1 t2 t3 = (attestorref01_Mul.f f m1 s0).bind fun c => (attestorref01_Add.f f t3 c).bind fun v => attestorref06_back.l1 k f n 3 2 s0 s1 s2 s3 m0 m1 m2 m3 e0 e1 e2 e3 t0 t1 t2 v := by
  rw [attestorref06_back.l1, if_pos (by decide), if_pos (by decide), if_pos (by decide), if_pos (by decide), y3_1, v12, if_pos (by decide), if_pos (by decide)]
  rfl
theorem bl1_32 (k : Nat) (f n s0 s1 s2 s3 m0 m1 m2 m3 e0 e1 e2 e3 t0 t1 t2 t3 : Int) : attestorref06_back.l1 (k + 1) f n 3 2 s0 s1 s2 s3 m0 m1 m2 m3 e0 e1 e2 e3 t0 t1 t2 t3 = (attestorref01_Mul.f f m2 s1).bind fun c => (attestorref01_Add.f f t3 c).bind fun v => attestorref06_back.l1 k f n 3 3 s0 s1 s2 s3 m0 m1 m2 m3 e0 e1 e2 e3 t0 t1 t2 v := by
  rw [attestorref06_back.l1, if_pos (by decide), if_pos (by decide), if_pos (by decide), if_pos (by decide), y3_2, v23, if_pos (by decide), if_pos (by decide)]
  rfl
theorem bl1_33 (k : Nat) (f n s0 s1 s2 s3 m0 m1 m2 m3 e0 e1 e2 e3 t0 t1 t2 t3 : Int) : attestorref06_back.l1 (k + 1) f n 3 3 s0 s1 s2 s3 m0 m1 m2 m3 e0 e1 e2 e3 t0 t1 t2 t3 = (attestorref01_Mul.f f m3 s2).bind fun c => (attestorref01_Add.f f t3 c).bind fun v => attestorref06_back.l1 k f n 3 4 s0 s1 s2 s3 m0 m1 m2 m3 e0 e1 e2 e3 t0 t1 t2 v := by
  rw [attestorref06_back.l1, if_pos (by decide), if_pos (by decide), if_pos (by decide), if_pos (by decide), y3_3, v34, if_pos (by decide), if_pos (by decide)]
  rfl
theorem bl1_34 (k : Nat) (f n s0 s1 s2 s3 m0 m1 m2 m3 e0 e1 e2 e3 t0 t1 t2 t3 : Int) (h0 : 0 ≤ f) (h4 : f < 4) : attestorref06_back.l1 (k + 1) f n 3 4 s0 s1 s2 s3 m0 m1 m2 m3 e0 e1 e2 e3 t0 t1 t2 t3 = (attestorref01_Inv.f k f 35).bind fun a => (attestorref01_Mul.f f t3 a).bind fun b => (attestorref01_Pow.f k f b (rd [e0, e1, e2, e3] f)).bind fun c => (attestorref06_Constant.f k f n 3).bind fun d => (attestorref01_Sub.f f c d).bind fun v => attestorref06_back.l0 k f n 4 s0 s1 s2 s3 m0 m1 m2 m3 e0 e1 e2 e3 t0 t1 t2 v := by
  rw [attestorref06_back.l1, if_neg (by decide), if_pos (by decide), if_pos (by decide)]
  refine congrArg _ (funext fun a => congrArg _ (funext fun b => ?_))
  rw [if_pos h0, if_pos h4, v34]
  rfl
theorem bl0_4 (k : Nat) (f n s0 s1 s2 s3 m0 m1 m2 m3 e0 e1 e2 e3 t0 t1 t2 t3 : Int) : attestorref06_back.l0 (k + 1) f n 4 s0 s1 s2 s3 m0 m1 m2 m3 e0 e1 e2 e3 t0 t1 t2 t3 = some (t0, t1, t2, t3) := by
  rw [attestorref06_back.l0, if_neg (by decide)]
set_option maxRecDepth 100000 in
theorem rback_yes {f : Int} {p g e d : Nat} (D : Fd f p g e) (hf : (f = 0 ∧ d = 77) ∨ (f = 1 ∧ d = 171) ∨ (f = 2 ∧ d = 7373) ∨ (f = 3 ∧ d = 665496235)) (k n : Nat) (hk : 120 < k) (hn : n < 8) (t : S4) :
    attestorref06_back.f k f n t.a t.b t.c t.d = some (bk p g d (4 * n) t).o := by
  have p96 := D.p96
  obtain ⟨k, rfl⟩ : ∃ j, k = j + 40 := ⟨k - 40, by omega⟩
  have n4 : attestorref01_Neg.f f 4 = some ((p - 4 : Nat) : Int) := by
    have := rneg_f D.F 4
    rwa [Nat.mod_eq_of_lt (show 4 < p by omega), Nat.mod_eq_of_lt (show p - 4 < p by omega)] at this
  have n11 : attestorref01_Neg.f f 11 = some ((p - 11 : Nat) : Int) := by
    have := rneg_f D.F 11
    rwa [Nat.mod_eq_of_lt (show 11 < p by omega), Nat.mod_eq_of_lt (show p - 11 < p by omega)] at this
  have i35 : ∀ k, 70 < k → attestorref01_Inv.f k f 35 = some ((iv p 35 : Nat) : Int) := fun k hk => rinv_f D.F k 35 (by omega)
  have hd : d < 1073741824 := by omega
  have rp : ∀ k a : Nat, 60 < k → attestorref01_Pow.f k f a (rd [77, 171, 7373, 665496235] f) = some ((a ^ d % p : Nat) : Int) := fun k a hk => by rw [rd_undo hf]; exact rpow_f D.F 30 k a d hd (by omega) (by omega)
  have ra : ∀ a b : Nat, attestorref01_Add.f f a b = some (((a + b) % p : Nat) : Int) := fun a b => radd_f D.F a b
  have ra0 : ∀ b : Nat, attestorref01_Add.f f 0 b = some (((0 + b) % p : Nat) : Int) := fun b => radd_f D.F 0 b
  have m0 : ∀ a b : Nat, attestorref01_Mul.f f a b = some ((a * b % p : Nat) : Int) := fun a b => rmul_f D.F a b
  have m3 : ∀ b : Nat, attestorref01_Mul.f f 3 b = some ((3 * b % p : Nat) : Int) := fun b => rmul_f D.F 3 b
  have m17 : ∀ b : Nat, attestorref01_Mul.f f 17 b = some ((17 * b % p : Nat) : Int) := fun b => rmul_f D.F 17 b
  have rs : ∀ a b : Nat, attestorref01_Sub.f f a b = some ((sb p a b : Nat) : Int) := fun a b => rsub_f D.F a b
  have c0 : ∀ k, 66 < k → attestorref06_Constant.f k f n 0 = some ((cst p g (4 * n + 1) : Nat) : Int) := fun k hk => rconst_yes D k n 0 hk hn (by omega)
  have c1 : ∀ k, 66 < k → attestorref06_Constant.f k f n 1 = some ((cst p g (4 * n + 2) : Nat) : Int) := fun k hk => rconst_yes D k n 1 hk hn (by omega)
  have c2 : ∀ k, 66 < k → attestorref06_Constant.f k f n 2 = some ((cst p g (4 * n + 3) : Nat) : Int) := fun k hk => rconst_yes D k n 2 hk hn (by omega)
  have c3 : ∀ k, 66 < k → attestorref06_Constant.f k f n 3 = some ((cst p g (4 * n + 4) : Nat) : Int) := fun k hk => rconst_yes D k n 3 hk hn (by omega)
  have f0 := D.F.lo
  have f4 := D.F.hi
  unfold attestorref06_back.f
  refine bnd n4 (bnd n11 ?_)
  rw [bl0_0]
  rw [bl1_00]
  refine bnd (m0 _ _) (bnd (ra0 _) ?_)
  rw [bl1_01]
  refine bnd (m3 _) (bnd (ra _ _) ?_)
  rw [bl1_02]
  refine bnd (m0 _ _) (bnd (ra _ _) ?_)
  rw [bl1_03]
  refine bnd (m17 _) (bnd (ra _ _) ?_)
  rw [bl1_04 _ _ _ _ _ _ _ _ _ _ _ _ _ _ _ _ _ _ _ f0 f4]
  refine bnd (i35 _ (by omega)) (bnd (m0 _ _) (bnd (rp _ _ (by omega)) (bnd (c0 _ (by omega)) (bnd (rs _ _) ?_))))
  rw [bl0_1]
  rw [bl1_10]
  refine bnd (m0 _ _) (bnd (ra0 _) ?_)
  rw [bl1_11]
  refine bnd (m3 _) (bnd (ra _ _) ?_)
  rw [bl1_12]
  refine bnd (m0 _ _) (bnd (ra _ _) ?_)
  rw [bl1_13]
  refine bnd (m17 _) (bnd (ra _ _) ?_)
  rw [bl1_14 _ _ _ _ _ _ _ _ _ _ _ _ _ _ _ _ _ _ _ f0 f4]
  refine bnd (i35 _ (by omega)) (bnd (m0 _ _) (bnd (rp _ _ (by omega)) (bnd (c1 _ (by omega)) (bnd (rs _ _) ?_))))
  rw [bl0_2]
  rw [bl1_20]
  refine bnd (m0 _ _) (bnd (ra0 _) ?_)
  rw [bl1_21]
  refine bnd (m3 _) (bnd (ra _ _) ?_)
  rw [bl1_22]
  refine bnd (m0 _ _) (bnd (ra _ _) ?_)
  rw [bl1_23]
  refine bnd (m17 _) (bnd (ra _ _) ?_)
  rw [bl1_24 _ _ _ _ _ _ _ _ _ _ _ _ _ _ _ _ _ _ _ f0 f4]
  refine bnd (i35 _ (by omega)) (bnd (m0 _ _) (bnd (rp _ _ (by omega)) (bnd (c2 _ (by omega)) (bnd (rs _ _) ?_))))
  rw [bl0_3]
  rw [bl1_30]
  refine bnd (m0 _ _) (bnd (ra0 _) ?_)
  rw [bl1_31]
  refine bnd (m3 _) (bnd (ra _ _) ?_)
  rw [bl1_32]
  refine bnd (m0 _ _) (bnd (ra _ _) ?_)
  rw [bl1_33]
  refine bnd (m17 _) (bnd (ra _ _) ?_)
  rw [bl1_34 _ _ _ _ _ _ _ _ _ _ _ _ _ _ _ _ _ _ _ f0 f4]
  refine bnd (i35 _ (by omega)) (bnd (m0 _ _) (bnd (rp _ _ (by omega)) (bnd (c3 _ (by omega)) (bnd (rs _ _) ?_))))
  rw [bl0_4]
  simp only [Nat.zero_add, Nat.mod_mod, Nat.add_mod_mod, Nat.mod_add_mod, mm_]
  rfl
theorem rinv_l0 {f : Int} {p g e d : Nat} (D : Fd f p g e) (hf : (f = 0 ∧ d = 77) ∨ (f = 1 ∧ d = 171) ∨ (f = 2 ∧ d = 7373) ∨ (f = 3 ∧ d = 665496235)) (s : S4) : ∀ (m n k : Nat), n + m = 8 → 120 + m < k →
    attestorref06_Inverse.l0 k f ((m : Int) - 1) (inv p g d n s).a (inv p g d n s).b (inv p g d n s).c (inv p g d n s).d = some (inv p g d 8 s).o := by
  intro m
  induction m with
  | zero =>
    intro n k hn hk
    obtain rfl : n = 8 := by omega
    obtain ⟨k, rfl⟩ : ∃ j, k = j + 1 := ⟨k - 1, by omega⟩
    rw [attestorref06_Inverse.l0, if_neg (by omega)]
    rfl
  | succ m ih =>
    intro n k hn hk
    obtain ⟨k, rfl⟩ : ∃ j, k = j + 1 := ⟨k - 1, by omega⟩
    rw [attestorref06_Inverse.l0, if_pos (by omega), show (((m + 1 : Nat) : Int) - 1) = ((7 - n : Nat) : Int) by omega]
    refine bnd (rback_yes D hf k (7 - n) (by omega) (by omega) _) ?_
    rw [← inv_succ]
    simp only [S4.o]
    rw [wrapS (x := ((7 - n : Nat) : Int) - 1) (by omega) (by omega), show (((7 - n : Nat) : Int) - 1) = (m : Int) - 1 by omega]
    exact ih (n + 1) k (by omega) (by omega)
theorem rInverse_f {f : Int} {p g e d : Nat} (D : Fd f p g e) (hf : (f = 0 ∧ d = 77) ∨ (f = 1 ∧ d = 171) ∨ (f = 2 ∧ d = 7373) ∨ (f = 3 ∧ d = 665496235)) (k : Nat) (hk : 130 < k) (s : S4) : attestorref06_Inverse.f k f s.a s.b s.c s.d = some (inv p g d 8 s).o := by
  unfold attestorref06_Inverse.f
  refine bnd (rvalid_yes D.F) ?_
  rw [if_pos rfl]
  exact rinv_l0 D hf s 8 0 k rfl (by omega)
theorem perms_true (f a b c d : Int) (ha : 0 ≤ a) (hb : 0 ≤ b) (hc : 0 ≤ c) (hd : 0 ≤ d) : ∃ k, attestorlaw06_SpongePerms.f k f a b c d = some true := by
  obtain ⟨s, rfl, rfl, rfl, rfl⟩ := nat4 ha hb hc hd
  refine ⟨1073742000, ?_⟩
  unfold attestorlaw06_SpongePerms.f
  by_cases h : 0 ≤ f ∧ f < 4
  · obtain ⟨p, g, e, D⟩ := fd_of h.1 h.2
    obtain ⟨d, hx, hf⟩ := ex_of D
    refine bnd (Perm_f D _ (by omega) s) (bnd (rPerm_f D _ (by omega) s) ?_)
    rw [if_pos (by simp)]
    refine bnd (Inverse_f D hf s _ (by omega)) (bnd (rInverse_f D hf _ (by omega) s) ?_)
    rw [if_pos (by simp)]
    exact bnd (lives_true _ (by omega)) rfl
  · refine bnd (Perm_no _ h _ _ _ _) (bnd (rPerm_no _ h _ _ _ _) ?_)
    rw [if_pos (by simp)]
    have i1 : sponge_Inverse.f 1073742000 f s.a s.b s.c s.d = some (0, 0, 0, 0) := by
      unfold sponge_Inverse.f
      rw [valid_no h]
      rfl
    have i2 : attestorref06_Inverse.f 1073742000 f s.a s.b s.c s.d = some (0, 0, 0, 0) := by
      unfold attestorref06_Inverse.f
      rw [rvalid_no h]
      rfl
    refine bnd i1 (bnd i2 ?_)
    rw [if_pos (by simp)]
    exact bnd (lives_true _ (by omega)) rfl
end Go.Proofs.YtjfekjblnoagkaaDoor.Q
end
section
namespace Go.Proofs.YtjfekjblnoagkaaDoor.Q
open Go.ChangeShapes Go.WideShapes Go.ChangeAt Go.WideMaps Go.WideElems Go.RowKit
open Go.Proofs.YtjfekjblnoagkaaDoorW.PrintWords Go.Proofs.YtjfekjblnoagkaaDoorW.PrintLast Go.Proofs.YtjfekjblnoagkaaDoorW.PrintMore
open Go.Proofs.YtjfekjblnoagkaaDoor.Opn
set_option linter.unusedVariables false

theorem okWide_array_ {P : Program} {w : World} {r : Reach} {base : Nat} {t : TypeId} {v : Value} {n : Nat} {e : TypeId} (ht : P.underlying t = some (.array n e)) (h : Value.okWide P w r base t v) : ∃ cs, v = .agg cs ∧ cs.size = P.cellsOf t := by
  simp only [Value.okWide, ht] at h
  obtain ⟨cs, h1, h2, _⟩ := h
  exact ⟨cs, h1, h2⟩
set_option maxRecDepth 100000 in
theorem spongePerms_lifted (os : Os) (started : os.Started) (H : Type) (enc : TypeId × Value → H) :
    ReturnsInHanded {} Tryd.checked os 8 .any (fun w args => (Rows.spongePermsSpec.pre enc Tryd.prog Tryd.f8 [] false w args ∧ laidMetH Tryd.prog laid1 w) ∧ sizedMet enc Tryd.prog Tryd.f8 (OpenSpec.ofChange Rows.spongePermsSpec) false w args)
      (Rows.spongePermsSpec.post enc Tryd.prog Tryd.f8 false true false false) := by
  refine returnsInHanded_of_change_and (C := Tryd.checked) (X := (fun w _ => laidMetH Tryd.prog laid1 w)) (fun _ _ _ hh h => h.of_heap hh) own started (by kernel_rfl) Tryd.func8
    (ChangeSpec.witness_shaped (enc := enc) (C := Tryd.checked) (os := os) (X := (fun w _ => laidMetH Tryd.prog laid1 w)) false (World.doorLaid Tryd.prog 400 os) #[.int .i64 0, .agg #[.int .u64 0, .int .u64 0, .int .u64 0, .int .u64 0]] 8 rfl (World.shaped_of_RefB (by kernel_rfl) (by kernel_rfl)) (by kernel_rfl) (by kernel_rfl) (by kernel_rfl) (door_met os _)) ?_
  intro W base args ds gs before hval0 hW _ _ hL _
  have hval : ∀ (j : Nat) t v, Tryd.f8.params[j]? = some t → args[j]? = some v → Value.okWide Tryd.prog W .any base t v := hval0
  have hW' := hW
  obtain ⟨p, q, hA0, hV, rfl, hfz, hnd⟩ := hW
  have hA : DataW.TrodAll enc Tryd.prog W 0 (fun _ => true) true Tryd.f8.params.toList args.toList ds p := hA0
  rw [Tryd.params8] at hA hval
  obtain ⟨v0, vs0, d0, ds0, p0, q0, hargs, rfl, rfl, h0, r0⟩ := trodAll_cons hA
  obtain ⟨v1, vs1, d1, ds1, p1, q1, rfl, rfl, rfl, h1, r1⟩ := trodAll_cons r0
  obtain ⟨rfl, rfl, rfl⟩ := trodAll_nil r1
  obtain rfl : args = #[v0, v1] := by cases args; simp_all
  obtain ⟨rfl, rfl⟩ := trodVars_none hV
  obtain ⟨a0, rfl, rfl, rfl, w0⟩ := open_int Tryd.underlying3 (hval 0 3 v0 rfl rfl) h0
  have k1 := h1
  have lt1 : ∀ x ∈ p1, x.block < W.heap.size := by obtain ⟨m, hm⟩ := k1; exact DataW.trod_lt m _ _ _ hm
  obtain ⟨cs1, rfl, _⟩ := okWide_array_ Tryd.underlying23 (hval 1 23 v1 rfl rfl)
  obtain ⟨m1, hm1⟩ := h1
  obtain ⟨a1_0, a1_1, a1_2, a1_3, hcs1, w1_0, w1_1, w1_2, w1_3⟩ := flat23 m1 _ _ hm1
  obtain rfl : cs1 = #[.int .u64 a1_0, .int .u64 a1_1, .int .u64 a1_2, .int .u64 a1_3] := by cases cs1; simp only [Value.cells] at hcs1; subst hcs1; rfl
  clear hA0 hval0
  refine (attestorlaw06_SpongePerms.calls _ a0 a1_0 a1_1 a1_2 a1_3 true W (gl_of_laid hL) (perms_true a0 a1_0 a1_1 a1_2 a1_3 (wf_u64 w1_0).1 (wf_u64 w1_1).1 (wf_u64 w1_2).1 (wf_u64 w1_3).1).choose_spec).mono fun e W' ⟨he, bel⟩ => ?_
  subst he
  exact ⟨_, rfl, _, _, _, [], _, [], hW', trodAll_mk1 (shut_bool Tryd.underlying4 _), (trodAll_cons_mk (shut_int Tryd.underlying3 w0) (trodAll_cons_mk (Below.trod laidOut (by kernel_rfl) (of_decide_eq_true (by kernel_rfl)) k1 bel lt1) trodAll_mk0)), rfl, bel.frame _, fun h => by cases h⟩
theorem spongePerms_row : Rows.SpongePermsSaid :=
  OpenClaim.holds_of_wide 8 Tryd.f8 rfl rfl rfl rfl rfl rfl rfl ⟨rfl, rfl, rfl, rfl, rfl⟩ rfl rfl rfl rfl rfl (by kernel_rfl) Tryd.func8 (by kernel_rfl)
    (of_decide_eq_true (by kernel_rfl)) (by unfold Func.isWrapper; first | (rw [if_pos (by decide +kernel)]; kernel_rfl) | (rw [if_neg (by decide +kernel)]; exact ⟨rfl, rfl⟩))
    (fun os started H enc _ => spongePerms_lifted os started H enc)
theorem spongePerms_card : Rows.SpongePermsCardSaid :=
  Claim7.holds_tied_plain_at .later [] [.widerDeep, .data] true Rows.spongePermsCard.stood.harness false
    spongePerms_row (fun _ h => by cases h) (by kernel_rfl) (fun _ h => by cases h) spongePerms_row_tie rfl ⟨rfl, rfl⟩ (by kernel_rfl) rfl
    (fun f fn hf hfn => by
      obtain rfl : f = 8 := Option.some.inj ((show Tryd.prog.funcNamed "attestor/attestorlaw06.SpongePerms" = some 8 by kernel_rfl).symm.trans hf) |>.symm
      obtain rfl : fn = Tryd.f8 := (Option.some.inj (Tryd.func8.symm.trans hfn)).symm
      exact ⟨by kernel_rfl, fun j t ht => by
        rw [Tryd.params8] at ht
        have hm : t ∈ [3, 23] := by simpa using Array.mem_of_getElem? ht
        have hall : ([3, 23].all fun u => !Tryd.prog.wantsStandIn u) = true := by kernel_rfl
        exact (show Tryd.prog.wantsStandIn t = false by simpa using List.all_eq_true.1 hall t hm)⟩)
    (by kernel_rfl)
end Go.Proofs.YtjfekjblnoagkaaDoor.Q
namespace Go.Proofs.YtjfekjblnoagkaaDoor
/-- Under a short name, for the claim. -/
theorem spongePerms_holds : Rows.SpongePermsCardSaid := Q.spongePerms_card
end Go.Proofs.YtjfekjblnoagkaaDoor
#print axioms Go.Proofs.YtjfekjblnoagkaaDoor.spongePerms_holds
end
