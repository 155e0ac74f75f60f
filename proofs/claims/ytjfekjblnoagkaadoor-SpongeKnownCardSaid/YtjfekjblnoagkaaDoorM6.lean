/- Several texts in one, in build order. What they prove, each by its own first remark:
Written by our own copy of a printing program (a twelfth state) out of the translation. Not trusted: Lean checks it. -/
import Derived.Test.YtjfekjblnoagkaaDoorM2
import Derived.Test.YtjfekjblnoagkaaDoorM5
import Derived.Test.YtjfekjblnoagkaaDoorM4
section
namespace Go.Proofs.YtjfekjblnoagkaaDoor.Q
open Go.RowKit Go.Proofs.YtjfekjblnoagkaaDoorW.PrintWords Go.Proofs.YtjfekjblnoagkaaDoorW.PrintLast Go.Proofs.YtjfekjblnoagkaaDoorW.PrintMore
attribute [local go_sem] max2_int min2_int max_two min_two max_three min_three max_four min_four   -- for this text's walks alone
set_option linter.unusedVariables false
set_option linter.unusedSimpArgs false

abbrev z25_0_ : Array Bool := #[false, false, false, false, false, false, false, false, false, false, false, false, false, false, false, false, false]
abbrev z25_1_ : Array Bool := #[true, false, false, false, false, false, false, false, false, false, false, false, false, false, false, false, false]
abbrev z25_2_ : Array Bool := #[true, true, false, false, false, false, false, false, false, false, false, false, false, false, false, false, false]
abbrev z25_3_ : Array Bool := #[true, true, true, false, false, false, false, false, false, false, false, false, false, false, false, false, false]
abbrev z25_4_ : Array Bool := #[true, true, true, true, false, false, false, false, false, false, false, false, false, false, false, false, false]
abbrev z25_5_ : Array Bool := #[true, true, true, true, true, false, false, false, false, false, false, false, false, false, false, false, false]
abbrev z25_6_ : Array Bool := #[true, true, true, true, true, false, true, false, false, false, false, false, false, false, false, false, false]
abbrev z25_7_ : Array Bool := #[true, true, true, true, true, false, true, true, false, false, false, false, false, false, false, false, false]
abbrev z25_8_ : Array Bool := #[true, true, true, true, true, false, true, true, false, false, true, false, false, false, false, false, false]
abbrev z25_9_ : Array Bool := #[true, true, true, true, true, false, true, true, false, false, true, true, false, false, false, false, false]
abbrev z25_10_ : Array Bool := #[true, true, true, true, true, false, true, true, false, false, true, true, true, false, false, false, false]
abbrev z25_11_ : Array Bool := #[true, true, true, true, true, true, true, true, false, false, true, true, true, false, false, false, false]
abbrev z25_12_ : Array Bool := #[true, true, true, true, true, true, true, true, true, false, true, true, true, false, false, false, false]
abbrev z25_13_ : Array Bool := #[true, true, true, true, true, true, true, true, true, true, true, true, true, false, false, false, false]
abbrev z25_14_ : Array Bool := #[true, true, true, true, true, true, true, true, true, true, true, true, true, true, false, false, false]
abbrev z25_15_ : Array Bool := #[true, true, true, true, true, true, true, true, true, true, true, true, true, true, true, false, false]
abbrev z25_16_ : Array Bool := #[true, true, true, true, true, true, true, true, true, true, true, true, true, true, true, true, false]
abbrev z25_17_ : Array Bool := #[true, true, true, true, true, true, true, true, true, true, true, true, true, true, true, true, true]
/-! ### sponge_Inverse: function 25 -/
mutual
def sponge_Inverse.l0 : Nat → Int → Int → Int → Int → Int → Int → Option (Int × Int × Int × Int)
  | 0, _, _, _, _, _, _ => none
  | k + 1, x0, x12, x292000, x292001, x292002, x292003 => if x12 < 8 then ((sponge_gather.f k x0 x292000 x292001 x292002 x292003).bind fun bt294 => (sponge_Inverse.l1 k x0 (wrap64 (7 - x12)) x12 0 bt294.1 bt294.2.1 bt294.2.2.1 bt294.2.2.2)) else (some (x292000, x292001, x292002, x292003))
def sponge_Inverse.l1 : Nat → Int → Int → Int → Int → Int → Int → Int → Int → Option (Int × Int × Int × Int)
  | 0, _, _, _, _, _, _, _, _ => none
  | k + 1, x0, x6, x12, x20, x292000, x292001, x292002, x292003 => if x20 < 4 then (if 0 ≤ x20 then (if x20 = 0 then (if 0 ≤ x0 then (if x0 = 0 then ((field_Pow.f k x0 x292000 77).bind fun t298 => ((sponge_Constant.f k x0 x6 x20).bind fun t299 => ((field_Sub.f x0 t298 t299).bind fun t300 => (sponge_Inverse.l1 k x0 x6 x12 (wrap64 (x20 + 1)) t300 x292001 x292002 x292003)))) else (if x0 = 1 then ((field_Pow.f k x0 x292000 171).bind fun t301 => ((sponge_Constant.f k x0 x6 x20).bind fun t302 => ((field_Sub.f x0 t301 t302).bind fun t303 => (sponge_Inverse.l1 k x0 x6 x12 (wrap64 (x20 + 1)) t303 x292001 x292002 x292003)))) else (if x0 = 2 then ((field_Pow.f k x0 x292000 7373).bind fun t304 => ((sponge_Constant.f k x0 x6 x20).bind fun t305 => ((field_Sub.f x0 t304 t305).bind fun t306 => (sponge_Inverse.l1 k x0 x6 x12 (wrap64 (x20 + 1)) t306 x292001 x292002 x292003)))) else (if x0 = 3 then ((field_Pow.f k x0 x292000 665496235).bind fun t307 => ((sponge_Constant.f k x0 x6 x20).bind fun t308 => ((field_Sub.f x0 t307 t308).bind fun t309 => (sponge_Inverse.l1 k x0 x6 x12 (wrap64 (x20 + 1)) t309 x292001 x292002 x292003)))) else (none))))) else (none)) else (if x20 = 1 then (if 0 ≤ x0 then (if x0 = 0 then ((field_Pow.f k x0 x292001 77).bind fun t310 => ((sponge_Constant.f k x0 x6 x20).bind fun t311 => ((field_Sub.f x0 t310 t311).bind fun t312 => (sponge_Inverse.l1 k x0 x6 x12 (wrap64 (x20 + 1)) x292000 t312 x292002 x292003)))) else (if x0 = 1 then ((field_Pow.f k x0 x292001 171).bind fun t313 => ((sponge_Constant.f k x0 x6 x20).bind fun t314 => ((field_Sub.f x0 t313 t314).bind fun t315 => (sponge_Inverse.l1 k x0 x6 x12 (wrap64 (x20 + 1)) x292000 t315 x292002 x292003)))) else (if x0 = 2 then ((field_Pow.f k x0 x292001 7373).bind fun t316 => ((sponge_Constant.f k x0 x6 x20).bind fun t317 => ((field_Sub.f x0 t316 t317).bind fun t318 => (sponge_Inverse.l1 k x0 x6 x12 (wrap64 (x20 + 1)) x292000 t318 x292002 x292003)))) else (if x0 = 3 then ((field_Pow.f k x0 x292001 665496235).bind fun t319 => ((sponge_Constant.f k x0 x6 x20).bind fun t320 => ((field_Sub.f x0 t319 t320).bind fun t321 => (sponge_Inverse.l1 k x0 x6 x12 (wrap64 (x20 + 1)) x292000 t321 x292002 x292003)))) else (none))))) else (none)) else (if x20 = 2 then (if 0 ≤ x0 then (if x0 = 0 then ((field_Pow.f k x0 x292002 77).bind fun t322 => ((sponge_Constant.f k x0 x6 x20).bind fun t323 => ((field_Sub.f x0 t322 t323).bind fun t324 => (sponge_Inverse.l1 k x0 x6 x12 (wrap64 (x20 + 1)) x292000 x292001 t324 x292003)))) else (if x0 = 1 then ((field_Pow.f k x0 x292002 171).bind fun t325 => ((sponge_Constant.f k x0 x6 x20).bind fun t326 => ((field_Sub.f x0 t325 t326).bind fun t327 => (sponge_Inverse.l1 k x0 x6 x12 (wrap64 (x20 + 1)) x292000 x292001 t327 x292003)))) else (if x0 = 2 then ((field_Pow.f k x0 x292002 7373).bind fun t328 => ((sponge_Constant.f k x0 x6 x20).bind fun t329 => ((field_Sub.f x0 t328 t329).bind fun t330 => (sponge_Inverse.l1 k x0 x6 x12 (wrap64 (x20 + 1)) x292000 x292001 t330 x292003)))) else (if x0 = 3 then ((field_Pow.f k x0 x292002 665496235).bind fun t331 => ((sponge_Constant.f k x0 x6 x20).bind fun t332 => ((field_Sub.f x0 t331 t332).bind fun t333 => (sponge_Inverse.l1 k x0 x6 x12 (wrap64 (x20 + 1)) x292000 x292001 t333 x292003)))) else (none))))) else (none)) else (if x20 = 3 then (if 0 ≤ x0 then (if x0 = 0 then ((field_Pow.f k x0 x292003 77).bind fun t334 => ((sponge_Constant.f k x0 x6 x20).bind fun t335 => ((field_Sub.f x0 t334 t335).bind fun t336 => (sponge_Inverse.l1 k x0 x6 x12 (wrap64 (x20 + 1)) x292000 x292001 x292002 t336)))) else (if x0 = 1 then ((field_Pow.f k x0 x292003 171).bind fun t337 => ((sponge_Constant.f k x0 x6 x20).bind fun t338 => ((field_Sub.f x0 t337 t338).bind fun t339 => (sponge_Inverse.l1 k x0 x6 x12 (wrap64 (x20 + 1)) x292000 x292001 x292002 t339)))) else (if x0 = 2 then ((field_Pow.f k x0 x292003 7373).bind fun t340 => ((sponge_Constant.f k x0 x6 x20).bind fun t341 => ((field_Sub.f x0 t340 t341).bind fun t342 => (sponge_Inverse.l1 k x0 x6 x12 (wrap64 (x20 + 1)) x292000 x292001 x292002 t342)))) else (if x0 = 3 then ((field_Pow.f k x0 x292003 665496235).bind fun t343 => ((sponge_Constant.f k x0 x6 x20).bind fun t344 => ((field_Sub.f x0 t343 t344).bind fun t345 => (sponge_Inverse.l1 k x0 x6 x12 (wrap64 (x20 + 1)) x292000 x292001 x292002 t345)))) else (none))))) else (none)) else (none))))) else (none)) else (sponge_Inverse.l0 k x0 (wrap64 (x12 + 1)) x292000 x292001 x292002 x292003)
end
def sponge_Inverse.f (k : Nat) (a0 : Int) (a1_0 : Int) (a1_1 : Int) (a1_2 : Int) (a1_3 : Int) : Option (Int × Int × Int × Int) := (field_Valid.f a0).bind fun t293 => (if t293 = true then (sponge_Inverse.l0 k a0 0 a1_0 a1_1 a1_2 a1_3) else (some (0, 0, 0, 0)))
theorem sponge_Inverse.mono_l : ∀ k, (∀ y0 y1 y2 y3 y4 y5, LeO (sponge_Inverse.l0 k y0 y1 y2 y3 y4 y5) (sponge_Inverse.l0 (k + 1) y0 y1 y2 y3 y4 y5)) ∧ (∀ y0 y1 y2 y3 y4 y5 y6 y7, LeO (sponge_Inverse.l1 k y0 y1 y2 y3 y4 y5 y6 y7) (sponge_Inverse.l1 (k + 1) y0 y1 y2 y3 y4 y5 y6 y7))
  | 0 => ⟨fun _ _ _ _ _ _ r h => by simp [sponge_Inverse.l0] at h, fun _ _ _ _ _ _ _ _ r h => by simp [sponge_Inverse.l1] at h⟩
  | k + 1 => by
    obtain ⟨ih0, ih1⟩ := sponge_Inverse.mono_l k
    refine ⟨?_, ?_⟩
    · intro y0 y1 y2 y3 y4 y5
      unfold sponge_Inverse.l0
      repeat' first
      | (with_reducible exact ih0 _ _ _ _ _ _)
      | (with_reducible exact ih1 _ _ _ _ _ _ _ _)
      | (with_reducible exact field_Pow.mono _ _ _ _)
      | (with_reducible exact sponge_Constant.mono _ _ _ _)
      | (with_reducible exact sponge_gather.mono _ _ _ _ _ _)
      | (with_reducible exact LeO.refl _)
      | (with_reducible exact LeO.none _)
      | (with_reducible refine LeO.ite ?_ ?_)
      | (with_reducible refine LeO.bind ?_ (fun _ => ?_))
      | exact ih0 _ _ _ _ _ _
      | exact ih1 _ _ _ _ _ _ _ _
      | exact field_Pow.mono _ _ _ _
      | exact sponge_Constant.mono _ _ _ _
      | exact sponge_gather.mono _ _ _ _ _ _
      | exact LeO.none _
      | refine LeO.ite ?_ ?_
      | refine LeO.bind ?_ (fun _ => ?_)
    · intro y0 y1 y2 y3 y4 y5 y6 y7
      unfold sponge_Inverse.l1
      repeat' first
      | (with_reducible exact ih0 _ _ _ _ _ _)
      | (with_reducible exact ih1 _ _ _ _ _ _ _ _)
      | (with_reducible exact field_Pow.mono _ _ _ _)
      | (with_reducible exact sponge_Constant.mono _ _ _ _)
      | (with_reducible exact sponge_gather.mono _ _ _ _ _ _)
      | (with_reducible exact LeO.refl _)
      | (with_reducible exact LeO.none _)
      | (with_reducible refine LeO.ite ?_ ?_)
      | (with_reducible refine LeO.bind ?_ (fun _ => ?_))
      | exact ih0 _ _ _ _ _ _
      | exact ih1 _ _ _ _ _ _ _ _
      | exact field_Pow.mono _ _ _ _
      | exact sponge_Constant.mono _ _ _ _
      | exact sponge_gather.mono _ _ _ _ _ _
      | exact LeO.none _
      | refine LeO.ite ?_ ?_
      | refine LeO.bind ?_ (fun _ => ?_)
theorem sponge_Inverse.mono : ∀ a0 a1 a2 a3 a4 k, LeO (sponge_Inverse.f k a0 a1 a2 a3 a4) (sponge_Inverse.f (k + 1) a0 a1 a2 a3 a4) := by
  intro a0 a1 a2 a3 a4 k
  obtain ⟨ih0, ih1⟩ := sponge_Inverse.mono_l k
  unfold sponge_Inverse.f
  repeat' first
      | (with_reducible exact ih0 _ _ _ _ _ _)
      | (with_reducible exact ih1 _ _ _ _ _ _ _ _)
      | (with_reducible exact field_Pow.mono _ _ _ _)
      | (with_reducible exact sponge_Constant.mono _ _ _ _)
      | (with_reducible exact sponge_gather.mono _ _ _ _ _ _)
      | (with_reducible exact LeO.refl _)
      | (with_reducible exact LeO.none _)
      | (with_reducible refine LeO.ite ?_ ?_)
      | (with_reducible refine LeO.bind ?_ (fun _ => ?_))
      | exact ih0 _ _ _ _ _ _
      | exact ih1 _ _ _ _ _ _ _ _
      | exact field_Pow.mono _ _ _ _
      | exact sponge_Constant.mono _ _ _ _
      | exact sponge_gather.mono _ _ _ _ _ _
      | exact LeO.none _
      | refine LeO.ite ?_ ?_
      | refine LeO.bind ?_ (fun _ => ?_)
def sponge_Inverse.T11 : Bool × List (List Nat × List Nat) := (true, [([], []), ([], []), ([], []), ([], []), ([3], [3]), ([4], [4]), ([], []), ([6], [6]), ([7], [7]), ([2, 5, 8], [2, 5, 8]), ([], []), ([], []), ([], []), ([10, 11, 12, 9], [10, 11, 12]), ([1, 9, 13, 13], [1, 9, 13]), ([0, 0, 1, 2, 3, 4, 5, 6, 7, 8, 9, 10, 11, 12, 13, 14], [0]), ([15, 14, 14, 0, 1, 2, 3, 4, 5, 6, 7, 8, 9, 10, 11, 12, 13, 14], [14, 15])])
def sponge_Inverse.B11 : List Nat := [0, 0, 0, 0, 8, 24, 0, 64, 192, 508, 0, 0, 0, 8188, 16382, 32767, 65535]
theorem sponge_Inverse.tab11 : rtab .any (opsOf Tryd.f25 11) = sponge_Inverse.T11 := by kernel_rfl
theorem sponge_Inverse.bits11 : waitsOk sponge_Inverse.T11.2 sponge_Inverse.B11 = true := by kernel_rfl
set_option maxHeartbeats 8000000 in
set_option maxRecDepth 100000 in
theorem sponge_Inverse.calls (k : Nat) (a0 : Int) (a1_0 : Int) (a1_1 : Int) (a1_2 : Int) (a1_3 : Int) (r1 : Int) (r2 : Int) (r3 : Int) (r4 : Int) (w : World) (hrG : GL w) (h : sponge_Inverse.f k a0 a1_0 a1_1 a1_2 a1_3 = some (r1, r2, r3, r4)) :
  Calls Tryd.prog 25 #[.int .i64 a0, .agg #[.int .u64 a1_0, .int .u64 a1_1, .int .u64 a1_2, .int .u64 a1_3]] w fun e w' => e = .returned (.agg #[.int .u64 r1, .int .u64 r2, .int .u64 r3, .int .u64 r4]) ∧ Below w.heap.size w w' := by
 have hu23 := Tryd.underlying23
 have HRG := Aside0.mk hrG
 clear hrG
 have HB := Aside0.mk (Below.refl w.heap.size w)
 have H : ((field_Valid.f a0).bind fun t293 => (if t293 = true then (sponge_Inverse.l0 k a0 0 a1_0 a1_1 a1_2 a1_3) else (some (0, 0, 0, 0)))) = some (r1, r2, r3, r4) := h
 clear h
 replace H := Option.bind_eq_some_iff.mp H
 obtain ⟨t293, A30, H⟩ := H
 replace H : (if t293 = true then (sponge_Inverse.l0 k a0 0 a1_0 a1_1 a1_2 a1_3) else (some (0, 0, 0, 0))) = some (r1, r2, r3, r4) := H
 have A3 := Aside0.mk A30
 clear A30
 by_cases c4 : t293 = true
 ·subst c4
  have H1 : (sponge_Inverse.l0 k a0 0 a1_0 a1_1 a1_2 a1_3) = some (r1, r2, r3, r4) := by rw [if_pos rfl] at H; exact H
  clear H
  have H := H1
  clear H1
  have H' := Aside0.mk H
  clear H
  go_enter Tryd.func25, Tryd.ntmps25
  go_wp2_with (first | ((with_reducible refine gate_dst (N := 3) rfl ?_); refine box_event ?hg (N := 3) ?hd (cs := #[.int .u64 a1_0, .int .u64 a1_1, .int .u64 a1_2, .int .u64 a1_3]) (t := 23) ?hr ?_; (case hd => rfl); (case hg => rfl); (case hr => first | (go_simp; done) | (go_simp; rfl)); intro g291 hg w5 hbox hb; have n0_ := Aside0.mk (below_step (by repeat (first | (with_reducible first | exact HB.out | apply below_alloc | apply pw_below_drewN | apply below_drew1) | exact HB.out)) hb); have n1_ := Aside0.mk (hbox); have n2_ := Aside0.mk ((by rw [hg]; exact (below_size (by repeat (first | (with_reducible first | exact HB.out | apply below_alloc | apply pw_below_drewN | apply below_drew1) | exact HB.out))) : w.heap.size ≤ g291)); have n3_ := Aside0.mk ((by rw [hg]; exact (below_size (by repeat (first | (with_reducible first | exact HB.out | apply below_alloc | apply pw_below_drewN | apply below_drew1) | exact HB.out))) : w.heap.size ≤ g291)); clear HB; have HB := n0_; have B291 := n1_; have GW291 := n2_; have GE291 := n3_; clear n0_ n1_ n2_ n3_; clear hb hbox hg) | ((with_reducible refine gate_dst (N := 4) rfl ?_); refine box_event ?hg (N := 4) ?hd (cs := #[.int .u64 0, .int .u64 0, .int .u64 0, .int .u64 0]) (t := 23) ?hr ?_; (case hd => rfl); (case hg => rfl); (case hr => first | (go_simp; done) | (go_simp; rfl)); intro g292 hg w6 hbox hb; have n0_ := Aside0.mk (blk_below (g := g291) (o := .cells #[.int .u64 a1_0, .int .u64 a1_1, .int .u64 a1_2, .int .u64 a1_3] 23 (0, 0)) (by (with_reducible repeat first | refine blk_drewN ?_ _ | refine blk_drew ?_ | refine blk_alloc ?_ _); exact B291.out) hb); have n1_ := Aside0.mk (below_step (by repeat (first | (with_reducible first | exact HB.out | apply below_alloc | apply pw_below_drewN | apply below_drew1 | refine below_set ?_ GE291.out) | exact HB.out)) hb); have n2_ := Aside0.mk (hbox); have n3_ := Aside0.mk ((by rw [hg]; exact (below_size (by repeat (first | (with_reducible first | exact HB.out | apply below_alloc | apply pw_below_drewN | apply below_drew1 | refine below_set ?_ GE291.out) | exact HB.out))) : w.heap.size ≤ g292)); have n4_ := Aside0.mk ((by rw [hg]; exact (below_size (by repeat (first | (with_reducible first | exact HB.out | apply below_alloc | apply pw_below_drewN | apply below_drew1 | refine below_set ?_ GE291.out) | exact HB.out))) : w.heap.size ≤ g292)); have n5_ := Aside0.mk ((by rw [hg]; exact Nat.ne_of_lt (blk_lt (g := g291) (o := .cells #[.int .u64 a1_0, .int .u64 a1_1, .int .u64 a1_2, .int .u64 a1_3] 23 (0, 0)) (by (with_reducible repeat first | refine blk_drewN ?_ _ | refine blk_drew ?_ | refine blk_alloc ?_ _); exact B291.out)) : g291 ≠ g292)); have n6_ := Aside0.mk ((by rw [hg]; exact Nat.ne_of_gt (blk_lt (g := g291) (o := .cells #[.int .u64 a1_0, .int .u64 a1_1, .int .u64 a1_2, .int .u64 a1_3] 23 (0, 0)) (by (with_reducible repeat first | refine blk_drewN ?_ _ | refine blk_drew ?_ | refine blk_alloc ?_ _); exact B291.out)) : g292 ≠ g291)); clear B291; clear HB; have B291 := n0_; have HB := n1_; have B292 := n2_; have GW292 := n3_; have GE292 := n4_; have NB291_292 := n5_; have NB292_291 := n6_; clear n0_ n1_ n2_ n3_ n4_ n5_ n6_; clear hb hbox hg) | ((with_reducible refine gate_callee (f := 41) rfl ?_); refine goesL_ (some 9) rfl rfl Tryd.func41 (by kernel_rfl) rfl #[.int .i64 a0] rfl (by (try simp only [List.map_toArray, List.map_cons, List.map_nil]); first | done | rfl) ?_; (with_reducible refine (field_Valid.calls a0 true _ A3.out).mono ?_); rintro e w' ⟨rfl, ⟨nd, rfl⟩⟩; refine ⟨_, rfl, ?_⟩))
  go_loopg [12] k (fun kq v12 w' => ∃ (x12_1 : Int) (x292000_1 : Int) (x292001_1 : Int) (x292002_1 : Int) (x292003_1 : Int), v12 = .int .i64 x12_1 ∧ Aside0 (sponge_Inverse.l0 kq a0 x12_1 x292000_1 x292001_1 x292002_1 x292003_1 = some (r1, r2, r3, r4)) ∧ Aside0 (kq ≤ k) ∧ Aside0 (w'.heap[g291]? = some (.cells #[.int .u64 x292000_1, .int .u64 x292001_1, .int .u64 x292002_1, .int .u64 x292003_1] 23 (0, 0))) ∧ Aside0 (w'.heap[g292]? = some (.cells #[.int .u64 0, .int .u64 0, .int .u64 0, .int .u64 0] 23 (0, 0))) ∧ Aside0 (Below w.heap.size w w'))
  case atStart => exact ⟨(0), (a1_0), (a1_1), (a1_2), (a1_3), (by first | rfl | (simp; done) | (simp [*]; done) | (simp; rfl) | (simp; decide +kernel)), H', ⟨Nat.le_refl _⟩, ⟨by (with_reducible repeat first | refine blk_drewN ?_ _ | refine blk_drew ?_ | refine blk_alloc ?_ _); exact B291.out⟩, ⟨by (with_reducible repeat first | refine blk_drewN ?_ _ | refine blk_drew ?_ | refine blk_alloc ?_ _); exact B292.out⟩, ⟨by repeat (first | (with_reducible first | exact HB.out | apply below_alloc | apply pw_below_drewN | apply below_drew1 | refine below_set ?_ GE291.out | refine below_set ?_ GE292.out) | exact HB.out)⟩⟩
  case round =>
   clear H'
   try clear c2
   try clear p2
   try clear c4
   obtain ⟨x12_1, x292000_1, x292001_1, x292002_1, x292003_1, rfl, HA, HK1, B291, B292, HB⟩ := hrel
   cases gk with
   | zero => exact absurd HA.out (by simp [sponge_Inverse.l0])
   | succ k1 =>
    have H := HA.out
    clear HA
    simp only [sponge_Inverse.l0] at H
    by_cases c7 : x12_1 < 8
    ·rw [if_pos c7] at H
     have c7b0 : decide (x12_1 < 8) = true := decide_eq_true c7
     clear c7
     replace H := Option.bind_eq_some_iff.mp H
     obtain ⟨⟨t294, t295, t296, t297⟩, A80, H⟩ := H
     replace H : (sponge_Inverse.l1 k1 a0 (wrap64 (7 - x12_1)) x12_1 0 t294 t295 t296 t297) = some (r1, r2, r3, r4) := H
     have A8 := Aside0.mk A80
     clear A80
     have H' := Aside0.mk H
     clear H
     have hnb9 := NB291_292.out
     have hnc9 := NB292_291.out
     have hcz10_0 : wr.cell? ⟨g291, 0, none⟩ = some (.int .u64 x292000_1) := bq_ B291 0
     have hcz10_1 : wr.cell? ⟨g291, 1, none⟩ = some (.int .u64 x292001_1) := bq_ B291 1
     have hcz10_2 : wr.cell? ⟨g291, 2, none⟩ = some (.int .u64 x292002_1) := bq_ B291 2
     have hcz10_3 : wr.cell? ⟨g291, 3, none⟩ = some (.int .u64 x292003_1) := bq_ B291 3
     have hfz10_0 := blk_frozen B291.out 0
     have hfz10_1 := blk_frozen B291.out 1
     have hfz10_2 := blk_frozen B291.out 2
     have hfz10_3 := blk_frozen B291.out 3
     go_wp2_with (first | ((with_reducible refine gate_callee (f := 44) rfl ?_); refine goesL_ (some 19) rfl rfl Tryd.func44 (by kernel_rfl) rfl #[.int .i64 a0, .agg #[.int .u64 x292000_1, .int .u64 x292001_1, .int .u64 x292002_1, .int .u64 x292003_1]] rfl (by (try simp only [List.map_toArray, List.map_cons, List.map_nil]); first | done | rfl) ?_; (with_reducible refine (sponge_gather.calls k1 a0 x292000_1 x292001_1 x292002_1 x292003_1 t294 t295 t296 t297 _ ?side1 A8.out).mono ?_); (case side1 => repeat (first | exact (GL.below HRG.out HB.out) | (with_reducible refine GL.alloc ?_ _) | (with_reducible refine GL.drewN ?_ _) | (with_reducible refine GL.drew ?_))); rintro e w11 ⟨rfl, hb⟩; refine ⟨_, rfl, ?_⟩; have n0_ := Aside0.mk (blk_below (g := g291) (o := .cells #[.int .u64 x292000_1, .int .u64 x292001_1, .int .u64 x292002_1, .int .u64 x292003_1] 23 (0, 0)) (by (with_reducible repeat first | refine blk_drewN ?_ _ | refine blk_drew ?_ | refine blk_alloc ?_ _); exact B291.out) hb); have n1_ := Aside0.mk (blk_below (g := g292) (o := .cells #[.int .u64 0, .int .u64 0, .int .u64 0, .int .u64 0] 23 (0, 0)) (by (with_reducible repeat first | refine blk_drewN ?_ _ | refine blk_drew ?_ | refine blk_alloc ?_ _); exact B292.out) hb); have n2_ := Aside0.mk (below_step (by repeat (first | (with_reducible first | exact HB.out | apply below_alloc | apply pw_below_drewN | apply below_drew1 | refine below_set ?_ GE291.out | refine below_set ?_ GE292.out) | exact HB.out)) hb); clear B291; clear B292; clear HB; have B291 := n0_; have B292 := n1_; have HB := n2_; clear n0_ n1_ n2_; (try clear hb); (try clear hb2); (try clear hk); (try clear hi); have hcz12_0 : w11.cell? ⟨g291, 0, none⟩ = some (.int .u64 x292000_1) := bq_ B291 0; have hcz12_1 : w11.cell? ⟨g291, 1, none⟩ = some (.int .u64 x292001_1) := bq_ B291 1; have hcz12_2 : w11.cell? ⟨g291, 2, none⟩ = some (.int .u64 x292002_1) := bq_ B291 2; have hcz12_3 : w11.cell? ⟨g291, 3, none⟩ = some (.int .u64 x292003_1) := bq_ B291 3; have hfz12_0 := blk_frozen B291.out 0; have hfz12_1 := blk_frozen B291.out 1; have hfz12_2 := blk_frozen B291.out 2; have hfz12_3 := blk_frozen B291.out 3))
     go_loopg [20] k1 (fun kq v20 w' => ∃ (x20_2 : Int) (x292000_2 : Int) (x292001_2 : Int) (x292002_2 : Int) (x292003_2 : Int), v20 = .int .i64 x20_2 ∧ Aside0 (sponge_Inverse.l1 kq a0 (wrap64 (7 - x12_1)) x12_1 x20_2 x292000_2 x292001_2 x292002_2 x292003_2 = some (r1, r2, r3, r4)) ∧ Aside0 (kq ≤ k1) ∧ Aside0 (w'.heap[g291]? = some (.cells #[.int .u64 x292000_2, .int .u64 x292001_2, .int .u64 x292002_2, .int .u64 x292003_2] 23 (0, 0))) ∧ Aside0 (w'.heap[g292]? = some (.cells #[.int .u64 0, .int .u64 0, .int .u64 0, .int .u64 0] 23 (0, 0))) ∧ Aside0 (Below w.heap.size w w'))
     case atStart => exact ⟨(0), (t294), (t295), (t296), (t297), (by first | rfl | (simp; done) | (simp [*]; done) | (simp; rfl) | (simp; decide +kernel)), H', ⟨Nat.le_refl _⟩, ⟨by (with_reducible repeat first | refine blk_drewN ?_ _ | refine blk_drew ?_ | refine blk_alloc ?_ _); refine blk_put (cs := #[.int .u64 t294, .int .u64 t295, .int .u64 t296, .int .u64 x292003_1]) ?_ 3 _ rfl; (with_reducible repeat first | refine blk_drewN ?_ _ | refine blk_drew ?_ | refine blk_alloc ?_ _); refine blk_put (cs := #[.int .u64 t294, .int .u64 t295, .int .u64 x292002_1, .int .u64 x292003_1]) ?_ 2 _ rfl; (with_reducible repeat first | refine blk_drewN ?_ _ | refine blk_drew ?_ | refine blk_alloc ?_ _); refine blk_put (cs := #[.int .u64 t294, .int .u64 x292001_1, .int .u64 x292002_1, .int .u64 x292003_1]) ?_ 1 _ rfl; (with_reducible repeat first | refine blk_drewN ?_ _ | refine blk_drew ?_ | refine blk_alloc ?_ _); refine blk_put (cs := #[.int .u64 x292000_1, .int .u64 x292001_1, .int .u64 x292002_1, .int .u64 x292003_1]) ?_ 0 _ rfl; (with_reducible repeat first | refine blk_drewN ?_ _ | refine blk_drew ?_ | refine blk_alloc ?_ _); exact B291.out⟩, ⟨by (with_reducible repeat first | refine blk_drewN ?_ _ | refine blk_drew ?_ | refine blk_alloc ?_ _); refine blk_far ?_ NB292_291.out _; (with_reducible repeat first | refine blk_drewN ?_ _ | refine blk_drew ?_ | refine blk_alloc ?_ _); refine blk_far ?_ NB292_291.out _; (with_reducible repeat first | refine blk_drewN ?_ _ | refine blk_drew ?_ | refine blk_alloc ?_ _); refine blk_far ?_ NB292_291.out _; (with_reducible repeat first | refine blk_drewN ?_ _ | refine blk_drew ?_ | refine blk_alloc ?_ _); refine blk_far ?_ NB292_291.out _; (with_reducible repeat first | refine blk_drewN ?_ _ | refine blk_drew ?_ | refine blk_alloc ?_ _); exact B292.out⟩, ⟨by repeat (first | (with_reducible first | exact HB.out | apply below_alloc | apply pw_below_drewN | apply below_drew1 | refine below_set ?_ GE291.out | refine below_set ?_ GE292.out) | exact HB.out)⟩⟩
     case round =>
      clear H'
      try clear c2
      try clear p2
      try clear c4
      try clear p6
      try clear c7
      try clear c7b0
      try clear c9
      try clear hcz10_0
      try clear hcz10_1
      try clear hcz10_2
      try clear hcz10_3
      try clear hcz12_0
      try clear hcz12_1
      try clear hcz12_2
      try clear hcz12_3
      try clear hfz10_0
      try clear hfz10_1
      try clear hfz10_2
      try clear hfz10_3
      try clear hfz12_0
      try clear hfz12_1
      try clear hfz12_2
      try clear hfz12_3
      try clear p2
      obtain ⟨x20_2, x292000_2, x292001_2, x292002_2, x292003_2, rfl, HA, HK2, B291, B292, HB⟩ := hrel
      cases gk with
      | zero => exact absurd HA.out (by simp [sponge_Inverse.l1])
      | succ k2 =>
       have H := HA.out
       clear HA
       simp only [sponge_Inverse.l1] at H
       by_cases c13 : x20_2 < 4
       ·rw [if_pos c13] at H
        have c13b0 : decide (x20_2 < 4) = true := decide_eq_true c13
        clear c13
        by_cases c14 : 0 ≤ x20_2
        ·rw [if_pos c14] at H
         have c14b0 : decide (0 ≤ x20_2) = true := decide_eq_true c14
         clear c14
         by_cases c15 : x20_2 = 0
         ·rw [if_pos c15] at H
          subst c15
          by_cases c16 : 0 ≤ a0
          ·rw [if_pos c16] at H
           have c16b0 : decide (0 ≤ a0) = true := decide_eq_true c16
           clear c16
           by_cases c17 : a0 = 0
           ·rw [if_pos c17] at H
            subst c17
            replace H := Option.bind_eq_some_iff.mp H
            obtain ⟨t298, A180, H⟩ := H
            replace H : ((sponge_Constant.f k2 0 (wrap64 (7 - x12_1)) 0).bind fun t299 => ((field_Sub.f 0 t298 t299).bind fun t300 => (sponge_Inverse.l1 k2 0 (wrap64 (7 - x12_1)) x12_1 (wrap64 (0 + 1)) t300 x292001_2 x292002_2 x292003_2))) = some (r1, r2, r3, r4) := H
            have A18 := Aside0.mk A180
            clear A180
            replace H := Option.bind_eq_some_iff.mp H
            obtain ⟨t299, A190, H⟩ := H
            replace H : ((field_Sub.f 0 t298 t299).bind fun t300 => (sponge_Inverse.l1 k2 0 (wrap64 (7 - x12_1)) x12_1 (wrap64 (0 + 1)) t300 x292001_2 x292002_2 x292003_2)) = some (r1, r2, r3, r4) := H
            have A19 := Aside0.mk A190
            clear A190
            replace H := Option.bind_eq_some_iff.mp H
            obtain ⟨t300, A200, H⟩ := H
            replace H : (sponge_Inverse.l1 k2 0 (wrap64 (7 - x12_1)) x12_1 (wrap64 (0 + 1)) t300 x292001_2 x292002_2 x292003_2) = some (r1, r2, r3, r4) := H
            have A20 := Aside0.mk A200
            clear A200
            have H' := Aside0.mk H
            clear H
            try go_wp2
            have n0_ := Aside0.mk (blk_drew B291.out)
            have n1_ := Aside0.mk (blk_drew B292.out)
            have n2_ := Aside0.mk (below_drew1 HB.out)
            clear B291
            clear B292
            clear HB
            have B291 := n0_
            have B292 := n1_
            have HB := n2_
            clear n0_ n1_ n2_
            refine start_ (n := 17) (S := fun w' => w'.cell? ⟨g291, 0, none⟩ = some (.int .u64 x292000_2) ∧ w'.cell? ⟨g291, 1, none⟩ = some (.int .u64 x292001_2) ∧ w'.cell? ⟨g291, 2, none⟩ = some (.int .u64 x292002_2) ∧ w'.cell? ⟨g291, 3, none⟩ = some (.int .u64 x292003_2) ∧ w'.cell? ⟨0, 0, none⟩ = some (.int .u64 77)) (ds := [16]) z25_0_ (by kernel_rfl) rfl rfl ⟨bq_ B291 0, bq_ B291 1, bq_ B291 2, bq_ B291 3, ((HRG.out.below HB.out).u0 0 (by decide))⟩ (fun hL => ?_); refine with_tabW sponge_Inverse.tab11 sponge_Inverse.bits11 (fun T_ W_ => ?_)
            generalize wr.drew = w21 at B291 B292 HB hL ⊢
            refine pure_ (i := 0) (N := some 23) (v := ?_) (a' := ?_) z25_1_ rfl rfl (an_ T_) (fun _ _ _ h => h) (Or.inl ⟨by rfl, ?_⟩) ?_ ?_
            rotate_left; · intro w'; go_simp; with_reducible rfl
            rotate_left; · simp only [Act.put, sa_, sb_, sc_, i64_w, i32_w]; rfl
            refine pure_ (i := 1) (N := some 24) (v := ?_) (a' := ?_) z25_2_ rfl rfl (an_ T_) (fun _ _ _ h => h) (Or.inl ⟨by rfl, ?_⟩) ?_ ?_
            rotate_left; · intro w'; go_simp; with_reducible rfl
            rotate_left; · simp only [Act.put, sa_, sb_, sc_, i64_w, i32_w]; rfl
            refine pure_ (i := 2) (N := some 25) (v := ?_) (a' := ?_) z25_3_ rfl rfl (an_ T_) (fun _ _ _ h => h) (Or.inl ⟨by rfl, ?_⟩) ?_ ?_
            rotate_left; · intro w'; go_simp; with_reducible rfl
            rotate_left; · simp only [Act.put, sa_, sb_, sc_, i64_w, i32_w]; rfl
            refine pure_ (i := 3) (N := some 26) (v := ?_) (a' := ?_) z25_4_ rfl rfl (an_ T_) (fun _ _ _ h => h) (Or.inl ⟨by rfl, ?_⟩) ?_ ?_
            rotate_left; · intro w'; go_simp; with_reducible rfl
            rotate_left; · simp only [Act.put, sa_, sb_, sc_, i64_w, i32_w]; rfl
            refine pure_ (i := 4) (N := some 27) (v := ?_) (a' := ?_) z25_5_ rfl rfl (an_ T_) (fun _ _ _ h => h) (Or.inl ⟨by rfl, ?_⟩) ?_ ?_
            rotate_left; · intro w'; go_simp; with_reducible rfl
            rotate_left; · simp only [Act.put, sa_, sb_, sc_, i64_w, i32_w]; rfl
            refine pure_ (i := 6) (N := some 29) (v := ?_) (a' := ?_) z25_6_ rfl rfl (an_ T_) (fun _ _ _ h => h) (Or.inl ⟨by rfl, ?_⟩) ?_ ?_
            rotate_left; · intro w'; go_simp; with_reducible rfl
            rotate_left; · simp only [Act.put, sa_, sb_, sc_, i64_w, i32_w]; rfl
            refine pure_ (i := 7) (N := some 30) (v := ?_) (a' := ?_) z25_7_ rfl rfl (an_ T_) (fun _ _ _ h => h) (Or.inl ⟨by rfl, ?_⟩) ?_ ?_
            rotate_left; · intro w'; go_simp; with_reducible rfl
            rotate_left; · simp only [Act.put, sa_, sb_, sc_, i64_w, i32_w]; rfl
            refine pure_ (i := 10) (N := some 33) (v := ?_) (a' := ?_) z25_8_ rfl rfl (an_ T_) (fun _ _ _ h => h) (Or.inl ⟨by rfl, ?_⟩) ?_ ?_
            rotate_left; · intro w'; go_simp; with_reducible rfl
            rotate_left; · simp only [Act.put, sa_, sb_, sc_, i64_w, i32_w]; rfl
            refine pure_ (i := 11) (N := some 34) (v := ?_) (a' := ?_) z25_9_ rfl rfl (an_ T_) (fun _ _ _ h => h) (Or.inl ⟨by rfl, ?_⟩) ?_ ?_
            rotate_left; · intro w'; go_simp; with_reducible rfl
            rotate_left; · simp only [Act.put, sa_, sb_, sc_, i64_w, i32_w]; rfl
            refine pure_ (i := 12) (N := some 35) (v := ?_) (a' := ?_) z25_10_ rfl rfl (an_ T_) (fun _ _ _ h => h) (Or.inl ⟨by rfl, ?_⟩) ?_ ?_
            rotate_left; · intro w'; go_simp; with_reducible rfl
            rotate_left; · simp only [Act.put, sa_, sb_, sc_, i64_w, i32_w]; rfl
            refine take_ (i := 5) (N := some 28) (v := ?_) (a' := ?_) z25_11_ rfl rfl (tk_ T_ W_) (fun _ _ _ h => h) (Or.inl ⟨by rfl, ?_⟩) hL ?_ ?_
            rotate_left
            ·rintro w' ⟨s0, s1, s2, s3, s4⟩
             go_simp
             with_reducible rfl
            rotate_left
            ·simp only [Act.put, sa_, sb_, sc_, i64_w, i32_w]
             rfl
            refine take_ (i := 8) (N := some 31) (v := ?_) (a' := ?_) z25_12_ rfl rfl (tk_ T_ W_) (fun _ _ _ h => h) (Or.inl ⟨by rfl, ?_⟩) hL ?_ ?_
            rotate_left
            ·rintro w' ⟨s0, s1, s2, s3, s4⟩
             go_simp
             with_reducible rfl
            rotate_left
            ·simp only [Act.put, sa_, sb_, sc_, i64_w, i32_w]
             rfl
            refine one_ (i := 9) (N := some 32) z25_13_ rfl rfl (on_ T_) (by decide) (fun K hK => ?_)
            refine goes_ Tryd.func29 (by kernel_rfl) rfl #[.int .i64 0, .int .u64 x292000_2, .int .u64 77] (by rfl) rfl rfl (by (try simp only [List.map_toArray, List.map_cons, List.map_nil]); first | done | rfl) ?_
            with_reducible refine (field_Pow.calls k2 0 x292000_2 77 t298 _ ?side1 A18.out).mono ?_
            (case side1 => repeat (first | exact (GL.below HRG.out HB.out) | (with_reducible refine GL.alloc ?_ _) | (with_reducible refine GL.drewN ?_ _) | (with_reducible refine GL.drew ?_)))
            rintro e w22 ⟨rfl, hb⟩
            refine ⟨_, rfl, ?_⟩
            have n0_ := Aside0.mk (blk_below (g := g291) (o := .cells #[.int .u64 x292000_2, .int .u64 x292001_2, .int .u64 x292002_2, .int .u64 x292003_2] 23 (0, 0)) (by (with_reducible repeat first | refine blk_drewN ?_ _ | refine blk_drew ?_ | refine blk_alloc ?_ _); exact B291.out) hb)
            have n1_ := Aside0.mk (blk_below (g := g292) (o := .cells #[.int .u64 0, .int .u64 0, .int .u64 0, .int .u64 0] 23 (0, 0)) (by (with_reducible repeat first | refine blk_drewN ?_ _ | refine blk_drew ?_ | refine blk_alloc ?_ _); exact B292.out) hb)
            have n2_ := Aside0.mk (below_step (by repeat (first | (with_reducible first | exact HB.out | apply below_alloc | apply pw_below_drewN | apply below_drew1 | refine below_set ?_ GE291.out | refine below_set ?_ GE292.out) | exact HB.out)) hb)
            clear B291
            clear B292
            clear HB
            have B291 := n0_
            have B292 := n1_
            have HB := n2_
            clear n0_ n1_ n2_
            (try clear hb)
            (try clear hb2)
            (try clear hk)
            (try clear hi)
            refine hK.out _ _ ⟨bq_ B291 0, bq_ B291 1, bq_ B291 2, bq_ B291 3, ((HRG.out.below HB.out).u0 0 (by decide))⟩ (fun hL => ?_)
            clear hK K
            refine norm_ (a' := ?_) ?_ ?_
            rotate_left
            ·show Act.put _ (some 32) _ = _
             simp only [Act.put, sa_, sb_, sc_, i64_w, i32_w]
             rfl
            refine one_ (i := 13) (N := some 36) z25_14_ rfl rfl (on_ T_) (by decide) (fun K hK => ?_)
            refine goes_ Tryd.func12 (by kernel_rfl) rfl #[.int .i64 0, .int .i64 (wrap64 (7 - x12_1)), .int .i64 0] (by rfl) rfl rfl (by (try simp only [List.map_toArray, List.map_cons, List.map_nil]); first | done | rfl) ?_
            with_reducible refine (sponge_Constant.calls k2 0 (wrap64 (7 - x12_1)) 0 t299 _ ?side1 A19.out).mono ?_
            (case side1 => repeat (first | exact (GL.below HRG.out HB.out) | (with_reducible refine GL.alloc ?_ _) | (with_reducible refine GL.drewN ?_ _) | (with_reducible refine GL.drew ?_)))
            rintro e w23 ⟨rfl, hb⟩
            refine ⟨_, rfl, ?_⟩
            have n0_ := Aside0.mk (blk_below (g := g291) (o := .cells #[.int .u64 x292000_2, .int .u64 x292001_2, .int .u64 x292002_2, .int .u64 x292003_2] 23 (0, 0)) (by (with_reducible repeat first | refine blk_drewN ?_ _ | refine blk_drew ?_ | refine blk_alloc ?_ _); exact B291.out) hb)
            have n1_ := Aside0.mk (blk_below (g := g292) (o := .cells #[.int .u64 0, .int .u64 0, .int .u64 0, .int .u64 0] 23 (0, 0)) (by (with_reducible repeat first | refine blk_drewN ?_ _ | refine blk_drew ?_ | refine blk_alloc ?_ _); exact B292.out) hb)
            have n2_ := Aside0.mk (below_step (by repeat (first | (with_reducible first | exact HB.out | apply below_alloc | apply pw_below_drewN | apply below_drew1 | refine below_set ?_ GE291.out | refine below_set ?_ GE292.out) | exact HB.out)) hb)
            clear B291
            clear B292
            clear HB
            have B291 := n0_
            have B292 := n1_
            have HB := n2_
            clear n0_ n1_ n2_
            (try clear hb)
            (try clear hb2)
            (try clear hk)
            (try clear hi)
            refine hK.out _ _ ⟨bq_ B291 0, bq_ B291 1, bq_ B291 2, bq_ B291 3, ((HRG.out.below HB.out).u0 0 (by decide))⟩ (fun hL => ?_)
            clear hK K
            refine norm_ (a' := ?_) ?_ ?_
            rotate_left
            ·show Act.put _ (some 36) _ = _
             simp only [Act.put, sa_, sb_, sc_, i64_w, i32_w]
             rfl
            refine one_ (i := 14) (N := some 37) z25_15_ rfl rfl (on_ T_) (by decide) (fun K hK => ?_)
            refine goes_ Tryd.func45 (by kernel_rfl) rfl #[.int .i64 0, .int .u64 t298, .int .u64 t299] (by rfl) rfl rfl (by (try simp only [List.map_toArray, List.map_cons, List.map_nil]); first | done | rfl) ?_
            with_reducible refine (field_Sub.calls 0 t298 t299 t300 _ ?side1 A20.out).mono ?_
            (case side1 => repeat (first | exact (GL.below HRG.out HB.out) | (with_reducible refine GL.alloc ?_ _) | (with_reducible refine GL.drewN ?_ _) | (with_reducible refine GL.drew ?_)))
            rintro e w24 ⟨rfl, hb⟩
            refine ⟨_, rfl, ?_⟩
            have n0_ := Aside0.mk (blk_below (g := g291) (o := .cells #[.int .u64 x292000_2, .int .u64 x292001_2, .int .u64 x292002_2, .int .u64 x292003_2] 23 (0, 0)) (by (with_reducible repeat first | refine blk_drewN ?_ _ | refine blk_drew ?_ | refine blk_alloc ?_ _); exact B291.out) hb)
            have n1_ := Aside0.mk (blk_below (g := g292) (o := .cells #[.int .u64 0, .int .u64 0, .int .u64 0, .int .u64 0] 23 (0, 0)) (by (with_reducible repeat first | refine blk_drewN ?_ _ | refine blk_drew ?_ | refine blk_alloc ?_ _); exact B292.out) hb)
            have n2_ := Aside0.mk (below_step (by repeat (first | (with_reducible first | exact HB.out | apply below_alloc | apply pw_below_drewN | apply below_drew1 | refine below_set ?_ GE291.out | refine below_set ?_ GE292.out) | exact HB.out)) hb)
            clear B291
            clear B292
            clear HB
            have B291 := n0_
            have B292 := n1_
            have HB := n2_
            clear n0_ n1_ n2_
            (try clear hb)
            (try clear hb2)
            (try clear hk)
            (try clear hi)
            refine hK.out _ _ ⟨bq_ B291 0, bq_ B291 1, bq_ B291 2, bq_ B291 3, ((HRG.out.below HB.out).u0 0 (by decide))⟩ (fun hL => ?_)
            clear hK K
            refine norm_ (a' := ?_) ?_ ?_
            rotate_left
            ·show Act.put _ (some 37) _ = _
             simp only [Act.put, sa_, sb_, sc_, i64_w, i32_w]
             rfl
            refine pure_ (i := 15) (N := some 38) (v := ?_) (a' := ?_) z25_16_ rfl rfl (an_ T_) (fun _ _ _ h => h) (Or.inl ⟨by rfl, ?_⟩) ?_ ?_
            rotate_left; · intro w'; go_simp; with_reducible rfl
            rotate_left; · simp only [Act.put, sa_, sb_, sc_, i64_w, i32_w]; rfl
            refine last_ (i := 16) (N := none) z25_17_ rfl rfl (on_ T_) (by decide) (fun K hK => ?_)
            have hs25 : w24.cell? ⟨g291, 0, none⟩ = some (.int .u64 x292000_2) := bq_ B291 0
            have hfs25 := blk_frozen B291.out 0
            have hns25_1 := NB292_291.out
            have hms25_1 := NB291_292.out
            refine skip_ (w1 := ?_) (by rfl) rfl ?_ ?_
            rotate_left
            ·go_simp
             rfl
            refine hK.out _ _ ?_
            clear hK K
            refine done_ (done_of T_.out (by kernel_rfl)) ?_
            try go_wp2
            go_roundg k2
            case measure => have := HK1.out; have := HK2.out; omega
            case rel => exact ⟨(wrap64 (0 + 1)), (t300), (x292001_2), (x292002_2), (x292003_2), (by first | rfl | (simp; done) | (simp [*]; done) | (simp; rfl) | (simp; decide +kernel)), H', ⟨by have := HK1.out; have := HK2.out; omega⟩, ⟨by (with_reducible repeat first | refine blk_drewN ?_ _ | refine blk_drew ?_ | refine blk_alloc ?_ _); refine blk_put (cs := #[.int .u64 x292000_2, .int .u64 x292001_2, .int .u64 x292002_2, .int .u64 x292003_2]) ?_ 0 _ rfl; (with_reducible repeat first | refine blk_drewN ?_ _ | refine blk_drew ?_ | refine blk_alloc ?_ _); exact B291.out⟩, ⟨by (with_reducible repeat first | refine blk_drewN ?_ _ | refine blk_drew ?_ | refine blk_alloc ?_ _); refine blk_far ?_ NB292_291.out _; (with_reducible repeat first | refine blk_drewN ?_ _ | refine blk_drew ?_ | refine blk_alloc ?_ _); exact B292.out⟩, ⟨by repeat (first | (with_reducible first | exact HB.out | apply below_alloc | apply pw_below_drewN | apply below_drew1 | refine below_set ?_ GE291.out | refine below_set ?_ GE292.out) | exact HB.out)⟩⟩
           ·rw [if_neg c17] at H
            by_cases c26 : a0 = 1
            ·rw [if_pos c26] at H
             subst c26
             replace H := Option.bind_eq_some_iff.mp H
             obtain ⟨t301, A270, H⟩ := H
             replace H : ((sponge_Constant.f k2 1 (wrap64 (7 - x12_1)) 0).bind fun t302 => ((field_Sub.f 1 t301 t302).bind fun t303 => (sponge_Inverse.l1 k2 1 (wrap64 (7 - x12_1)) x12_1 (wrap64 (0 + 1)) t303 x292001_2 x292002_2 x292003_2))) = some (r1, r2, r3, r4) := H
             have A27 := Aside0.mk A270
             clear A270
             replace H := Option.bind_eq_some_iff.mp H
             obtain ⟨t302, A280, H⟩ := H
             replace H : ((field_Sub.f 1 t301 t302).bind fun t303 => (sponge_Inverse.l1 k2 1 (wrap64 (7 - x12_1)) x12_1 (wrap64 (0 + 1)) t303 x292001_2 x292002_2 x292003_2)) = some (r1, r2, r3, r4) := H
             have A28 := Aside0.mk A280
             clear A280
             replace H := Option.bind_eq_some_iff.mp H
             obtain ⟨t303, A290, H⟩ := H
             replace H : (sponge_Inverse.l1 k2 1 (wrap64 (7 - x12_1)) x12_1 (wrap64 (0 + 1)) t303 x292001_2 x292002_2 x292003_2) = some (r1, r2, r3, r4) := H
             have A29 := Aside0.mk A290
             clear A290
             have H' := Aside0.mk H
             clear H
             try go_wp2
             have n0_ := Aside0.mk (blk_drew B291.out)
             have n1_ := Aside0.mk (blk_drew B292.out)
             have n2_ := Aside0.mk (below_drew1 HB.out)
             clear B291
             clear B292
             clear HB
             have B291 := n0_
             have B292 := n1_
             have HB := n2_
             clear n0_ n1_ n2_
             refine start_ (n := 17) (S := fun w' => w'.cell? ⟨g291, 0, none⟩ = some (.int .u64 x292000_2) ∧ w'.cell? ⟨g291, 1, none⟩ = some (.int .u64 x292001_2) ∧ w'.cell? ⟨g291, 2, none⟩ = some (.int .u64 x292002_2) ∧ w'.cell? ⟨g291, 3, none⟩ = some (.int .u64 x292003_2) ∧ w'.cell? ⟨0, 1, none⟩ = some (.int .u64 171)) (ds := [16]) z25_0_ (by kernel_rfl) rfl rfl ⟨bq_ B291 0, bq_ B291 1, bq_ B291 2, bq_ B291 3, ((HRG.out.below HB.out).u0 1 (by decide))⟩ (fun hL => ?_); refine with_tabW sponge_Inverse.tab11 sponge_Inverse.bits11 (fun T_ W_ => ?_)
             generalize wr.drew = w30 at B291 B292 HB hL ⊢
             refine pure_ (i := 0) (N := some 23) (v := ?_) (a' := ?_) z25_1_ rfl rfl (an_ T_) (fun _ _ _ h => h) (Or.inl ⟨by rfl, ?_⟩) ?_ ?_
             rotate_left; · intro w'; go_simp; with_reducible rfl
             rotate_left; · simp only [Act.put, sa_, sb_, sc_, i64_w, i32_w]; rfl
             refine pure_ (i := 1) (N := some 24) (v := ?_) (a' := ?_) z25_2_ rfl rfl (an_ T_) (fun _ _ _ h => h) (Or.inl ⟨by rfl, ?_⟩) ?_ ?_
             rotate_left; · intro w'; go_simp; with_reducible rfl
             rotate_left; · simp only [Act.put, sa_, sb_, sc_, i64_w, i32_w]; rfl
             refine pure_ (i := 2) (N := some 25) (v := ?_) (a' := ?_) z25_3_ rfl rfl (an_ T_) (fun _ _ _ h => h) (Or.inl ⟨by rfl, ?_⟩) ?_ ?_
             rotate_left; · intro w'; go_simp; with_reducible rfl
             rotate_left; · simp only [Act.put, sa_, sb_, sc_, i64_w, i32_w]; rfl
             refine pure_ (i := 3) (N := some 26) (v := ?_) (a' := ?_) z25_4_ rfl rfl (an_ T_) (fun _ _ _ h => h) (Or.inl ⟨by rfl, ?_⟩) ?_ ?_
             rotate_left; · intro w'; go_simp; with_reducible rfl
             rotate_left; · simp only [Act.put, sa_, sb_, sc_, i64_w, i32_w]; rfl
             refine pure_ (i := 4) (N := some 27) (v := ?_) (a' := ?_) z25_5_ rfl rfl (an_ T_) (fun _ _ _ h => h) (Or.inl ⟨by rfl, ?_⟩) ?_ ?_
             rotate_left; · intro w'; go_simp; with_reducible rfl
             rotate_left; · simp only [Act.put, sa_, sb_, sc_, i64_w, i32_w]; rfl
             refine pure_ (i := 6) (N := some 29) (v := ?_) (a' := ?_) z25_6_ rfl rfl (an_ T_) (fun _ _ _ h => h) (Or.inl ⟨by rfl, ?_⟩) ?_ ?_
             rotate_left; · intro w'; go_simp; with_reducible rfl
             rotate_left; · simp only [Act.put, sa_, sb_, sc_, i64_w, i32_w]; rfl
             refine pure_ (i := 7) (N := some 30) (v := ?_) (a' := ?_) z25_7_ rfl rfl (an_ T_) (fun _ _ _ h => h) (Or.inl ⟨by rfl, ?_⟩) ?_ ?_
             rotate_left; · intro w'; go_simp; with_reducible rfl
             rotate_left; · simp only [Act.put, sa_, sb_, sc_, i64_w, i32_w]; rfl
             refine pure_ (i := 10) (N := some 33) (v := ?_) (a' := ?_) z25_8_ rfl rfl (an_ T_) (fun _ _ _ h => h) (Or.inl ⟨by rfl, ?_⟩) ?_ ?_
             rotate_left; · intro w'; go_simp; with_reducible rfl
             rotate_left; · simp only [Act.put, sa_, sb_, sc_, i64_w, i32_w]; rfl
             refine pure_ (i := 11) (N := some 34) (v := ?_) (a' := ?_) z25_9_ rfl rfl (an_ T_) (fun _ _ _ h => h) (Or.inl ⟨by rfl, ?_⟩) ?_ ?_
             rotate_left; · intro w'; go_simp; with_reducible rfl
             rotate_left; · simp only [Act.put, sa_, sb_, sc_, i64_w, i32_w]; rfl
             refine pure_ (i := 12) (N := some 35) (v := ?_) (a' := ?_) z25_10_ rfl rfl (an_ T_) (fun _ _ _ h => h) (Or.inl ⟨by rfl, ?_⟩) ?_ ?_
             rotate_left; · intro w'; go_simp; with_reducible rfl
             rotate_left; · simp only [Act.put, sa_, sb_, sc_, i64_w, i32_w]; rfl
             refine take_ (i := 5) (N := some 28) (v := ?_) (a' := ?_) z25_11_ rfl rfl (tk_ T_ W_) (fun _ _ _ h => h) (Or.inl ⟨by rfl, ?_⟩) hL ?_ ?_
             rotate_left
             ·rintro w' ⟨s0, s1, s2, s3, s4⟩
              go_simp
              with_reducible rfl
             rotate_left
             ·simp only [Act.put, sa_, sb_, sc_, i64_w, i32_w]
              rfl
             refine take_ (i := 8) (N := some 31) (v := ?_) (a' := ?_) z25_12_ rfl rfl (tk_ T_ W_) (fun _ _ _ h => h) (Or.inl ⟨by rfl, ?_⟩) hL ?_ ?_
             rotate_left
             ·rintro w' ⟨s0, s1, s2, s3, s4⟩
              go_simp
              with_reducible rfl
             rotate_left
             ·simp only [Act.put, sa_, sb_, sc_, i64_w, i32_w]
              rfl
             refine one_ (i := 9) (N := some 32) z25_13_ rfl rfl (on_ T_) (by decide) (fun K hK => ?_)
             refine goes_ Tryd.func29 (by kernel_rfl) rfl #[.int .i64 1, .int .u64 x292000_2, .int .u64 171] (by rfl) rfl rfl (by (try simp only [List.map_toArray, List.map_cons, List.map_nil]); first | done | rfl) ?_
             with_reducible refine (field_Pow.calls k2 1 x292000_2 171 t301 _ ?side1 A27.out).mono ?_
             (case side1 => repeat (first | exact (GL.below HRG.out HB.out) | (with_reducible refine GL.alloc ?_ _) | (with_reducible refine GL.drewN ?_ _) | (with_reducible refine GL.drew ?_)))
             rintro e w31 ⟨rfl, hb⟩
             refine ⟨_, rfl, ?_⟩
             have n0_ := Aside0.mk (blk_below (g := g291) (o := .cells #[.int .u64 x292000_2, .int .u64 x292001_2, .int .u64 x292002_2, .int .u64 x292003_2] 23 (0, 0)) (by (with_reducible repeat first | refine blk_drewN ?_ _ | refine blk_drew ?_ | refine blk_alloc ?_ _); exact B291.out) hb)
             have n1_ := Aside0.mk (blk_below (g := g292) (o := .cells #[.int .u64 0, .int .u64 0, .int .u64 0, .int .u64 0] 23 (0, 0)) (by (with_reducible repeat first | refine blk_drewN ?_ _ | refine blk_drew ?_ | refine blk_alloc ?_ _); exact B292.out) hb)
             have n2_ := Aside0.mk (below_step (by repeat (first | (with_reducible first | exact HB.out | apply below_alloc | apply pw_below_drewN | apply below_drew1 | refine below_set ?_ GE291.out | refine below_set ?_ GE292.out) | exact HB.out)) hb)
             clear B291
             clear B292
             clear HB
             have B291 := n0_
             have B292 := n1_
             have HB := n2_
             clear n0_ n1_ n2_
             (try clear hb)
             (try clear hb2)
             (try clear hk)
             (try clear hi)
             refine hK.out _ _ ⟨bq_ B291 0, bq_ B291 1, bq_ B291 2, bq_ B291 3, ((HRG.out.below HB.out).u0 1 (by decide))⟩ (fun hL => ?_)
             clear hK K
             refine norm_ (a' := ?_) ?_ ?_
             rotate_left
             ·show Act.put _ (some 32) _ = _
              simp only [Act.put, sa_, sb_, sc_, i64_w, i32_w]
              rfl
             refine one_ (i := 13) (N := some 36) z25_14_ rfl rfl (on_ T_) (by decide) (fun K hK => ?_)
             refine goes_ Tryd.func12 (by kernel_rfl) rfl #[.int .i64 1, .int .i64 (wrap64 (7 - x12_1)), .int .i64 0] (by rfl) rfl rfl (by (try simp only [List.map_toArray, List.map_cons, List.map_nil]); first | done | rfl) ?_
             with_reducible refine (sponge_Constant.calls k2 1 (wrap64 (7 - x12_1)) 0 t302 _ ?side1 A28.out).mono ?_
             (case side1 => repeat (first | exact (GL.below HRG.out HB.out) | (with_reducible refine GL.alloc ?_ _) | (with_reducible refine GL.drewN ?_ _) | (with_reducible refine GL.drew ?_)))
             rintro e w32 ⟨rfl, hb⟩
             refine ⟨_, rfl, ?_⟩
             have n0_ := Aside0.mk (blk_below (g := g291) (o := .cells #[.int .u64 x292000_2, .int .u64 x292001_2, .int .u64 x292002_2, .int .u64 x292003_2] 23 (0, 0)) (by (with_reducible repeat first | refine blk_drewN ?_ _ | refine blk_drew ?_ | refine blk_alloc ?_ _); exact B291.out) hb)
             have n1_ := Aside0.mk (blk_below (g := g292) (o := .cells #[.int .u64 0, .int .u64 0, .int .u64 0, .int .u64 0] 23 (0, 0)) (by (with_reducible repeat first | refine blk_drewN ?_ _ | refine blk_drew ?_ | refine blk_alloc ?_ _); exact B292.out) hb)
             have n2_ := Aside0.mk (below_step (by repeat (first | (with_reducible first | exact HB.out | apply below_alloc | apply pw_below_drewN | apply below_drew1 | refine below_set ?_ GE291.out | refine below_set ?_ GE292.out) | exact HB.out)) hb)
             clear B291
             clear B292
             clear HB
             have B291 := n0_
             have B292 := n1_
             have HB := n2_
             clear n0_ n1_ n2_
             (try clear hb)
             (try clear hb2)
             (try clear hk)
             (try clear hi)
             refine hK.out _ _ ⟨bq_ B291 0, bq_ B291 1, bq_ B291 2, bq_ B291 3, ((HRG.out.below HB.out).u0 1 (by decide))⟩ (fun hL => ?_)
             clear hK K
             refine norm_ (a' := ?_) ?_ ?_
             rotate_left
             ·show Act.put _ (some 36) _ = _
              simp only [Act.put, sa_, sb_, sc_, i64_w, i32_w]
              rfl
             refine one_ (i := 14) (N := some 37) z25_15_ rfl rfl (on_ T_) (by decide) (fun K hK => ?_)
             refine goes_ Tryd.func45 (by kernel_rfl) rfl #[.int .i64 1, .int .u64 t301, .int .u64 t302] (by rfl) rfl rfl (by (try simp only [List.map_toArray, List.map_cons, List.map_nil]); first | done | rfl) ?_
             with_reducible refine (field_Sub.calls 1 t301 t302 t303 _ ?side1 A29.out).mono ?_
             (case side1 => repeat (first | exact (GL.below HRG.out HB.out) | (with_reducible refine GL.alloc ?_ _) | (with_reducible refine GL.drewN ?_ _) | (with_reducible refine GL.drew ?_)))
             rintro e w33 ⟨rfl, hb⟩
             refine ⟨_, rfl, ?_⟩
             have n0_ := Aside0.mk (blk_below (g := g291) (o := .cells #[.int .u64 x292000_2, .int .u64 x292001_2, .int .u64 x292002_2, .int .u64 x292003_2] 23 (0, 0)) (by (with_reducible repeat first | refine blk_drewN ?_ _ | refine blk_drew ?_ | refine blk_alloc ?_ _); exact B291.out) hb)
             have n1_ := Aside0.mk (blk_below (g := g292) (o := .cells #[.int .u64 0, .int .u64 0, .int .u64 0, .int .u64 0] 23 (0, 0)) (by (with_reducible repeat first | refine blk_drewN ?_ _ | refine blk_drew ?_ | refine blk_alloc ?_ _); exact B292.out) hb)
             have n2_ := Aside0.mk (below_step (by repeat (first | (with_reducible first | exact HB.out | apply below_alloc | apply pw_below_drewN | apply below_drew1 | refine below_set ?_ GE291.out | refine below_set ?_ GE292.out) | exact HB.out)) hb)
             clear B291
             clear B292
             clear HB
             have B291 := n0_
             have B292 := n1_
             have HB := n2_
             clear n0_ n1_ n2_
             (try clear hb)
             (try clear hb2)
             (try clear hk)
             (try clear hi)
             refine hK.out _ _ ⟨bq_ B291 0, bq_ B291 1, bq_ B291 2, bq_ B291 3, ((HRG.out.below HB.out).u0 1 (by decide))⟩ (fun hL => ?_)
             clear hK K
             refine norm_ (a' := ?_) ?_ ?_
             rotate_left
             ·show Act.put _ (some 37) _ = _
              simp only [Act.put, sa_, sb_, sc_, i64_w, i32_w]
              rfl
             refine pure_ (i := 15) (N := some 38) (v := ?_) (a' := ?_) z25_16_ rfl rfl (an_ T_) (fun _ _ _ h => h) (Or.inl ⟨by rfl, ?_⟩) ?_ ?_
             rotate_left; · intro w'; go_simp; with_reducible rfl
             rotate_left; · simp only [Act.put, sa_, sb_, sc_, i64_w, i32_w]; rfl
             refine last_ (i := 16) (N := none) z25_17_ rfl rfl (on_ T_) (by decide) (fun K hK => ?_)
             have hs34 : w33.cell? ⟨g291, 0, none⟩ = some (.int .u64 x292000_2) := bq_ B291 0
             have hfs34 := blk_frozen B291.out 0
             have hns34_1 := NB292_291.out
             have hms34_1 := NB291_292.out
             refine skip_ (w1 := ?_) (by rfl) rfl ?_ ?_
             rotate_left
             ·go_simp
              rfl
             refine hK.out _ _ ?_
             clear hK K
             refine done_ (done_of T_.out (by kernel_rfl)) ?_
             try go_wp2
             go_roundg k2
             case measure => have := HK1.out; have := HK2.out; omega
             case rel => exact ⟨(wrap64 (0 + 1)), (t303), (x292001_2), (x292002_2), (x292003_2), (by first | rfl | (simp; done) | (simp [*]; done) | (simp; rfl) | (simp; decide +kernel)), H', ⟨by have := HK1.out; have := HK2.out; omega⟩, ⟨by (with_reducible repeat first | refine blk_drewN ?_ _ | refine blk_drew ?_ | refine blk_alloc ?_ _); refine blk_put (cs := #[.int .u64 x292000_2, .int .u64 x292001_2, .int .u64 x292002_2, .int .u64 x292003_2]) ?_ 0 _ rfl; (with_reducible repeat first | refine blk_drewN ?_ _ | refine blk_drew ?_ | refine blk_alloc ?_ _); exact B291.out⟩, ⟨by (with_reducible repeat first | refine blk_drewN ?_ _ | refine blk_drew ?_ | refine blk_alloc ?_ _); refine blk_far ?_ NB292_291.out _; (with_reducible repeat first | refine blk_drewN ?_ _ | refine blk_drew ?_ | refine blk_alloc ?_ _); exact B292.out⟩, ⟨by repeat (first | (with_reducible first | exact HB.out | apply below_alloc | apply pw_below_drewN | apply below_drew1 | refine below_set ?_ GE291.out | refine below_set ?_ GE292.out) | exact HB.out)⟩⟩
            ·rw [if_neg c26] at H
             by_cases c35 : a0 = 2
             ·rw [if_pos c35] at H
              subst c35
              replace H := Option.bind_eq_some_iff.mp H
              obtain ⟨t304, A360, H⟩ := H
              replace H : ((sponge_Constant.f k2 2 (wrap64 (7 - x12_1)) 0).bind fun t305 => ((field_Sub.f 2 t304 t305).bind fun t306 => (sponge_Inverse.l1 k2 2 (wrap64 (7 - x12_1)) x12_1 (wrap64 (0 + 1)) t306 x292001_2 x292002_2 x292003_2))) = some (r1, r2, r3, r4) := H
              have A36 := Aside0.mk A360
              clear A360
              replace H := Option.bind_eq_some_iff.mp H
              obtain ⟨t305, A370, H⟩ := H
              replace H : ((field_Sub.f 2 t304 t305).bind fun t306 => (sponge_Inverse.l1 k2 2 (wrap64 (7 - x12_1)) x12_1 (wrap64 (0 + 1)) t306 x292001_2 x292002_2 x292003_2)) = some (r1, r2, r3, r4) := H
              have A37 := Aside0.mk A370
              clear A370
              replace H := Option.bind_eq_some_iff.mp H
              obtain ⟨t306, A380, H⟩ := H
              replace H : (sponge_Inverse.l1 k2 2 (wrap64 (7 - x12_1)) x12_1 (wrap64 (0 + 1)) t306 x292001_2 x292002_2 x292003_2) = some (r1, r2, r3, r4) := H
              have A38 := Aside0.mk A380
              clear A380
              have H' := Aside0.mk H
              clear H
              try go_wp2
              have n0_ := Aside0.mk (blk_drew B291.out)
              have n1_ := Aside0.mk (blk_drew B292.out)
              have n2_ := Aside0.mk (below_drew1 HB.out)
              clear B291
              clear B292
              clear HB
              have B291 := n0_
              have B292 := n1_
              have HB := n2_
              clear n0_ n1_ n2_
              refine start_ (n := 17) (S := fun w' => w'.cell? ⟨g291, 0, none⟩ = some (.int .u64 x292000_2) ∧ w'.cell? ⟨g291, 1, none⟩ = some (.int .u64 x292001_2) ∧ w'.cell? ⟨g291, 2, none⟩ = some (.int .u64 x292002_2) ∧ w'.cell? ⟨g291, 3, none⟩ = some (.int .u64 x292003_2) ∧ w'.cell? ⟨0, 2, none⟩ = some (.int .u64 7373)) (ds := [16]) z25_0_ (by kernel_rfl) rfl rfl ⟨bq_ B291 0, bq_ B291 1, bq_ B291 2, bq_ B291 3, ((HRG.out.below HB.out).u0 2 (by decide))⟩ (fun hL => ?_); refine with_tabW sponge_Inverse.tab11 sponge_Inverse.bits11 (fun T_ W_ => ?_)
              generalize wr.drew = w39 at B291 B292 HB hL ⊢
              refine pure_ (i := 0) (N := some 23) (v := ?_) (a' := ?_) z25_1_ rfl rfl (an_ T_) (fun _ _ _ h => h) (Or.inl ⟨by rfl, ?_⟩) ?_ ?_
              rotate_left; · intro w'; go_simp; with_reducible rfl
              rotate_left; · simp only [Act.put, sa_, sb_, sc_, i64_w, i32_w]; rfl
              refine pure_ (i := 1) (N := some 24) (v := ?_) (a' := ?_) z25_2_ rfl rfl (an_ T_) (fun _ _ _ h => h) (Or.inl ⟨by rfl, ?_⟩) ?_ ?_
              rotate_left; · intro w'; go_simp; with_reducible rfl
              rotate_left; · simp only [Act.put, sa_, sb_, sc_, i64_w, i32_w]; rfl
              refine pure_ (i := 2) (N := some 25) (v := ?_) (a' := ?_) z25_3_ rfl rfl (an_ T_) (fun _ _ _ h => h) (Or.inl ⟨by rfl, ?_⟩) ?_ ?_
              rotate_left; · intro w'; go_simp; with_reducible rfl
              rotate_left; · simp only [Act.put, sa_, sb_, sc_, i64_w, i32_w]; rfl
              refine pure_ (i := 3) (N := some 26) (v := ?_) (a' := ?_) z25_4_ rfl rfl (an_ T_) (fun _ _ _ h => h) (Or.inl ⟨by rfl, ?_⟩) ?_ ?_
              rotate_left; · intro w'; go_simp; with_reducible rfl
              rotate_left; · simp only [Act.put, sa_, sb_, sc_, i64_w, i32_w]; rfl
              refine pure_ (i := 4) (N := some 27) (v := ?_) (a' := ?_) z25_5_ rfl rfl (an_ T_) (fun _ _ _ h => h) (Or.inl ⟨by rfl, ?_⟩) ?_ ?_
              rotate_left; · intro w'; go_simp; with_reducible rfl
              rotate_left; · simp only [Act.put, sa_, sb_, sc_, i64_w, i32_w]; rfl
              refine pure_ (i := 6) (N := some 29) (v := ?_) (a' := ?_) z25_6_ rfl rfl (an_ T_) (fun _ _ _ h => h) (Or.inl ⟨by rfl, ?_⟩) ?_ ?_
              rotate_left; · intro w'; go_simp; with_reducible rfl
              rotate_left; · simp only [Act.put, sa_, sb_, sc_, i64_w, i32_w]; rfl
              refine pure_ (i := 7) (N := some 30) (v := ?_) (a' := ?_) z25_7_ rfl rfl (an_ T_) (fun _ _ _ h => h) (Or.inl ⟨by rfl, ?_⟩) ?_ ?_
              rotate_left; · intro w'; go_simp; with_reducible rfl
              rotate_left; · simp only [Act.put, sa_, sb_, sc_, i64_w, i32_w]; rfl
              refine pure_ (i := 10) (N := some 33) (v := ?_) (a' := ?_) z25_8_ rfl rfl (an_ T_) (fun _ _ _ h => h) (Or.inl ⟨by rfl, ?_⟩) ?_ ?_
              rotate_left; · intro w'; go_simp; with_reducible rfl
              rotate_left; · simp only [Act.put, sa_, sb_, sc_, i64_w, i32_w]; rfl
              refine pure_ (i := 11) (N := some 34) (v := ?_) (a' := ?_) z25_9_ rfl rfl (an_ T_) (fun _ _ _ h => h) (Or.inl ⟨by rfl, ?_⟩) ?_ ?_
              rotate_left; · intro w'; go_simp; with_reducible rfl
              rotate_left; · simp only [Act.put, sa_, sb_, sc_, i64_w, i32_w]; rfl
              refine pure_ (i := 12) (N := some 35) (v := ?_) (a' := ?_) z25_10_ rfl rfl (an_ T_) (fun _ _ _ h => h) (Or.inl ⟨by rfl, ?_⟩) ?_ ?_
              rotate_left; · intro w'; go_simp; with_reducible rfl
              rotate_left; · simp only [Act.put, sa_, sb_, sc_, i64_w, i32_w]; rfl
              refine take_ (i := 5) (N := some 28) (v := ?_) (a' := ?_) z25_11_ rfl rfl (tk_ T_ W_) (fun _ _ _ h => h) (Or.inl ⟨by rfl, ?_⟩) hL ?_ ?_
              rotate_left
              ·rintro w' ⟨s0, s1, s2, s3, s4⟩
               go_simp
               with_reducible rfl
              rotate_left
              ·simp only [Act.put, sa_, sb_, sc_, i64_w, i32_w]
               rfl
              refine take_ (i := 8) (N := some 31) (v := ?_) (a' := ?_) z25_12_ rfl rfl (tk_ T_ W_) (fun _ _ _ h => h) (Or.inl ⟨by rfl, ?_⟩) hL ?_ ?_
              rotate_left
              ·rintro w' ⟨s0, s1, s2, s3, s4⟩
               go_simp
               with_reducible rfl
              rotate_left
              ·simp only [Act.put, sa_, sb_, sc_, i64_w, i32_w]
               rfl
              refine one_ (i := 9) (N := some 32) z25_13_ rfl rfl (on_ T_) (by decide) (fun K hK => ?_)
              refine goes_ Tryd.func29 (by kernel_rfl) rfl #[.int .i64 2, .int .u64 x292000_2, .int .u64 7373] (by rfl) rfl rfl (by (try simp only [List.map_toArray, List.map_cons, List.map_nil]); first | done | rfl) ?_
              with_reducible refine (field_Pow.calls k2 2 x292000_2 7373 t304 _ ?side1 A36.out).mono ?_
              (case side1 => repeat (first | exact (GL.below HRG.out HB.out) | (with_reducible refine GL.alloc ?_ _) | (with_reducible refine GL.drewN ?_ _) | (with_reducible refine GL.drew ?_)))
              rintro e w40 ⟨rfl, hb⟩
              refine ⟨_, rfl, ?_⟩
              have n0_ := Aside0.mk (blk_below (g := g291) (o := .cells #[.int .u64 x292000_2, .int .u64 x292001_2, .int .u64 x292002_2, .int .u64 x292003_2] 23 (0, 0)) (by (with_reducible repeat first | refine blk_drewN ?_ _ | refine blk_drew ?_ | refine blk_alloc ?_ _); exact B291.out) hb)
              have n1_ := Aside0.mk (blk_below (g := g292) (o := .cells #[.int .u64 0, .int .u64 0, .int .u64 0, .int .u64 0] 23 (0, 0)) (by (with_reducible repeat first | refine blk_drewN ?_ _ | refine blk_drew ?_ | refine blk_alloc ?_ _); exact B292.out) hb)
              have n2_ := Aside0.mk (below_step (by repeat (first | (with_reducible first | exact HB.out | apply below_alloc | apply pw_below_drewN | apply below_drew1 | refine below_set ?_ GE291.out | refine below_set ?_ GE292.out) | exact HB.out)) hb)
              clear B291
              clear B292
              clear HB
              have B291 := n0_
              have B292 := n1_
              have HB := n2_
              clear n0_ n1_ n2_
              (try clear hb)
              (try clear hb2)
              (try clear hk)
              (try clear hi)
              refine hK.out _ _ ⟨bq_ B291 0, bq_ B291 1, bq_ B291 2, bq_ B291 3, ((HRG.out.below HB.out).u0 2 (by decide))⟩ (fun hL => ?_)
              clear hK K
              refine norm_ (a' := ?_) ?_ ?_
              rotate_left
              ·show Act.put _ (some 32) _ = _
               simp only [Act.put, sa_, sb_, sc_, i64_w, i32_w]
               rfl
              refine one_ (i := 13) (N := some 36) z25_14_ rfl rfl (on_ T_) (by decide) (fun K hK => ?_)
              refine goes_ Tryd.func12 (by kernel_rfl) rfl #[.int .i64 2, .int .i64 (wrap64 (7 - x12_1)), .int .i64 0] (by rfl) rfl rfl (by (try simp only [List.map_toArray, List.map_cons, List.map_nil]); first | done | rfl) ?_
              with_reducible refine (sponge_Constant.calls k2 2 (wrap64 (7 - x12_1)) 0 t305 _ ?side1 A37.out).mono ?_
              (case side1 => repeat (first | exact (GL.below HRG.out HB.out) | (with_reducible refine GL.alloc ?_ _) | (with_reducible refine GL.drewN ?_ _) | (with_reducible refine GL.drew ?_)))
              rintro e w41 ⟨rfl, hb⟩
              refine ⟨_, rfl, ?_⟩
              have n0_ := Aside0.mk (blk_below (g := g291) (o := .cells #[.int .u64 x292000_2, .int .u64 x292001_2, .int .u64 x292002_2, .int .u64 x292003_2] 23 (0, 0)) (by (with_reducible repeat first | refine blk_drewN ?_ _ | refine blk_drew ?_ | refine blk_alloc ?_ _); exact B291.out) hb)
              have n1_ := Aside0.mk (blk_below (g := g292) (o := .cells #[.int .u64 0, .int .u64 0, .int .u64 0, .int .u64 0] 23 (0, 0)) (by (with_reducible repeat first | refine blk_drewN ?_ _ | refine blk_drew ?_ | refine blk_alloc ?_ _); exact B292.out) hb)
              have n2_ := Aside0.mk (below_step (by repeat (first | (with_reducible first | exact HB.out | apply below_alloc | apply pw_below_drewN | apply below_drew1 | refine below_set ?_ GE291.out | refine below_set ?_ GE292.out) | exact HB.out)) hb)
              clear B291
              clear B292
              clear HB
              have B291 := n0_
              have B292 := n1_
              have HB := n2_
              clear n0_ n1_ n2_
              (try clear hb)
              (try clear hb2)
              (try clear hk)
              (try clear hi)
              refine hK.out _ _ ⟨bq_ B291 0, bq_ B291 1, bq_ B291 2, bq_ B291 3, ((HRG.out.below HB.out).u0 2 (by decide))⟩ (fun hL => ?_)
              clear hK K
              refine norm_ (a' := ?_) ?_ ?_
              rotate_left
              ·show Act.put _ (some 36) _ = _
               simp only [Act.put, sa_, sb_, sc_, i64_w, i32_w]
               rfl
              refine one_ (i := 14) (N := some 37) z25_15_ rfl rfl (on_ T_) (by decide) (fun K hK => ?_)
              refine goes_ Tryd.func45 (by kernel_rfl) rfl #[.int .i64 2, .int .u64 t304, .int .u64 t305] (by rfl) rfl rfl (by (try simp only [List.map_toArray, List.map_cons, List.map_nil]); first | done | rfl) ?_
              with_reducible refine (field_Sub.calls 2 t304 t305 t306 _ ?side1 A38.out).mono ?_
              (case side1 => repeat (first | exact (GL.below HRG.out HB.out) | (with_reducible refine GL.alloc ?_ _) | (with_reducible refine GL.drewN ?_ _) | (with_reducible refine GL.drew ?_)))
              rintro e w42 ⟨rfl, hb⟩
              refine ⟨_, rfl, ?_⟩
              have n0_ := Aside0.mk (blk_below (g := g291) (o := .cells #[.int .u64 x292000_2, .int .u64 x292001_2, .int .u64 x292002_2, .int .u64 x292003_2] 23 (0, 0)) (by (with_reducible repeat first | refine blk_drewN ?_ _ | refine blk_drew ?_ | refine blk_alloc ?_ _); exact B291.out) hb)
              have n1_ := Aside0.mk (blk_below (g := g292) (o := .cells #[.int .u64 0, .int .u64 0, .int .u64 0, .int .u64 0] 23 (0, 0)) (by (with_reducible repeat first | refine blk_drewN ?_ _ | refine blk_drew ?_ | refine blk_alloc ?_ _); exact B292.out) hb)
              have n2_ := Aside0.mk (below_step (by repeat (first | (with_reducible first | exact HB.out | apply below_alloc | apply pw_below_drewN | apply below_drew1 | refine below_set ?_ GE291.out | refine below_set ?_ GE292.out) | exact HB.out)) hb)
              clear B291
              clear B292
              clear HB
              have B291 := n0_
              have B292 := n1_
              have HB := n2_
              clear n0_ n1_ n2_
              (try clear hb)
              (try clear hb2)
              (try clear hk)
              (try clear hi)
              refine hK.out _ _ ⟨bq_ B291 0, bq_ B291 1, bq_ B291 2, bq_ B291 3, ((HRG.out.below HB.out).u0 2 (by decide))⟩ (fun hL => ?_)
              clear hK K
              refine norm_ (a' := ?_) ?_ ?_
              rotate_left
              ·show Act.put _ (some 37) _ = _
               simp only [Act.put, sa_, sb_, sc_, i64_w, i32_w]
               rfl
              refine pure_ (i := 15) (N := some 38) (v := ?_) (a' := ?_) z25_16_ rfl rfl (an_ T_) (fun _ _ _ h => h) (Or.inl ⟨by rfl, ?_⟩) ?_ ?_
              rotate_left; · intro w'; go_simp; with_reducible rfl
              rotate_left; · simp only [Act.put, sa_, sb_, sc_, i64_w, i32_w]; rfl
              refine last_ (i := 16) (N := none) z25_17_ rfl rfl (on_ T_) (by decide) (fun K hK => ?_)
              have hs43 : w42.cell? ⟨g291, 0, none⟩ = some (.int .u64 x292000_2) := bq_ B291 0
              have hfs43 := blk_frozen B291.out 0
              have hns43_1 := NB292_291.out
              have hms43_1 := NB291_292.out
              refine skip_ (w1 := ?_) (by rfl) rfl ?_ ?_
              rotate_left
              ·go_simp
               rfl
              refine hK.out _ _ ?_
              clear hK K
              refine done_ (done_of T_.out (by kernel_rfl)) ?_
              try go_wp2
              go_roundg k2
              case measure => have := HK1.out; have := HK2.out; omega
              case rel => exact ⟨(wrap64 (0 + 1)), (t306), (x292001_2), (x292002_2), (x292003_2), (by first | rfl | (simp; done) | (simp [*]; done) | (simp; rfl) | (simp; decide +kernel)), H', ⟨by have := HK1.out; have := HK2.out; omega⟩, ⟨by (with_reducible repeat first | refine blk_drewN ?_ _ | refine blk_drew ?_ | refine blk_alloc ?_ _); refine blk_put (cs := #[.int .u64 x292000_2, .int .u64 x292001_2, .int .u64 x292002_2, .int .u64 x292003_2]) ?_ 0 _ rfl; (with_reducible repeat first | refine blk_drewN ?_ _ | refine blk_drew ?_ | refine blk_alloc ?_ _); exact B291.out⟩, ⟨by (with_reducible repeat first | refine blk_drewN ?_ _ | refine blk_drew ?_ | refine blk_alloc ?_ _); refine blk_far ?_ NB292_291.out _; (with_reducible repeat first | refine blk_drewN ?_ _ | refine blk_drew ?_ | refine blk_alloc ?_ _); exact B292.out⟩, ⟨by repeat (first | (with_reducible first | exact HB.out | apply below_alloc | apply pw_below_drewN | apply below_drew1 | refine below_set ?_ GE291.out | refine below_set ?_ GE292.out) | exact HB.out)⟩⟩
             ·rw [if_neg c35] at H
              by_cases c44 : a0 = 3
              ·rw [if_pos c44] at H
               subst c44
               replace H := Option.bind_eq_some_iff.mp H
               obtain ⟨t307, A450, H⟩ := H
               replace H : ((sponge_Constant.f k2 3 (wrap64 (7 - x12_1)) 0).bind fun t308 => ((field_Sub.f 3 t307 t308).bind fun t309 => (sponge_Inverse.l1 k2 3 (wrap64 (7 - x12_1)) x12_1 (wrap64 (0 + 1)) t309 x292001_2 x292002_2 x292003_2))) = some (r1, r2, r3, r4) := H
               have A45 := Aside0.mk A450
               clear A450
               replace H := Option.bind_eq_some_iff.mp H
               obtain ⟨t308, A460, H⟩ := H
               replace H : ((field_Sub.f 3 t307 t308).bind fun t309 => (sponge_Inverse.l1 k2 3 (wrap64 (7 - x12_1)) x12_1 (wrap64 (0 + 1)) t309 x292001_2 x292002_2 x292003_2)) = some (r1, r2, r3, r4) := H
               have A46 := Aside0.mk A460
               clear A460
               replace H := Option.bind_eq_some_iff.mp H
               obtain ⟨t309, A470, H⟩ := H
               replace H : (sponge_Inverse.l1 k2 3 (wrap64 (7 - x12_1)) x12_1 (wrap64 (0 + 1)) t309 x292001_2 x292002_2 x292003_2) = some (r1, r2, r3, r4) := H
               have A47 := Aside0.mk A470
               clear A470
               have H' := Aside0.mk H
               clear H
               try go_wp2
               have n0_ := Aside0.mk (blk_drew B291.out)
               have n1_ := Aside0.mk (blk_drew B292.out)
               have n2_ := Aside0.mk (below_drew1 HB.out)
               clear B291
               clear B292
               clear HB
               have B291 := n0_
               have B292 := n1_
               have HB := n2_
               clear n0_ n1_ n2_
               refine start_ (n := 17) (S := fun w' => w'.cell? ⟨g291, 0, none⟩ = some (.int .u64 x292000_2) ∧ w'.cell? ⟨g291, 1, none⟩ = some (.int .u64 x292001_2) ∧ w'.cell? ⟨g291, 2, none⟩ = some (.int .u64 x292002_2) ∧ w'.cell? ⟨g291, 3, none⟩ = some (.int .u64 x292003_2) ∧ w'.cell? ⟨0, 3, none⟩ = some (.int .u64 665496235)) (ds := [16]) z25_0_ (by kernel_rfl) rfl rfl ⟨bq_ B291 0, bq_ B291 1, bq_ B291 2, bq_ B291 3, ((HRG.out.below HB.out).u0 3 (by decide))⟩ (fun hL => ?_); refine with_tabW sponge_Inverse.tab11 sponge_Inverse.bits11 (fun T_ W_ => ?_)
               generalize wr.drew = w48 at B291 B292 HB hL ⊢
               refine pure_ (i := 0) (N := some 23) (v := ?_) (a' := ?_) z25_1_ rfl rfl (an_ T_) (fun _ _ _ h => h) (Or.inl ⟨by rfl, ?_⟩) ?_ ?_
               rotate_left; · intro w'; go_simp; with_reducible rfl
               rotate_left; · simp only [Act.put, sa_, sb_, sc_, i64_w, i32_w]; rfl
               refine pure_ (i := 1) (N := some 24) (v := ?_) (a' := ?_) z25_2_ rfl rfl (an_ T_) (fun _ _ _ h => h) (Or.inl ⟨by rfl, ?_⟩) ?_ ?_
               rotate_left; · intro w'; go_simp; with_reducible rfl
               rotate_left; · simp only [Act.put, sa_, sb_, sc_, i64_w, i32_w]; rfl
               refine pure_ (i := 2) (N := some 25) (v := ?_) (a' := ?_) z25_3_ rfl rfl (an_ T_) (fun _ _ _ h => h) (Or.inl ⟨by rfl, ?_⟩) ?_ ?_
               rotate_left; · intro w'; go_simp; with_reducible rfl
               rotate_left; · simp only [Act.put, sa_, sb_, sc_, i64_w, i32_w]; rfl
               refine pure_ (i := 3) (N := some 26) (v := ?_) (a' := ?_) z25_4_ rfl rfl (an_ T_) (fun _ _ _ h => h) (Or.inl ⟨by rfl, ?_⟩) ?_ ?_
               rotate_left; · intro w'; go_simp; with_reducible rfl
               rotate_left; · simp only [Act.put, sa_, sb_, sc_, i64_w, i32_w]; rfl
               refine pure_ (i := 4) (N := some 27) (v := ?_) (a' := ?_) z25_5_ rfl rfl (an_ T_) (fun _ _ _ h => h) (Or.inl ⟨by rfl, ?_⟩) ?_ ?_
               rotate_left; · intro w'; go_simp; with_reducible rfl
               rotate_left; · simp only [Act.put, sa_, sb_, sc_, i64_w, i32_w]; rfl
               refine pure_ (i := 6) (N := some 29) (v := ?_) (a' := ?_) z25_6_ rfl rfl (an_ T_) (fun _ _ _ h => h) (Or.inl ⟨by rfl, ?_⟩) ?_ ?_
               rotate_left; · intro w'; go_simp; with_reducible rfl
               rotate_left; · simp only [Act.put, sa_, sb_, sc_, i64_w, i32_w]; rfl
               refine pure_ (i := 7) (N := some 30) (v := ?_) (a' := ?_) z25_7_ rfl rfl (an_ T_) (fun _ _ _ h => h) (Or.inl ⟨by rfl, ?_⟩) ?_ ?_
               rotate_left; · intro w'; go_simp; with_reducible rfl
               rotate_left; · simp only [Act.put, sa_, sb_, sc_, i64_w, i32_w]; rfl
               refine pure_ (i := 10) (N := some 33) (v := ?_) (a' := ?_) z25_8_ rfl rfl (an_ T_) (fun _ _ _ h => h) (Or.inl ⟨by rfl, ?_⟩) ?_ ?_
               rotate_left; · intro w'; go_simp; with_reducible rfl
               rotate_left; · simp only [Act.put, sa_, sb_, sc_, i64_w, i32_w]; rfl
               refine pure_ (i := 11) (N := some 34) (v := ?_) (a' := ?_) z25_9_ rfl rfl (an_ T_) (fun _ _ _ h => h) (Or.inl ⟨by rfl, ?_⟩) ?_ ?_
               rotate_left; · intro w'; go_simp; with_reducible rfl
               rotate_left; · simp only [Act.put, sa_, sb_, sc_, i64_w, i32_w]; rfl
               refine pure_ (i := 12) (N := some 35) (v := ?_) (a' := ?_) z25_10_ rfl rfl (an_ T_) (fun _ _ _ h => h) (Or.inl ⟨by rfl, ?_⟩) ?_ ?_
               rotate_left; · intro w'; go_simp; with_reducible rfl
               rotate_left; · simp only [Act.put, sa_, sb_, sc_, i64_w, i32_w]; rfl
               refine take_ (i := 5) (N := some 28) (v := ?_) (a' := ?_) z25_11_ rfl rfl (tk_ T_ W_) (fun _ _ _ h => h) (Or.inl ⟨by rfl, ?_⟩) hL ?_ ?_
               rotate_left
               ·rintro w' ⟨s0, s1, s2, s3, s4⟩
                go_simp
                with_reducible rfl
               rotate_left
               ·simp only [Act.put, sa_, sb_, sc_, i64_w, i32_w]
                rfl
               refine take_ (i := 8) (N := some 31) (v := ?_) (a' := ?_) z25_12_ rfl rfl (tk_ T_ W_) (fun _ _ _ h => h) (Or.inl ⟨by rfl, ?_⟩) hL ?_ ?_
               rotate_left
               ·rintro w' ⟨s0, s1, s2, s3, s4⟩
                go_simp
                with_reducible rfl
               rotate_left
               ·simp only [Act.put, sa_, sb_, sc_, i64_w, i32_w]
                rfl
               refine one_ (i := 9) (N := some 32) z25_13_ rfl rfl (on_ T_) (by decide) (fun K hK => ?_)
               refine goes_ Tryd.func29 (by kernel_rfl) rfl #[.int .i64 3, .int .u64 x292000_2, .int .u64 665496235] (by rfl) rfl rfl (by (try simp only [List.map_toArray, List.map_cons, List.map_nil]); first | done | rfl) ?_
               with_reducible refine (field_Pow.calls k2 3 x292000_2 665496235 t307 _ ?side1 A45.out).mono ?_
               (case side1 => repeat (first | exact (GL.below HRG.out HB.out) | (with_reducible refine GL.alloc ?_ _) | (with_reducible refine GL.drewN ?_ _) | (with_reducible refine GL.drew ?_)))
               rintro e w49 ⟨rfl, hb⟩
               refine ⟨_, rfl, ?_⟩
               have n0_ := Aside0.mk (blk_below (g := g291) (o := .cells #[.int .u64 x292000_2, .int .u64 x292001_2, .int .u64 x292002_2, .int .u64 x292003_2] 23 (0, 0)) (by (with_reducible repeat first | refine blk_drewN ?_ _ | refine blk_drew ?_ | refine blk_alloc ?_ _); exact B291.out) hb)
               have n1_ := Aside0.mk (blk_below (g := g292) (o := .cells #[.int .u64 0, .int .u64 0, .int .u64 0, .int .u64 0] 23 (0, 0)) (by (with_reducible repeat first | refine blk_drewN ?_ _ | refine blk_drew ?_ | refine blk_alloc ?_ _); exact B292.out) hb)
               have n2_ := Aside0.mk (below_step (by repeat (first | (with_reducible first | exact HB.out | apply below_alloc | apply pw_below_drewN | apply below_drew1 | refine below_set ?_ GE291.out | refine below_set ?_ GE292.out) | exact HB.out)) hb)
               clear B291
               clear B292
               clear HB
               have B291 := n0_
               have B292 := n1_
               have HB := n2_
               clear n0_ n1_ n2_
               (try clear hb)
               (try clear hb2)
               (try clear hk)
               (try clear hi)
               refine hK.out _ _ ⟨bq_ B291 0, bq_ B291 1, bq_ B291 2, bq_ B291 3, ((HRG.out.below HB.out).u0 3 (by decide))⟩ (fun hL => ?_)
               clear hK K
               refine norm_ (a' := ?_) ?_ ?_
               rotate_left
               ·show Act.put _ (some 32) _ = _
                simp only [Act.put, sa_, sb_, sc_, i64_w, i32_w]
                rfl
               refine one_ (i := 13) (N := some 36) z25_14_ rfl rfl (on_ T_) (by decide) (fun K hK => ?_)
               refine goes_ Tryd.func12 (by kernel_rfl) rfl #[.int .i64 3, .int .i64 (wrap64 (7 - x12_1)), .int .i64 0] (by rfl) rfl rfl (by (try simp only [List.map_toArray, List.map_cons, List.map_nil]); first | done | rfl) ?_
               with_reducible refine (sponge_Constant.calls k2 3 (wrap64 (7 - x12_1)) 0 t308 _ ?side1 A46.out).mono ?_
               (case side1 => repeat (first | exact (GL.below HRG.out HB.out) | (with_reducible refine GL.alloc ?_ _) | (with_reducible refine GL.drewN ?_ _) | (with_reducible refine GL.drew ?_)))
               rintro e w50 ⟨rfl, hb⟩
               refine ⟨_, rfl, ?_⟩
               have n0_ := Aside0.mk (blk_below (g := g291) (o := .cells #[.int .u64 x292000_2, .int .u64 x292001_2, .int .u64 x292002_2, .int .u64 x292003_2] 23 (0, 0)) (by (with_reducible repeat first | refine blk_drewN ?_ _ | refine blk_drew ?_ | refine blk_alloc ?_ _); exact B291.out) hb)
               have n1_ := Aside0.mk (blk_below (g := g292) (o := .cells #[.int .u64 0, .int .u64 0, .int .u64 0, .int .u64 0] 23 (0, 0)) (by (with_reducible repeat first | refine blk_drewN ?_ _ | refine blk_drew ?_ | refine blk_alloc ?_ _); exact B292.out) hb)
               have n2_ := Aside0.mk (below_step (by repeat (first | (with_reducible first | exact HB.out | apply below_alloc | apply pw_below_drewN | apply below_drew1 | refine below_set ?_ GE291.out | refine below_set ?_ GE292.out) | exact HB.out)) hb)
               clear B291
               clear B292
               clear HB
               have B291 := n0_
               have B292 := n1_
               have HB := n2_
               clear n0_ n1_ n2_
               (try clear hb)
               (try clear hb2)
               (try clear hk)
               (try clear hi)
               refine hK.out _ _ ⟨bq_ B291 0, bq_ B291 1, bq_ B291 2, bq_ B291 3, ((HRG.out.below HB.out).u0 3 (by decide))⟩ (fun hL => ?_)
               clear hK K
               refine norm_ (a' := ?_) ?_ ?_
               rotate_left
               ·show Act.put _ (some 36) _ = _
                simp only [Act.put, sa_, sb_, sc_, i64_w, i32_w]
                rfl
               refine one_ (i := 14) (N := some 37) z25_15_ rfl rfl (on_ T_) (by decide) (fun K hK => ?_)
               refine goes_ Tryd.func45 (by kernel_rfl) rfl #[.int .i64 3, .int .u64 t307, .int .u64 t308] (by rfl) rfl rfl (by (try simp only [List.map_toArray, List.map_cons, List.map_nil]); first | done | rfl) ?_
               with_reducible refine (field_Sub.calls 3 t307 t308 t309 _ ?side1 A47.out).mono ?_
               (case side1 => repeat (first | exact (GL.below HRG.out HB.out) | (with_reducible refine GL.alloc ?_ _) | (with_reducible refine GL.drewN ?_ _) | (with_reducible refine GL.drew ?_)))
               rintro e w51 ⟨rfl, hb⟩
               refine ⟨_, rfl, ?_⟩
               have n0_ := Aside0.mk (blk_below (g := g291) (o := .cells #[.int .u64 x292000_2, .int .u64 x292001_2, .int .u64 x292002_2, .int .u64 x292003_2] 23 (0, 0)) (by (with_reducible repeat first | refine blk_drewN ?_ _ | refine blk_drew ?_ | refine blk_alloc ?_ _); exact B291.out) hb)
               have n1_ := Aside0.mk (blk_below (g := g292) (o := .cells #[.int .u64 0, .int .u64 0, .int .u64 0, .int .u64 0] 23 (0, 0)) (by (with_reducible repeat first | refine blk_drewN ?_ _ | refine blk_drew ?_ | refine blk_alloc ?_ _); exact B292.out) hb)
               have n2_ := Aside0.mk (below_step (by repeat (first | (with_reducible first | exact HB.out | apply below_alloc | apply pw_below_drewN | apply below_drew1 | refine below_set ?_ GE291.out | refine below_set ?_ GE292.out) | exact HB.out)) hb)
               clear B291
               clear B292
               clear HB
               have B291 := n0_
               have B292 := n1_
               have HB := n2_
               clear n0_ n1_ n2_
               (try clear hb)
               (try clear hb2)
               (try clear hk)
               (try clear hi)
               refine hK.out _ _ ⟨bq_ B291 0, bq_ B291 1, bq_ B291 2, bq_ B291 3, ((HRG.out.below HB.out).u0 3 (by decide))⟩ (fun hL => ?_)
               clear hK K
               refine norm_ (a' := ?_) ?_ ?_
               rotate_left
               ·show Act.put _ (some 37) _ = _
                simp only [Act.put, sa_, sb_, sc_, i64_w, i32_w]
                rfl
               refine pure_ (i := 15) (N := some 38) (v := ?_) (a' := ?_) z25_16_ rfl rfl (an_ T_) (fun _ _ _ h => h) (Or.inl ⟨by rfl, ?_⟩) ?_ ?_
               rotate_left; · intro w'; go_simp; with_reducible rfl
               rotate_left; · simp only [Act.put, sa_, sb_, sc_, i64_w, i32_w]; rfl
               refine last_ (i := 16) (N := none) z25_17_ rfl rfl (on_ T_) (by decide) (fun K hK => ?_)
               have hs52 : w51.cell? ⟨g291, 0, none⟩ = some (.int .u64 x292000_2) := bq_ B291 0
               have hfs52 := blk_frozen B291.out 0
               have hns52_1 := NB292_291.out
               have hms52_1 := NB291_292.out
               refine skip_ (w1 := ?_) (by rfl) rfl ?_ ?_
               rotate_left
               ·go_simp
                rfl
               refine hK.out _ _ ?_
               clear hK K
               refine done_ (done_of T_.out (by kernel_rfl)) ?_
               try go_wp2
               go_roundg k2
               case measure => have := HK1.out; have := HK2.out; omega
               case rel => exact ⟨(wrap64 (0 + 1)), (t309), (x292001_2), (x292002_2), (x292003_2), (by first | rfl | (simp; done) | (simp [*]; done) | (simp; rfl) | (simp; decide +kernel)), H', ⟨by have := HK1.out; have := HK2.out; omega⟩, ⟨by (with_reducible repeat first | refine blk_drewN ?_ _ | refine blk_drew ?_ | refine blk_alloc ?_ _); refine blk_put (cs := #[.int .u64 x292000_2, .int .u64 x292001_2, .int .u64 x292002_2, .int .u64 x292003_2]) ?_ 0 _ rfl; (with_reducible repeat first | refine blk_drewN ?_ _ | refine blk_drew ?_ | refine blk_alloc ?_ _); exact B291.out⟩, ⟨by (with_reducible repeat first | refine blk_drewN ?_ _ | refine blk_drew ?_ | refine blk_alloc ?_ _); refine blk_far ?_ NB292_291.out _; (with_reducible repeat first | refine blk_drewN ?_ _ | refine blk_drew ?_ | refine blk_alloc ?_ _); exact B292.out⟩, ⟨by repeat (first | (with_reducible first | exact HB.out | apply below_alloc | apply pw_below_drewN | apply below_drew1 | refine below_set ?_ GE291.out | refine below_set ?_ GE292.out) | exact HB.out)⟩⟩
              ·rw [if_neg c44] at H
               exact absurd H (by simp)
          ·rw [if_neg c16] at H
           exact absurd H (by simp)
         ·rw [if_neg c15] at H
          by_cases c53 : x20_2 = 1
          ·rw [if_pos c53] at H
           subst c53
           by_cases c54 : 0 ≤ a0
           ·rw [if_pos c54] at H
            have c54b0 : decide (0 ≤ a0) = true := decide_eq_true c54
            clear c54
            by_cases c55 : a0 = 0
            ·rw [if_pos c55] at H
             subst c55
             replace H := Option.bind_eq_some_iff.mp H
             obtain ⟨t310, A560, H⟩ := H
             replace H : ((sponge_Constant.f k2 0 (wrap64 (7 - x12_1)) 1).bind fun t311 => ((field_Sub.f 0 t310 t311).bind fun t312 => (sponge_Inverse.l1 k2 0 (wrap64 (7 - x12_1)) x12_1 (wrap64 (1 + 1)) x292000_2 t312 x292002_2 x292003_2))) = some (r1, r2, r3, r4) := H
             have A56 := Aside0.mk A560
             clear A560
             replace H := Option.bind_eq_some_iff.mp H
             obtain ⟨t311, A570, H⟩ := H
             replace H : ((field_Sub.f 0 t310 t311).bind fun t312 => (sponge_Inverse.l1 k2 0 (wrap64 (7 - x12_1)) x12_1 (wrap64 (1 + 1)) x292000_2 t312 x292002_2 x292003_2)) = some (r1, r2, r3, r4) := H
             have A57 := Aside0.mk A570
             clear A570
             replace H := Option.bind_eq_some_iff.mp H
             obtain ⟨t312, A580, H⟩ := H
             replace H : (sponge_Inverse.l1 k2 0 (wrap64 (7 - x12_1)) x12_1 (wrap64 (1 + 1)) x292000_2 t312 x292002_2 x292003_2) = some (r1, r2, r3, r4) := H
             have A58 := Aside0.mk A580
             clear A580
             have H' := Aside0.mk H
             clear H
             try go_wp2
             have n0_ := Aside0.mk (blk_drew B291.out)
             have n1_ := Aside0.mk (blk_drew B292.out)
             have n2_ := Aside0.mk (below_drew1 HB.out)
             clear B291
             clear B292
             clear HB
             have B291 := n0_
             have B292 := n1_
             have HB := n2_
             clear n0_ n1_ n2_
             refine start_ (n := 17) (S := fun w' => w'.cell? ⟨g291, 0, none⟩ = some (.int .u64 x292000_2) ∧ w'.cell? ⟨g291, 1, none⟩ = some (.int .u64 x292001_2) ∧ w'.cell? ⟨g291, 2, none⟩ = some (.int .u64 x292002_2) ∧ w'.cell? ⟨g291, 3, none⟩ = some (.int .u64 x292003_2) ∧ w'.cell? ⟨0, 0, none⟩ = some (.int .u64 77)) (ds := [16]) z25_0_ (by kernel_rfl) rfl rfl ⟨bq_ B291 0, bq_ B291 1, bq_ B291 2, bq_ B291 3, ((HRG.out.below HB.out).u0 0 (by decide))⟩ (fun hL => ?_); refine with_tabW sponge_Inverse.tab11 sponge_Inverse.bits11 (fun T_ W_ => ?_)
             generalize wr.drew = w59 at B291 B292 HB hL ⊢
             refine pure_ (i := 0) (N := some 23) (v := ?_) (a' := ?_) z25_1_ rfl rfl (an_ T_) (fun _ _ _ h => h) (Or.inl ⟨by rfl, ?_⟩) ?_ ?_
             rotate_left; · intro w'; go_simp; with_reducible rfl
             rotate_left; · simp only [Act.put, sa_, sb_, sc_, i64_w, i32_w]; rfl
             refine pure_ (i := 1) (N := some 24) (v := ?_) (a' := ?_) z25_2_ rfl rfl (an_ T_) (fun _ _ _ h => h) (Or.inl ⟨by rfl, ?_⟩) ?_ ?_
             rotate_left; · intro w'; go_simp; with_reducible rfl
             rotate_left; · simp only [Act.put, sa_, sb_, sc_, i64_w, i32_w]; rfl
             refine pure_ (i := 2) (N := some 25) (v := ?_) (a' := ?_) z25_3_ rfl rfl (an_ T_) (fun _ _ _ h => h) (Or.inl ⟨by rfl, ?_⟩) ?_ ?_
             rotate_left; · intro w'; go_simp; with_reducible rfl
             rotate_left; · simp only [Act.put, sa_, sb_, sc_, i64_w, i32_w]; rfl
             refine pure_ (i := 3) (N := some 26) (v := ?_) (a' := ?_) z25_4_ rfl rfl (an_ T_) (fun _ _ _ h => h) (Or.inl ⟨by rfl, ?_⟩) ?_ ?_
             rotate_left; · intro w'; go_simp; with_reducible rfl
             rotate_left; · simp only [Act.put, sa_, sb_, sc_, i64_w, i32_w]; rfl
             refine pure_ (i := 4) (N := some 27) (v := ?_) (a' := ?_) z25_5_ rfl rfl (an_ T_) (fun _ _ _ h => h) (Or.inl ⟨by rfl, ?_⟩) ?_ ?_
             rotate_left; · intro w'; go_simp; with_reducible rfl
             rotate_left; · simp only [Act.put, sa_, sb_, sc_, i64_w, i32_w]; rfl
             refine pure_ (i := 6) (N := some 29) (v := ?_) (a' := ?_) z25_6_ rfl rfl (an_ T_) (fun _ _ _ h => h) (Or.inl ⟨by rfl, ?_⟩) ?_ ?_
             rotate_left; · intro w'; go_simp; with_reducible rfl
             rotate_left; · simp only [Act.put, sa_, sb_, sc_, i64_w, i32_w]; rfl
             refine pure_ (i := 7) (N := some 30) (v := ?_) (a' := ?_) z25_7_ rfl rfl (an_ T_) (fun _ _ _ h => h) (Or.inl ⟨by rfl, ?_⟩) ?_ ?_
             rotate_left; · intro w'; go_simp; with_reducible rfl
             rotate_left; · simp only [Act.put, sa_, sb_, sc_, i64_w, i32_w]; rfl
             refine pure_ (i := 10) (N := some 33) (v := ?_) (a' := ?_) z25_8_ rfl rfl (an_ T_) (fun _ _ _ h => h) (Or.inl ⟨by rfl, ?_⟩) ?_ ?_
             rotate_left; · intro w'; go_simp; with_reducible rfl
             rotate_left; · simp only [Act.put, sa_, sb_, sc_, i64_w, i32_w]; rfl
             refine pure_ (i := 11) (N := some 34) (v := ?_) (a' := ?_) z25_9_ rfl rfl (an_ T_) (fun _ _ _ h => h) (Or.inl ⟨by rfl, ?_⟩) ?_ ?_
             rotate_left; · intro w'; go_simp; with_reducible rfl
             rotate_left; · simp only [Act.put, sa_, sb_, sc_, i64_w, i32_w]; rfl
             refine pure_ (i := 12) (N := some 35) (v := ?_) (a' := ?_) z25_10_ rfl rfl (an_ T_) (fun _ _ _ h => h) (Or.inl ⟨by rfl, ?_⟩) ?_ ?_
             rotate_left; · intro w'; go_simp; with_reducible rfl
             rotate_left; · simp only [Act.put, sa_, sb_, sc_, i64_w, i32_w]; rfl
             refine take_ (i := 5) (N := some 28) (v := ?_) (a' := ?_) z25_11_ rfl rfl (tk_ T_ W_) (fun _ _ _ h => h) (Or.inl ⟨by rfl, ?_⟩) hL ?_ ?_
             rotate_left
             ·rintro w' ⟨s0, s1, s2, s3, s4⟩
              go_simp
              with_reducible rfl
             rotate_left
             ·simp only [Act.put, sa_, sb_, sc_, i64_w, i32_w]
              rfl
             refine take_ (i := 8) (N := some 31) (v := ?_) (a' := ?_) z25_12_ rfl rfl (tk_ T_ W_) (fun _ _ _ h => h) (Or.inl ⟨by rfl, ?_⟩) hL ?_ ?_
             rotate_left
             ·rintro w' ⟨s0, s1, s2, s3, s4⟩
              go_simp
              with_reducible rfl
             rotate_left
             ·simp only [Act.put, sa_, sb_, sc_, i64_w, i32_w]
              rfl
             refine one_ (i := 9) (N := some 32) z25_13_ rfl rfl (on_ T_) (by decide) (fun K hK => ?_)
             refine goes_ Tryd.func29 (by kernel_rfl) rfl #[.int .i64 0, .int .u64 x292001_2, .int .u64 77] (by rfl) rfl rfl (by (try simp only [List.map_toArray, List.map_cons, List.map_nil]); first | done | rfl) ?_
             with_reducible refine (field_Pow.calls k2 0 x292001_2 77 t310 _ ?side1 A56.out).mono ?_
             (case side1 => repeat (first | exact (GL.below HRG.out HB.out) | (with_reducible refine GL.alloc ?_ _) | (with_reducible refine GL.drewN ?_ _) | (with_reducible refine GL.drew ?_)))
             rintro e w60 ⟨rfl, hb⟩
             refine ⟨_, rfl, ?_⟩
             have n0_ := Aside0.mk (blk_below (g := g291) (o := .cells #[.int .u64 x292000_2, .int .u64 x292001_2, .int .u64 x292002_2, .int .u64 x292003_2] 23 (0, 0)) (by (with_reducible repeat first | refine blk_drewN ?_ _ | refine blk_drew ?_ | refine blk_alloc ?_ _); exact B291.out) hb)
             have n1_ := Aside0.mk (blk_below (g := g292) (o := .cells #[.int .u64 0, .int .u64 0, .int .u64 0, .int .u64 0] 23 (0, 0)) (by (with_reducible repeat first | refine blk_drewN ?_ _ | refine blk_drew ?_ | refine blk_alloc ?_ _); exact B292.out) hb)
             have n2_ := Aside0.mk (below_step (by repeat (first | (with_reducible first | exact HB.out | apply below_alloc | apply pw_below_drewN | apply below_drew1 | refine below_set ?_ GE291.out | refine below_set ?_ GE292.out) | exact HB.out)) hb)
             clear B291
             clear B292
             clear HB
             have B291 := n0_
             have B292 := n1_
             have HB := n2_
             clear n0_ n1_ n2_
             (try clear hb)
             (try clear hb2)
             (try clear hk)
             (try clear hi)
             refine hK.out _ _ ⟨bq_ B291 0, bq_ B291 1, bq_ B291 2, bq_ B291 3, ((HRG.out.below HB.out).u0 0 (by decide))⟩ (fun hL => ?_)
             clear hK K
             refine norm_ (a' := ?_) ?_ ?_
             rotate_left
             ·show Act.put _ (some 32) _ = _
              simp only [Act.put, sa_, sb_, sc_, i64_w, i32_w]
              rfl
             refine one_ (i := 13) (N := some 36) z25_14_ rfl rfl (on_ T_) (by decide) (fun K hK => ?_)
             refine goes_ Tryd.func12 (by kernel_rfl) rfl #[.int .i64 0, .int .i64 (wrap64 (7 - x12_1)), .int .i64 1] (by rfl) rfl rfl (by (try simp only [List.map_toArray, List.map_cons, List.map_nil]); first | done | rfl) ?_
             with_reducible refine (sponge_Constant.calls k2 0 (wrap64 (7 - x12_1)) 1 t311 _ ?side1 A57.out).mono ?_
             (case side1 => repeat (first | exact (GL.below HRG.out HB.out) | (with_reducible refine GL.alloc ?_ _) | (with_reducible refine GL.drewN ?_ _) | (with_reducible refine GL.drew ?_)))
             rintro e w61 ⟨rfl, hb⟩
             refine ⟨_, rfl, ?_⟩
             have n0_ := Aside0.mk (blk_below (g := g291) (o := .cells #[.int .u64 x292000_2, .int .u64 x292001_2, .int .u64 x292002_2, .int .u64 x292003_2] 23 (0, 0)) (by (with_reducible repeat first | refine blk_drewN ?_ _ | refine blk_drew ?_ | refine blk_alloc ?_ _); exact B291.out) hb)
             have n1_ := Aside0.mk (blk_below (g := g292) (o := .cells #[.int .u64 0, .int .u64 0, .int .u64 0, .int .u64 0] 23 (0, 0)) (by (with_reducible repeat first | refine blk_drewN ?_ _ | refine blk_drew ?_ | refine blk_alloc ?_ _); exact B292.out) hb)
             have n2_ := Aside0.mk (below_step (by repeat (first | (with_reducible first | exact HB.out | apply below_alloc | apply pw_below_drewN | apply below_drew1 | refine below_set ?_ GE291.out | refine below_set ?_ GE292.out) | exact HB.out)) hb)
             clear B291
             clear B292
             clear HB
             have B291 := n0_
             have B292 := n1_
             have HB := n2_
             clear n0_ n1_ n2_
             (try clear hb)
             (try clear hb2)
             (try clear hk)
             (try clear hi)
             refine hK.out _ _ ⟨bq_ B291 0, bq_ B291 1, bq_ B291 2, bq_ B291 3, ((HRG.out.below HB.out).u0 0 (by decide))⟩ (fun hL => ?_)
             clear hK K
             refine norm_ (a' := ?_) ?_ ?_
             rotate_left
             ·show Act.put _ (some 36) _ = _
              simp only [Act.put, sa_, sb_, sc_, i64_w, i32_w]
              rfl
             refine one_ (i := 14) (N := some 37) z25_15_ rfl rfl (on_ T_) (by decide) (fun K hK => ?_)
             refine goes_ Tryd.func45 (by kernel_rfl) rfl #[.int .i64 0, .int .u64 t310, .int .u64 t311] (by rfl) rfl rfl (by (try simp only [List.map_toArray, List.map_cons, List.map_nil]); first | done | rfl) ?_
             with_reducible refine (field_Sub.calls 0 t310 t311 t312 _ ?side1 A58.out).mono ?_
             (case side1 => repeat (first | exact (GL.below HRG.out HB.out) | (with_reducible refine GL.alloc ?_ _) | (with_reducible refine GL.drewN ?_ _) | (with_reducible refine GL.drew ?_)))
             rintro e w62 ⟨rfl, hb⟩
             refine ⟨_, rfl, ?_⟩
             have n0_ := Aside0.mk (blk_below (g := g291) (o := .cells #[.int .u64 x292000_2, .int .u64 x292001_2, .int .u64 x292002_2, .int .u64 x292003_2] 23 (0, 0)) (by (with_reducible repeat first | refine blk_drewN ?_ _ | refine blk_drew ?_ | refine blk_alloc ?_ _); exact B291.out) hb)
             have n1_ := Aside0.mk (blk_below (g := g292) (o := .cells #[.int .u64 0, .int .u64 0, .int .u64 0, .int .u64 0] 23 (0, 0)) (by (with_reducible repeat first | refine blk_drewN ?_ _ | refine blk_drew ?_ | refine blk_alloc ?_ _); exact B292.out) hb)
             have n2_ := Aside0.mk (below_step (by repeat (first | (with_reducible first | exact HB.out | apply below_alloc | apply pw_below_drewN | apply below_drew1 | refine below_set ?_ GE291.out | refine below_set ?_ GE292.out) | exact HB.out)) hb)
             clear B291
             clear B292
             clear HB
             have B291 := n0_
             have B292 := n1_
             have HB := n2_
             clear n0_ n1_ n2_
             (try clear hb)
             (try clear hb2)
             (try clear hk)
             (try clear hi)
             refine hK.out _ _ ⟨bq_ B291 0, bq_ B291 1, bq_ B291 2, bq_ B291 3, ((HRG.out.below HB.out).u0 0 (by decide))⟩ (fun hL => ?_)
             clear hK K
             refine norm_ (a' := ?_) ?_ ?_
             rotate_left
             ·show Act.put _ (some 37) _ = _
              simp only [Act.put, sa_, sb_, sc_, i64_w, i32_w]
              rfl
             refine pure_ (i := 15) (N := some 38) (v := ?_) (a' := ?_) z25_16_ rfl rfl (an_ T_) (fun _ _ _ h => h) (Or.inl ⟨by rfl, ?_⟩) ?_ ?_
             rotate_left; · intro w'; go_simp; with_reducible rfl
             rotate_left; · simp only [Act.put, sa_, sb_, sc_, i64_w, i32_w]; rfl
             refine last_ (i := 16) (N := none) z25_17_ rfl rfl (on_ T_) (by decide) (fun K hK => ?_)
             have hs63 : w62.cell? ⟨g291, 1, none⟩ = some (.int .u64 x292001_2) := bq_ B291 1
             have hfs63 := blk_frozen B291.out 1
             have hns63_1 := NB292_291.out
             have hms63_1 := NB291_292.out
             refine skip_ (w1 := ?_) (by rfl) rfl ?_ ?_
             rotate_left
             ·go_simp
              rfl
             refine hK.out _ _ ?_
             clear hK K
             refine done_ (done_of T_.out (by kernel_rfl)) ?_
             try go_wp2
             go_roundg k2
             case measure => have := HK1.out; have := HK2.out; omega
             case rel => exact ⟨(wrap64 (1 + 1)), (x292000_2), (t312), (x292002_2), (x292003_2), (by first | rfl | (simp; done) | (simp [*]; done) | (simp; rfl) | (simp; decide +kernel)), H', ⟨by have := HK1.out; have := HK2.out; omega⟩, ⟨by (with_reducible repeat first | refine blk_drewN ?_ _ | refine blk_drew ?_ | refine blk_alloc ?_ _); refine blk_put (cs := #[.int .u64 x292000_2, .int .u64 x292001_2, .int .u64 x292002_2, .int .u64 x292003_2]) ?_ 1 _ rfl; (with_reducible repeat first | refine blk_drewN ?_ _ | refine blk_drew ?_ | refine blk_alloc ?_ _); exact B291.out⟩, ⟨by (with_reducible repeat first | refine blk_drewN ?_ _ | refine blk_drew ?_ | refine blk_alloc ?_ _); refine blk_far ?_ NB292_291.out _; (with_reducible repeat first | refine blk_drewN ?_ _ | refine blk_drew ?_ | refine blk_alloc ?_ _); exact B292.out⟩, ⟨by repeat (first | (with_reducible first | exact HB.out | apply below_alloc | apply pw_below_drewN | apply below_drew1 | refine below_set ?_ GE291.out | refine below_set ?_ GE292.out) | exact HB.out)⟩⟩
            ·rw [if_neg c55] at H
             by_cases c64 : a0 = 1
             ·rw [if_pos c64] at H
              subst c64
              replace H := Option.bind_eq_some_iff.mp H
              obtain ⟨t313, A650, H⟩ := H
              replace H : ((sponge_Constant.f k2 1 (wrap64 (7 - x12_1)) 1).bind fun t314 => ((field_Sub.f 1 t313 t314).bind fun t315 => (sponge_Inverse.l1 k2 1 (wrap64 (7 - x12_1)) x12_1 (wrap64 (1 + 1)) x292000_2 t315 x292002_2 x292003_2))) = some (r1, r2, r3, r4) := H
              have A65 := Aside0.mk A650
              clear A650
              replace H := Option.bind_eq_some_iff.mp H
              obtain ⟨t314, A660, H⟩ := H
              replace H : ((field_Sub.f 1 t313 t314).bind fun t315 => (sponge_Inverse.l1 k2 1 (wrap64 (7 - x12_1)) x12_1 (wrap64 (1 + 1)) x292000_2 t315 x292002_2 x292003_2)) = some (r1, r2, r3, r4) := H
              have A66 := Aside0.mk A660
              clear A660
              replace H := Option.bind_eq_some_iff.mp H
              obtain ⟨t315, A670, H⟩ := H
              replace H : (sponge_Inverse.l1 k2 1 (wrap64 (7 - x12_1)) x12_1 (wrap64 (1 + 1)) x292000_2 t315 x292002_2 x292003_2) = some (r1, r2, r3, r4) := H
              have A67 := Aside0.mk A670
              clear A670
              have H' := Aside0.mk H
              clear H
              try go_wp2
              have n0_ := Aside0.mk (blk_drew B291.out)
              have n1_ := Aside0.mk (blk_drew B292.out)
              have n2_ := Aside0.mk (below_drew1 HB.out)
              clear B291
              clear B292
              clear HB
              have B291 := n0_
              have B292 := n1_
              have HB := n2_
              clear n0_ n1_ n2_
              refine start_ (n := 17) (S := fun w' => w'.cell? ⟨g291, 0, none⟩ = some (.int .u64 x292000_2) ∧ w'.cell? ⟨g291, 1, none⟩ = some (.int .u64 x292001_2) ∧ w'.cell? ⟨g291, 2, none⟩ = some (.int .u64 x292002_2) ∧ w'.cell? ⟨g291, 3, none⟩ = some (.int .u64 x292003_2) ∧ w'.cell? ⟨0, 1, none⟩ = some (.int .u64 171)) (ds := [16]) z25_0_ (by kernel_rfl) rfl rfl ⟨bq_ B291 0, bq_ B291 1, bq_ B291 2, bq_ B291 3, ((HRG.out.below HB.out).u0 1 (by decide))⟩ (fun hL => ?_); refine with_tabW sponge_Inverse.tab11 sponge_Inverse.bits11 (fun T_ W_ => ?_)
              generalize wr.drew = w68 at B291 B292 HB hL ⊢
              refine pure_ (i := 0) (N := some 23) (v := ?_) (a' := ?_) z25_1_ rfl rfl (an_ T_) (fun _ _ _ h => h) (Or.inl ⟨by rfl, ?_⟩) ?_ ?_
              rotate_left; · intro w'; go_simp; with_reducible rfl
              rotate_left; · simp only [Act.put, sa_, sb_, sc_, i64_w, i32_w]; rfl
              refine pure_ (i := 1) (N := some 24) (v := ?_) (a' := ?_) z25_2_ rfl rfl (an_ T_) (fun _ _ _ h => h) (Or.inl ⟨by rfl, ?_⟩) ?_ ?_
              rotate_left; · intro w'; go_simp; with_reducible rfl
              rotate_left; · simp only [Act.put, sa_, sb_, sc_, i64_w, i32_w]; rfl
              refine pure_ (i := 2) (N := some 25) (v := ?_) (a' := ?_) z25_3_ rfl rfl (an_ T_) (fun _ _ _ h => h) (Or.inl ⟨by rfl, ?_⟩) ?_ ?_
              rotate_left; · intro w'; go_simp; with_reducible rfl
              rotate_left; · simp only [Act.put, sa_, sb_, sc_, i64_w, i32_w]; rfl
              refine pure_ (i := 3) (N := some 26) (v := ?_) (a' := ?_) z25_4_ rfl rfl (an_ T_) (fun _ _ _ h => h) (Or.inl ⟨by rfl, ?_⟩) ?_ ?_
              rotate_left; · intro w'; go_simp; with_reducible rfl
              rotate_left; · simp only [Act.put, sa_, sb_, sc_, i64_w, i32_w]; rfl
              refine pure_ (i := 4) (N := some 27) (v := ?_) (a' := ?_) z25_5_ rfl rfl (an_ T_) (fun _ _ _ h => h) (Or.inl ⟨by rfl, ?_⟩) ?_ ?_
              rotate_left; · intro w'; go_simp; with_reducible rfl
              rotate_left; · simp only [Act.put, sa_, sb_, sc_, i64_w, i32_w]; rfl
              refine pure_ (i := 6) (N := some 29) (v := ?_) (a' := ?_) z25_6_ rfl rfl (an_ T_) (fun _ _ _ h => h) (Or.inl ⟨by rfl, ?_⟩) ?_ ?_
              rotate_left; · intro w'; go_simp; with_reducible rfl
              rotate_left; · simp only [Act.put, sa_, sb_, sc_, i64_w, i32_w]; rfl
              refine pure_ (i := 7) (N := some 30) (v := ?_) (a' := ?_) z25_7_ rfl rfl (an_ T_) (fun _ _ _ h => h) (Or.inl ⟨by rfl, ?_⟩) ?_ ?_
              rotate_left; · intro w'; go_simp; with_reducible rfl
              rotate_left; · simp only [Act.put, sa_, sb_, sc_, i64_w, i32_w]; rfl
              refine pure_ (i := 10) (N := some 33) (v := ?_) (a' := ?_) z25_8_ rfl rfl (an_ T_) (fun _ _ _ h => h) (Or.inl ⟨by rfl, ?_⟩) ?_ ?_
              rotate_left; · intro w'; go_simp; with_reducible rfl
              rotate_left; · simp only [Act.put, sa_, sb_, sc_, i64_w, i32_w]; rfl
              refine pure_ (i := 11) (N := some 34) (v := ?_) (a' := ?_) z25_9_ rfl rfl (an_ T_) (fun _ _ _ h => h) (Or.inl ⟨by rfl, ?_⟩) ?_ ?_
              rotate_left; · intro w'; go_simp; with_reducible rfl
              rotate_left; · simp only [Act.put, sa_, sb_, sc_, i64_w, i32_w]; rfl
              refine pure_ (i := 12) (N := some 35) (v := ?_) (a' := ?_) z25_10_ rfl rfl (an_ T_) (fun _ _ _ h => h) (Or.inl ⟨by rfl, ?_⟩) ?_ ?_
              rotate_left; · intro w'; go_simp; with_reducible rfl
              rotate_left; · simp only [Act.put, sa_, sb_, sc_, i64_w, i32_w]; rfl
              refine take_ (i := 5) (N := some 28) (v := ?_) (a' := ?_) z25_11_ rfl rfl (tk_ T_ W_) (fun _ _ _ h => h) (Or.inl ⟨by rfl, ?_⟩) hL ?_ ?_
              rotate_left
              ·rintro w' ⟨s0, s1, s2, s3, s4⟩
               go_simp
               with_reducible rfl
              rotate_left
              ·simp only [Act.put, sa_, sb_, sc_, i64_w, i32_w]
               rfl
              refine take_ (i := 8) (N := some 31) (v := ?_) (a' := ?_) z25_12_ rfl rfl (tk_ T_ W_) (fun _ _ _ h => h) (Or.inl ⟨by rfl, ?_⟩) hL ?_ ?_
              rotate_left
              ·rintro w' ⟨s0, s1, s2, s3, s4⟩
               go_simp
               with_reducible rfl
              rotate_left
              ·simp only [Act.put, sa_, sb_, sc_, i64_w, i32_w]
               rfl
              refine one_ (i := 9) (N := some 32) z25_13_ rfl rfl (on_ T_) (by decide) (fun K hK => ?_)
              refine goes_ Tryd.func29 (by kernel_rfl) rfl #[.int .i64 1, .int .u64 x292001_2, .int .u64 171] (by rfl) rfl rfl (by (try simp only [List.map_toArray, List.map_cons, List.map_nil]); first | done | rfl) ?_
              with_reducible refine (field_Pow.calls k2 1 x292001_2 171 t313 _ ?side1 A65.out).mono ?_
              (case side1 => repeat (first | exact (GL.below HRG.out HB.out) | (with_reducible refine GL.alloc ?_ _) | (with_reducible refine GL.drewN ?_ _) | (with_reducible refine GL.drew ?_)))
              rintro e w69 ⟨rfl, hb⟩
              refine ⟨_, rfl, ?_⟩
              have n0_ := Aside0.mk (blk_below (g := g291) (o := .cells #[.int .u64 x292000_2, .int .u64 x292001_2, .int .u64 x292002_2, .int .u64 x292003_2] 23 (0, 0)) (by (with_reducible repeat first | refine blk_drewN ?_ _ | refine blk_drew ?_ | refine blk_alloc ?_ _); exact B291.out) hb)
              have n1_ := Aside0.mk (blk_below (g := g292) (o := .cells #[.int .u64 0, .int .u64 0, .int .u64 0, .int .u64 0] 23 (0, 0)) (by (with_reducible repeat first | refine blk_drewN ?_ _ | refine blk_drew ?_ | refine blk_alloc ?_ _); exact B292.out) hb)
              have n2_ := Aside0.mk (below_step (by repeat (first | (with_reducible first | exact HB.out | apply below_alloc | apply pw_below_drewN | apply below_drew1 | refine below_set ?_ GE291.out | refine below_set ?_ GE292.out) | exact HB.out)) hb)
              clear B291
              clear B292
              clear HB
              have B291 := n0_
              have B292 := n1_
              have HB := n2_
              clear n0_ n1_ n2_
              (try clear hb)
              (try clear hb2)
              (try clear hk)
              (try clear hi)
              refine hK.out _ _ ⟨bq_ B291 0, bq_ B291 1, bq_ B291 2, bq_ B291 3, ((HRG.out.below HB.out).u0 1 (by decide))⟩ (fun hL => ?_)
              clear hK K
              refine norm_ (a' := ?_) ?_ ?_
              rotate_left
              ·show Act.put _ (some 32) _ = _
               simp only [Act.put, sa_, sb_, sc_, i64_w, i32_w]
               rfl
              refine one_ (i := 13) (N := some 36) z25_14_ rfl rfl (on_ T_) (by decide) (fun K hK => ?_)
              refine goes_ Tryd.func12 (by kernel_rfl) rfl #[.int .i64 1, .int .i64 (wrap64 (7 - x12_1)), .int .i64 1] (by rfl) rfl rfl (by (try simp only [List.map_toArray, List.map_cons, List.map_nil]); first | done | rfl) ?_
              with_reducible refine (sponge_Constant.calls k2 1 (wrap64 (7 - x12_1)) 1 t314 _ ?side1 A66.out).mono ?_
              (case side1 => repeat (first | exact (GL.below HRG.out HB.out) | (with_reducible refine GL.alloc ?_ _) | (with_reducible refine GL.drewN ?_ _) | (with_reducible refine GL.drew ?_)))
              rintro e w70 ⟨rfl, hb⟩
              refine ⟨_, rfl, ?_⟩
              have n0_ := Aside0.mk (blk_below (g := g291) (o := .cells #[.int .u64 x292000_2, .int .u64 x292001_2, .int .u64 x292002_2, .int .u64 x292003_2] 23 (0, 0)) (by (with_reducible repeat first | refine blk_drewN ?_ _ | refine blk_drew ?_ | refine blk_alloc ?_ _); exact B291.out) hb)
              have n1_ := Aside0.mk (blk_below (g := g292) (o := .cells #[.int .u64 0, .int .u64 0, .int .u64 0, .int .u64 0] 23 (0, 0)) (by (with_reducible repeat first | refine blk_drewN ?_ _ | refine blk_drew ?_ | refine blk_alloc ?_ _); exact B292.out) hb)
              have n2_ := Aside0.mk (below_step (by repeat (first | (with_reducible first | exact HB.out | apply below_alloc | apply pw_below_drewN | apply below_drew1 | refine below_set ?_ GE291.out | refine below_set ?_ GE292.out) | exact HB.out)) hb)
              clear B291
              clear B292
              clear HB
              have B291 := n0_
              have B292 := n1_
              have HB := n2_
              clear n0_ n1_ n2_
              (try clear hb)
              (try clear hb2)
              (try clear hk)
              (try clear hi)
              refine hK.out _ _ ⟨bq_ B291 0, bq_ B291 1, bq_ B291 2, bq_ B291 3, ((HRG.out.below HB.out).u0 1 (by decide))⟩ (fun hL => ?_)
              clear hK K
              refine norm_ (a' := ?_) ?_ ?_
              rotate_left
              ·show Act.put _ (some 36) _ = _
               simp only [Act.put, sa_, sb_, sc_, i64_w, i32_w]
               rfl
              refine one_ (i := 14) (N := some 37) z25_15_ rfl rfl (on_ T_) (by decide) (fun K hK => ?_)
              refine goes_ Tryd.func45 (by kernel_rfl) rfl #[.int .i64 1, .int .u64 t313, .int .u64 t314] (by rfl) rfl rfl (by (try simp only [List.map_toArray, List.map_cons, List.map_nil]); first | done | rfl) ?_
              with_reducible refine (field_Sub.calls 1 t313 t314 t315 _ ?side1 A67.out).mono ?_
              (case side1 => repeat (first | exact (GL.below HRG.out HB.out) | (with_reducible refine GL.alloc ?_ _) | (with_reducible refine GL.drewN ?_ _) | (with_reducible refine GL.drew ?_)))
              rintro e w71 ⟨rfl, hb⟩
              refine ⟨_, rfl, ?_⟩
              have n0_ := Aside0.mk (blk_below (g := g291) (o := .cells #[.int .u64 x292000_2, .int .u64 x292001_2, .int .u64 x292002_2, .int .u64 x292003_2] 23 (0, 0)) (by (with_reducible repeat first | refine blk_drewN ?_ _ | refine blk_drew ?_ | refine blk_alloc ?_ _); exact B291.out) hb)
              have n1_ := Aside0.mk (blk_below (g := g292) (o := .cells #[.int .u64 0, .int .u64 0, .int .u64 0, .int .u64 0] 23 (0, 0)) (by (with_reducible repeat first | refine blk_drewN ?_ _ | refine blk_drew ?_ | refine blk_alloc ?_ _); exact B292.out) hb)
              have n2_ := Aside0.mk (below_step (by repeat (first | (with_reducible first | exact HB.out | apply below_alloc | apply pw_below_drewN | apply below_drew1 | refine below_set ?_ GE291.out | refine below_set ?_ GE292.out) | exact HB.out)) hb)
              clear B291
              clear B292
              clear HB
              have B291 := n0_
              have B292 := n1_
              have HB := n2_
              clear n0_ n1_ n2_
              (try clear hb)
              (try clear hb2)
              (try clear hk)
              (try clear hi)
              refine hK.out _ _ ⟨bq_ B291 0, bq_ B291 1, bq_ B291 2, bq_ B291 3, ((HRG.out.below HB.out).u0 1 (by decide))⟩ (fun hL => ?_)
              clear hK K
              refine norm_ (a' := ?_) ?_ ?_
              rotate_left
              ·show Act.put _ (some 37) _ = _
               simp only [Act.put, sa_, sb_, sc_, i64_w, i32_w]
               rfl
              refine pure_ (i := 15) (N := some 38) (v := ?_) (a' := ?_) z25_16_ rfl rfl (an_ T_) (fun _ _ _ h => h) (Or.inl ⟨by rfl, ?_⟩) ?_ ?_
              rotate_left; · intro w'; go_simp; with_reducible rfl
              rotate_left; · simp only [Act.put, sa_, sb_, sc_, i64_w, i32_w]; rfl
              refine last_ (i := 16) (N := none) z25_17_ rfl rfl (on_ T_) (by decide) (fun K hK => ?_)
              have hs72 : w71.cell? ⟨g291, 1, none⟩ = some (.int .u64 x292001_2) := bq_ B291 1
              have hfs72 := blk_frozen B291.out 1
              have hns72_1 := NB292_291.out
              have hms72_1 := NB291_292.out
              refine skip_ (w1 := ?_) (by rfl) rfl ?_ ?_
              rotate_left
              ·go_simp
               rfl
              refine hK.out _ _ ?_
              clear hK K
              refine done_ (done_of T_.out (by kernel_rfl)) ?_
              try go_wp2
              go_roundg k2
              case measure => have := HK1.out; have := HK2.out; omega
              case rel => exact ⟨(wrap64 (1 + 1)), (x292000_2), (t315), (x292002_2), (x292003_2), (by first | rfl | (simp; done) | (simp [*]; done) | (simp; rfl) | (simp; decide +kernel)), H', ⟨by have := HK1.out; have := HK2.out; omega⟩, ⟨by (with_reducible repeat first | refine blk_drewN ?_ _ | refine blk_drew ?_ | refine blk_alloc ?_ _); refine blk_put (cs := #[.int .u64 x292000_2, .int .u64 x292001_2, .int .u64 x292002_2, .int .u64 x292003_2]) ?_ 1 _ rfl; (with_reducible repeat first | refine blk_drewN ?_ _ | refine blk_drew ?_ | refine blk_alloc ?_ _); exact B291.out⟩, ⟨by (with_reducible repeat first | refine blk_drewN ?_ _ | refine blk_drew ?_ | refine blk_alloc ?_ _); refine blk_far ?_ NB292_291.out _; (with_reducible repeat first | refine blk_drewN ?_ _ | refine blk_drew ?_ | refine blk_alloc ?_ _); exact B292.out⟩, ⟨by repeat (first | (with_reducible first | exact HB.out | apply below_alloc | apply pw_below_drewN | apply below_drew1 | refine below_set ?_ GE291.out | refine below_set ?_ GE292.out) | exact HB.out)⟩⟩
             ·rw [if_neg c64] at H
              by_cases c73 : a0 = 2
              ·rw [if_pos c73] at H
               subst c73
               replace H := Option.bind_eq_some_iff.mp H
               obtain ⟨t316, A740, H⟩ := H
               replace H : ((sponge_Constant.f k2 2 (wrap64 (7 - x12_1)) 1).bind fun t317 => ((field_Sub.f 2 t316 t317).bind fun t318 => (sponge_Inverse.l1 k2 2 (wrap64 (7 - x12_1)) x12_1 (wrap64 (1 + 1)) x292000_2 t318 x292002_2 x292003_2))) = some (r1, r2, r3, r4) := H
               have A74 := Aside0.mk A740
               clear A740
               replace H := Option.bind_eq_some_iff.mp H
               obtain ⟨t317, A750, H⟩ := H
               replace H : ((field_Sub.f 2 t316 t317).bind fun t318 => (sponge_Inverse.l1 k2 2 (wrap64 (7 - x12_1)) x12_1 (wrap64 (1 + 1)) x292000_2 t318 x292002_2 x292003_2)) = some (r1, r2, r3, r4) := H
               have A75 := Aside0.mk A750
               clear A750
               replace H := Option.bind_eq_some_iff.mp H
               obtain ⟨t318, A760, H⟩ := H
               replace H : (sponge_Inverse.l1 k2 2 (wrap64 (7 - x12_1)) x12_1 (wrap64 (1 + 1)) x292000_2 t318 x292002_2 x292003_2) = some (r1, r2, r3, r4) := H
               have A76 := Aside0.mk A760
               clear A760
               have H' := Aside0.mk H
               clear H
               try go_wp2
               have n0_ := Aside0.mk (blk_drew B291.out)
               have n1_ := Aside0.mk (blk_drew B292.out)
               have n2_ := Aside0.mk (below_drew1 HB.out)
               clear B291
               clear B292
               clear HB
               have B291 := n0_
               have B292 := n1_
               have HB := n2_
               clear n0_ n1_ n2_
               refine start_ (n := 17) (S := fun w' => w'.cell? ⟨g291, 0, none⟩ = some (.int .u64 x292000_2) ∧ w'.cell? ⟨g291, 1, none⟩ = some (.int .u64 x292001_2) ∧ w'.cell? ⟨g291, 2, none⟩ = some (.int .u64 x292002_2) ∧ w'.cell? ⟨g291, 3, none⟩ = some (.int .u64 x292003_2) ∧ w'.cell? ⟨0, 2, none⟩ = some (.int .u64 7373)) (ds := [16]) z25_0_ (by kernel_rfl) rfl rfl ⟨bq_ B291 0, bq_ B291 1, bq_ B291 2, bq_ B291 3, ((HRG.out.below HB.out).u0 2 (by decide))⟩ (fun hL => ?_); refine with_tabW sponge_Inverse.tab11 sponge_Inverse.bits11 (fun T_ W_ => ?_)
               generalize wr.drew = w77 at B291 B292 HB hL ⊢
               refine pure_ (i := 0) (N := some 23) (v := ?_) (a' := ?_) z25_1_ rfl rfl (an_ T_) (fun _ _ _ h => h) (Or.inl ⟨by rfl, ?_⟩) ?_ ?_
               rotate_left; · intro w'; go_simp; with_reducible rfl
               rotate_left; · simp only [Act.put, sa_, sb_, sc_, i64_w, i32_w]; rfl
               refine pure_ (i := 1) (N := some 24) (v := ?_) (a' := ?_) z25_2_ rfl rfl (an_ T_) (fun _ _ _ h => h) (Or.inl ⟨by rfl, ?_⟩) ?_ ?_
               rotate_left; · intro w'; go_simp; with_reducible rfl
               rotate_left; · simp only [Act.put, sa_, sb_, sc_, i64_w, i32_w]; rfl
               refine pure_ (i := 2) (N := some 25) (v := ?_) (a' := ?_) z25_3_ rfl rfl (an_ T_) (fun _ _ _ h => h) (Or.inl ⟨by rfl, ?_⟩) ?_ ?_
               rotate_left; · intro w'; go_simp; with_reducible rfl
               rotate_left; · simp only [Act.put, sa_, sb_, sc_, i64_w, i32_w]; rfl
               refine pure_ (i := 3) (N := some 26) (v := ?_) (a' := ?_) z25_4_ rfl rfl (an_ T_) (fun _ _ _ h => h) (Or.inl ⟨by rfl, ?_⟩) ?_ ?_
               rotate_left; · intro w'; go_simp; with_reducible rfl
               rotate_left; · simp only [Act.put, sa_, sb_, sc_, i64_w, i32_w]; rfl
               refine pure_ (i := 4) (N := some 27) (v := ?_) (a' := ?_) z25_5_ rfl rfl (an_ T_) (fun _ _ _ h => h) (Or.inl ⟨by rfl, ?_⟩) ?_ ?_
               rotate_left; · intro w'; go_simp; with_reducible rfl
               rotate_left; · simp only [Act.put, sa_, sb_, sc_, i64_w, i32_w]; rfl
               refine pure_ (i := 6) (N := some 29) (v := ?_) (a' := ?_) z25_6_ rfl rfl (an_ T_) (fun _ _ _ h => h) (Or.inl ⟨by rfl, ?_⟩) ?_ ?_
               rotate_left; · intro w'; go_simp; with_reducible rfl
               rotate_left; · simp only [Act.put, sa_, sb_, sc_, i64_w, i32_w]; rfl
               refine pure_ (i := 7) (N := some 30) (v := ?_) (a' := ?_) z25_7_ rfl rfl (an_ T_) (fun _ _ _ h => h) (Or.inl ⟨by rfl, ?_⟩) ?_ ?_
               rotate_left; · intro w'; go_simp; with_reducible rfl
               rotate_left; · simp only [Act.put, sa_, sb_, sc_, i64_w, i32_w]; rfl
               refine pure_ (i := 10) (N := some 33) (v := ?_) (a' := ?_) z25_8_ rfl rfl (an_ T_) (fun _ _ _ h => h) (Or.inl ⟨by rfl, ?_⟩) ?_ ?_
               rotate_left; · intro w'; go_simp; with_reducible rfl
               rotate_left; · simp only [Act.put, sa_, sb_, sc_, i64_w, i32_w]; rfl
               refine pure_ (i := 11) (N := some 34) (v := ?_) (a' := ?_) z25_9_ rfl rfl (an_ T_) (fun _ _ _ h => h) (Or.inl ⟨by rfl, ?_⟩) ?_ ?_
               rotate_left; · intro w'; go_simp; with_reducible rfl
               rotate_left; · simp only [Act.put, sa_, sb_, sc_, i64_w, i32_w]; rfl
               refine pure_ (i := 12) (N := some 35) (v := ?_) (a' := ?_) z25_10_ rfl rfl (an_ T_) (fun _ _ _ h => h) (Or.inl ⟨by rfl, ?_⟩) ?_ ?_
               rotate_left; · intro w'; go_simp; with_reducible rfl
               rotate_left; · simp only [Act.put, sa_, sb_, sc_, i64_w, i32_w]; rfl
               refine take_ (i := 5) (N := some 28) (v := ?_) (a' := ?_) z25_11_ rfl rfl (tk_ T_ W_) (fun _ _ _ h => h) (Or.inl ⟨by rfl, ?_⟩) hL ?_ ?_
               rotate_left
               ·rintro w' ⟨s0, s1, s2, s3, s4⟩
                go_simp
                with_reducible rfl
               rotate_left
               ·simp only [Act.put, sa_, sb_, sc_, i64_w, i32_w]
                rfl
               refine take_ (i := 8) (N := some 31) (v := ?_) (a' := ?_) z25_12_ rfl rfl (tk_ T_ W_) (fun _ _ _ h => h) (Or.inl ⟨by rfl, ?_⟩) hL ?_ ?_
               rotate_left
               ·rintro w' ⟨s0, s1, s2, s3, s4⟩
                go_simp
                with_reducible rfl
               rotate_left
               ·simp only [Act.put, sa_, sb_, sc_, i64_w, i32_w]
                rfl
               refine one_ (i := 9) (N := some 32) z25_13_ rfl rfl (on_ T_) (by decide) (fun K hK => ?_)
               refine goes_ Tryd.func29 (by kernel_rfl) rfl #[.int .i64 2, .int .u64 x292001_2, .int .u64 7373] (by rfl) rfl rfl (by (try simp only [List.map_toArray, List.map_cons, List.map_nil]); first | done | rfl) ?_
               with_reducible refine (field_Pow.calls k2 2 x292001_2 7373 t316 _ ?side1 A74.out).mono ?_
               (case side1 => repeat (first | exact (GL.below HRG.out HB.out) | (with_reducible refine GL.alloc ?_ _) | (with_reducible refine GL.drewN ?_ _) | (with_reducible refine GL.drew ?_)))
               rintro e w78 ⟨rfl, hb⟩
               refine ⟨_, rfl, ?_⟩
               have n0_ := Aside0.mk (blk_below (g := g291) (o := .cells #[.int .u64 x292000_2, .int .u64 x292001_2, .int .u64 x292002_2, .int .u64 x292003_2] 23 (0, 0)) (by (with_reducible repeat first | refine blk_drewN ?_ _ | refine blk_drew ?_ | refine blk_alloc ?_ _); exact B291.out) hb)
               have n1_ := Aside0.mk (blk_below (g := g292) (o := .cells #[.int .u64 0, .int .u64 0, .int .u64 0, .int .u64 0] 23 (0, 0)) (by (with_reducible repeat first | refine blk_drewN ?_ _ | refine blk_drew ?_ | refine blk_alloc ?_ _); exact B292.out) hb)
               have n2_ := Aside0.mk (below_step (by repeat (first | (with_reducible first | exact HB.out | apply below_alloc | apply pw_below_drewN | apply below_drew1 | refine below_set ?_ GE291.out | refine below_set ?_ GE292.out) | exact HB.out)) hb)
               clear B291
               clear B292
               clear HB
               have B291 := n0_
               have B292 := n1_
               have HB := n2_
               clear n0_ n1_ n2_
               (try clear hb)
               (try clear hb2)
               (try clear hk)
               (try clear hi)
               refine hK.out _ _ ⟨bq_ B291 0, bq_ B291 1, bq_ B291 2, bq_ B291 3, ((HRG.out.below HB.out).u0 2 (by decide))⟩ (fun hL => ?_)
               clear hK K
               refine norm_ (a' := ?_) ?_ ?_
               rotate_left
               ·show Act.put _ (some 32) _ = _
                simp only [Act.put, sa_, sb_, sc_, i64_w, i32_w]
                rfl
               refine one_ (i := 13) (N := some 36) z25_14_ rfl rfl (on_ T_) (by decide) (fun K hK => ?_)
               refine goes_ Tryd.func12 (by kernel_rfl) rfl #[.int .i64 2, .int .i64 (wrap64 (7 - x12_1)), .int .i64 1] (by rfl) rfl rfl (by (try simp only [List.map_toArray, List.map_cons, List.map_nil]); first | done | rfl) ?_
               with_reducible refine (sponge_Constant.calls k2 2 (wrap64 (7 - x12_1)) 1 t317 _ ?side1 A75.out).mono ?_
               (case side1 => repeat (first | exact (GL.below HRG.out HB.out) | (with_reducible refine GL.alloc ?_ _) | (with_reducible refine GL.drewN ?_ _) | (with_reducible refine GL.drew ?_)))
               rintro e w79 ⟨rfl, hb⟩
               refine ⟨_, rfl, ?_⟩
               have n0_ := Aside0.mk (blk_below (g := g291) (o := .cells #[.int .u64 x292000_2, .int .u64 x292001_2, .int .u64 x292002_2, .int .u64 x292003_2] 23 (0, 0)) (by (with_reducible repeat first | refine blk_drewN ?_ _ | refine blk_drew ?_ | refine blk_alloc ?_ _); exact B291.out) hb)
               have n1_ := Aside0.mk (blk_below (g := g292) (o := .cells #[.int .u64 0, .int .u64 0, .int .u64 0, .int .u64 0] 23 (0, 0)) (by (with_reducible repeat first | refine blk_drewN ?_ _ | refine blk_drew ?_ | refine blk_alloc ?_ _); exact B292.out) hb)
               have n2_ := Aside0.mk (below_step (by repeat (first | (with_reducible first | exact HB.out | apply below_alloc | apply pw_below_drewN | apply below_drew1 | refine below_set ?_ GE291.out | refine below_set ?_ GE292.out) | exact HB.out)) hb)
               clear B291
               clear B292
               clear HB
               have B291 := n0_
               have B292 := n1_
               have HB := n2_
               clear n0_ n1_ n2_
               (try clear hb)
               (try clear hb2)
               (try clear hk)
               (try clear hi)
               refine hK.out _ _ ⟨bq_ B291 0, bq_ B291 1, bq_ B291 2, bq_ B291 3, ((HRG.out.below HB.out).u0 2 (by decide))⟩ (fun hL => ?_)
               clear hK K
               refine norm_ (a' := ?_) ?_ ?_
               rotate_left
               ·show Act.put _ (some 36) _ = _
                simp only [Act.put, sa_, sb_, sc_, i64_w, i32_w]
                rfl
               refine one_ (i := 14) (N := some 37) z25_15_ rfl rfl (on_ T_) (by decide) (fun K hK => ?_)
               refine goes_ Tryd.func45 (by kernel_rfl) rfl #[.int .i64 2, .int .u64 t316, .int .u64 t317] (by rfl) rfl rfl (by (try simp only [List.map_toArray, List.map_cons, List.map_nil]); first | done | rfl) ?_
               with_reducible refine (field_Sub.calls 2 t316 t317 t318 _ ?side1 A76.out).mono ?_
               (case side1 => repeat (first | exact (GL.below HRG.out HB.out) | (with_reducible refine GL.alloc ?_ _) | (with_reducible refine GL.drewN ?_ _) | (with_reducible refine GL.drew ?_)))
               rintro e w80 ⟨rfl, hb⟩
               refine ⟨_, rfl, ?_⟩
               have n0_ := Aside0.mk (blk_below (g := g291) (o := .cells #[.int .u64 x292000_2, .int .u64 x292001_2, .int .u64 x292002_2, .int .u64 x292003_2] 23 (0, 0)) (by (with_reducible repeat first | refine blk_drewN ?_ _ | refine blk_drew ?_ | refine blk_alloc ?_ _); exact B291.out) hb)
               have n1_ := Aside0.mk (blk_below (g := g292) (o := .cells #[.int .u64 0, .int .u64 0, .int .u64 0, .int .u64 0] 23 (0, 0)) (by (with_reducible repeat first | refine blk_drewN ?_ _ | refine blk_drew ?_ | refine blk_alloc ?_ _); exact B292.out) hb)
               have n2_ := Aside0.mk (below_step (by repeat (first | (with_reducible first | exact HB.out | apply below_alloc | apply pw_below_drewN | apply below_drew1 | refine below_set ?_ GE291.out | refine below_set ?_ GE292.out) | exact HB.out)) hb)
               clear B291
               clear B292
               clear HB
               have B291 := n0_
               have B292 := n1_
               have HB := n2_
               clear n0_ n1_ n2_
               (try clear hb)
               (try clear hb2)
               (try clear hk)
               (try clear hi)
               refine hK.out _ _ ⟨bq_ B291 0, bq_ B291 1, bq_ B291 2, bq_ B291 3, ((HRG.out.below HB.out).u0 2 (by decide))⟩ (fun hL => ?_)
               clear hK K
               refine norm_ (a' := ?_) ?_ ?_
               rotate_left
               ·show Act.put _ (some 37) _ = _
                simp only [Act.put, sa_, sb_, sc_, i64_w, i32_w]
                rfl
               refine pure_ (i := 15) (N := some 38) (v := ?_) (a' := ?_) z25_16_ rfl rfl (an_ T_) (fun _ _ _ h => h) (Or.inl ⟨by rfl, ?_⟩) ?_ ?_
               rotate_left; · intro w'; go_simp; with_reducible rfl
               rotate_left; · simp only [Act.put, sa_, sb_, sc_, i64_w, i32_w]; rfl
               refine last_ (i := 16) (N := none) z25_17_ rfl rfl (on_ T_) (by decide) (fun K hK => ?_)
               have hs81 : w80.cell? ⟨g291, 1, none⟩ = some (.int .u64 x292001_2) := bq_ B291 1
               have hfs81 := blk_frozen B291.out 1
               have hns81_1 := NB292_291.out
               have hms81_1 := NB291_292.out
               refine skip_ (w1 := ?_) (by rfl) rfl ?_ ?_
               rotate_left
               ·go_simp
                rfl
               refine hK.out _ _ ?_
               clear hK K
               refine done_ (done_of T_.out (by kernel_rfl)) ?_
               try go_wp2
               go_roundg k2
               case measure => have := HK1.out; have := HK2.out; omega
               case rel => exact ⟨(wrap64 (1 + 1)), (x292000_2), (t318), (x292002_2), (x292003_2), (by first | rfl | (simp; done) | (simp [*]; done) | (simp; rfl) | (simp; decide +kernel)), H', ⟨by have := HK1.out; have := HK2.out; omega⟩, ⟨by (with_reducible repeat first | refine blk_drewN ?_ _ | refine blk_drew ?_ | refine blk_alloc ?_ _); refine blk_put (cs := #[.int .u64 x292000_2, .int .u64 x292001_2, .int .u64 x292002_2, .int .u64 x292003_2]) ?_ 1 _ rfl; (with_reducible repeat first | refine blk_drewN ?_ _ | refine blk_drew ?_ | refine blk_alloc ?_ _); exact B291.out⟩, ⟨by (with_reducible repeat first | refine blk_drewN ?_ _ | refine blk_drew ?_ | refine blk_alloc ?_ _); refine blk_far ?_ NB292_291.out _; (with_reducible repeat first | refine blk_drewN ?_ _ | refine blk_drew ?_ | refine blk_alloc ?_ _); exact B292.out⟩, ⟨by repeat (first | (with_reducible first | exact HB.out | apply below_alloc | apply pw_below_drewN | apply below_drew1 | refine below_set ?_ GE291.out | refine below_set ?_ GE292.out) | exact HB.out)⟩⟩
              ·rw [if_neg c73] at H
               by_cases c82 : a0 = 3
               ·rw [if_pos c82] at H
                subst c82
                replace H := Option.bind_eq_some_iff.mp H
                obtain ⟨t319, A830, H⟩ := H
                replace H : ((sponge_Constant.f k2 3 (wrap64 (7 - x12_1)) 1).bind fun t320 => ((field_Sub.f 3 t319 t320).bind fun t321 => (sponge_Inverse.l1 k2 3 (wrap64 (7 - x12_1)) x12_1 (wrap64 (1 + 1)) x292000_2 t321 x292002_2 x292003_2))) = some (r1, r2, r3, r4) := H
                have A83 := Aside0.mk A830
                clear A830
                replace H := Option.bind_eq_some_iff.mp H
                obtain ⟨t320, A840, H⟩ := H
                replace H : ((field_Sub.f 3 t319 t320).bind fun t321 => (sponge_Inverse.l1 k2 3 (wrap64 (7 - x12_1)) x12_1 (wrap64 (1 + 1)) x292000_2 t321 x292002_2 x292003_2)) = some (r1, r2, r3, r4) := H
                have A84 := Aside0.mk A840
                clear A840
                replace H := Option.bind_eq_some_iff.mp H
                obtain ⟨t321, A850, H⟩ := H
                replace H : (sponge_Inverse.l1 k2 3 (wrap64 (7 - x12_1)) x12_1 (wrap64 (1 + 1)) x292000_2 t321 x292002_2 x292003_2) = some (r1, r2, r3, r4) := H
                have A85 := Aside0.mk A850
                clear A850
                have H' := Aside0.mk H
                clear H
                try go_wp2
                have n0_ := Aside0.mk (blk_drew B291.out)
                have n1_ := Aside0.mk (blk_drew B292.out)
                have n2_ := Aside0.mk (below_drew1 HB.out)
                clear B291
                clear B292
                clear HB
                have B291 := n0_
                have B292 := n1_
                have HB := n2_
                clear n0_ n1_ n2_
                refine start_ (n := 17) (S := fun w' => w'.cell? ⟨g291, 0, none⟩ = some (.int .u64 x292000_2) ∧ w'.cell? ⟨g291, 1, none⟩ = some (.int .u64 x292001_2) ∧ w'.cell? ⟨g291, 2, none⟩ = some (.int .u64 x292002_2) ∧ w'.cell? ⟨g291, 3, none⟩ = some (.int .u64 x292003_2) ∧ w'.cell? ⟨0, 3, none⟩ = some (.int .u64 665496235)) (ds := [16]) z25_0_ (by kernel_rfl) rfl rfl ⟨bq_ B291 0, bq_ B291 1, bq_ B291 2, bq_ B291 3, ((HRG.out.below HB.out).u0 3 (by decide))⟩ (fun hL => ?_); refine with_tabW sponge_Inverse.tab11 sponge_Inverse.bits11 (fun T_ W_ => ?_)
                generalize wr.drew = w86 at B291 B292 HB hL ⊢
                refine pure_ (i := 0) (N := some 23) (v := ?_) (a' := ?_) z25_1_ rfl rfl (an_ T_) (fun _ _ _ h => h) (Or.inl ⟨by rfl, ?_⟩) ?_ ?_
                rotate_left; · intro w'; go_simp; with_reducible rfl
                rotate_left; · simp only [Act.put, sa_, sb_, sc_, i64_w, i32_w]; rfl
                refine pure_ (i := 1) (N := some 24) (v := ?_) (a' := ?_) z25_2_ rfl rfl (an_ T_) (fun _ _ _ h => h) (Or.inl ⟨by rfl, ?_⟩) ?_ ?_
                rotate_left; · intro w'; go_simp; with_reducible rfl
                rotate_left; · simp only [Act.put, sa_, sb_, sc_, i64_w, i32_w]; rfl
                refine pure_ (i := 2) (N := some 25) (v := ?_) (a' := ?_) z25_3_ rfl rfl (an_ T_) (fun _ _ _ h => h) (Or.inl ⟨by rfl, ?_⟩) ?_ ?_
                rotate_left; · intro w'; go_simp; with_reducible rfl
                rotate_left; · simp only [Act.put, sa_, sb_, sc_, i64_w, i32_w]; rfl
                refine pure_ (i := 3) (N := some 26) (v := ?_) (a' := ?_) z25_4_ rfl rfl (an_ T_) (fun _ _ _ h => h) (Or.inl ⟨by rfl, ?_⟩) ?_ ?_
                rotate_left; · intro w'; go_simp; with_reducible rfl
                rotate_left; · simp only [Act.put, sa_, sb_, sc_, i64_w, i32_w]; rfl
                refine pure_ (i := 4) (N := some 27) (v := ?_) (a' := ?_) z25_5_ rfl rfl (an_ T_) (fun _ _ _ h => h) (Or.inl ⟨by rfl, ?_⟩) ?_ ?_
                rotate_left; · intro w'; go_simp; with_reducible rfl
                rotate_left; · simp only [Act.put, sa_, sb_, sc_, i64_w, i32_w]; rfl
                refine pure_ (i := 6) (N := some 29) (v := ?_) (a' := ?_) z25_6_ rfl rfl (an_ T_) (fun _ _ _ h => h) (Or.inl ⟨by rfl, ?_⟩) ?_ ?_
                rotate_left; · intro w'; go_simp; with_reducible rfl
                rotate_left; · simp only [Act.put, sa_, sb_, sc_, i64_w, i32_w]; rfl
                refine pure_ (i := 7) (N := some 30) (v := ?_) (a' := ?_) z25_7_ rfl rfl (an_ T_) (fun _ _ _ h => h) (Or.inl ⟨by rfl, ?_⟩) ?_ ?_
                rotate_left; · intro w'; go_simp; with_reducible rfl
                rotate_left; · simp only [Act.put, sa_, sb_, sc_, i64_w, i32_w]; rfl
                refine pure_ (i := 10) (N := some 33) (v := ?_) (a' := ?_) z25_8_ rfl rfl (an_ T_) (fun _ _ _ h => h) (Or.inl ⟨by rfl, ?_⟩) ?_ ?_
                rotate_left; · intro w'; go_simp; with_reducible rfl
                rotate_left; · simp only [Act.put, sa_, sb_, sc_, i64_w, i32_w]; rfl
                refine pure_ (i := 11) (N := some 34) (v := ?_) (a' := ?_) z25_9_ rfl rfl (an_ T_) (fun _ _ _ h => h) (Or.inl ⟨by rfl, ?_⟩) ?_ ?_
                rotate_left; · intro w'; go_simp; with_reducible rfl
                rotate_left; · simp only [Act.put, sa_, sb_, sc_, i64_w, i32_w]; rfl
                refine pure_ (i := 12) (N := some 35) (v := ?_) (a' := ?_) z25_10_ rfl rfl (an_ T_) (fun _ _ _ h => h) (Or.inl ⟨by rfl, ?_⟩) ?_ ?_
                rotate_left; · intro w'; go_simp; with_reducible rfl
                rotate_left; · simp only [Act.put, sa_, sb_, sc_, i64_w, i32_w]; rfl
                refine take_ (i := 5) (N := some 28) (v := ?_) (a' := ?_) z25_11_ rfl rfl (tk_ T_ W_) (fun _ _ _ h => h) (Or.inl ⟨by rfl, ?_⟩) hL ?_ ?_
                rotate_left
                ·rintro w' ⟨s0, s1, s2, s3, s4⟩
                 go_simp
                 with_reducible rfl
                rotate_left
                ·simp only [Act.put, sa_, sb_, sc_, i64_w, i32_w]
                 rfl
                refine take_ (i := 8) (N := some 31) (v := ?_) (a' := ?_) z25_12_ rfl rfl (tk_ T_ W_) (fun _ _ _ h => h) (Or.inl ⟨by rfl, ?_⟩) hL ?_ ?_
                rotate_left
                ·rintro w' ⟨s0, s1, s2, s3, s4⟩
                 go_simp
                 with_reducible rfl
                rotate_left
                ·simp only [Act.put, sa_, sb_, sc_, i64_w, i32_w]
                 rfl
                refine one_ (i := 9) (N := some 32) z25_13_ rfl rfl (on_ T_) (by decide) (fun K hK => ?_)
                refine goes_ Tryd.func29 (by kernel_rfl) rfl #[.int .i64 3, .int .u64 x292001_2, .int .u64 665496235] (by rfl) rfl rfl (by (try simp only [List.map_toArray, List.map_cons, List.map_nil]); first | done | rfl) ?_
                with_reducible refine (field_Pow.calls k2 3 x292001_2 665496235 t319 _ ?side1 A83.out).mono ?_
                (case side1 => repeat (first | exact (GL.below HRG.out HB.out) | (with_reducible refine GL.alloc ?_ _) | (with_reducible refine GL.drewN ?_ _) | (with_reducible refine GL.drew ?_)))
                rintro e w87 ⟨rfl, hb⟩
                refine ⟨_, rfl, ?_⟩
                have n0_ := Aside0.mk (blk_below (g := g291) (o := .cells #[.int .u64 x292000_2, .int .u64 x292001_2, .int .u64 x292002_2, .int .u64 x292003_2] 23 (0, 0)) (by (with_reducible repeat first | refine blk_drewN ?_ _ | refine blk_drew ?_ | refine blk_alloc ?_ _); exact B291.out) hb)
                have n1_ := Aside0.mk (blk_below (g := g292) (o := .cells #[.int .u64 0, .int .u64 0, .int .u64 0, .int .u64 0] 23 (0, 0)) (by (with_reducible repeat first | refine blk_drewN ?_ _ | refine blk_drew ?_ | refine blk_alloc ?_ _); exact B292.out) hb)
                have n2_ := Aside0.mk (below_step (by repeat (first | (with_reducible first | exact HB.out | apply below_alloc | apply pw_below_drewN | apply below_drew1 | refine below_set ?_ GE291.out | refine below_set ?_ GE292.out) | exact HB.out)) hb)
                clear B291
                clear B292
                clear HB
                have B291 := n0_
                have B292 := n1_
                have HB := n2_
                clear n0_ n1_ n2_
                (try clear hb)
                (try clear hb2)
                (try clear hk)
                (try clear hi)
                refine hK.out _ _ ⟨bq_ B291 0, bq_ B291 1, bq_ B291 2, bq_ B291 3, ((HRG.out.below HB.out).u0 3 (by decide))⟩ (fun hL => ?_)
                clear hK K
                refine norm_ (a' := ?_) ?_ ?_
                rotate_left
                ·show Act.put _ (some 32) _ = _
                 simp only [Act.put, sa_, sb_, sc_, i64_w, i32_w]
                 rfl
                refine one_ (i := 13) (N := some 36) z25_14_ rfl rfl (on_ T_) (by decide) (fun K hK => ?_)
                refine goes_ Tryd.func12 (by kernel_rfl) rfl #[.int .i64 3, .int .i64 (wrap64 (7 - x12_1)), .int .i64 1] (by rfl) rfl rfl (by (try simp only [List.map_toArray, List.map_cons, List.map_nil]); first | done | rfl) ?_
                with_reducible refine (sponge_Constant.calls k2 3 (wrap64 (7 - x12_1)) 1 t320 _ ?side1 A84.out).mono ?_
                (case side1 => repeat (first | exact (GL.below HRG.out HB.out) | (with_reducible refine GL.alloc ?_ _) | (with_reducible refine GL.drewN ?_ _) | (with_reducible refine GL.drew ?_)))
                rintro e w88 ⟨rfl, hb⟩
                refine ⟨_, rfl, ?_⟩
                have n0_ := Aside0.mk (blk_below (g := g291) (o := .cells #[.int .u64 x292000_2, .int .u64 x292001_2, .int .u64 x292002_2, .int .u64 x292003_2] 23 (0, 0)) (by (with_reducible repeat first | refine blk_drewN ?_ _ | refine blk_drew ?_ | refine blk_alloc ?_ _); exact B291.out) hb)
                have n1_ := Aside0.mk (blk_below (g := g292) (o := .cells #[.int .u64 0, .int .u64 0, .int .u64 0, .int .u64 0] 23 (0, 0)) (by (with_reducible repeat first | refine blk_drewN ?_ _ | refine blk_drew ?_ | refine blk_alloc ?_ _); exact B292.out) hb)
                have n2_ := Aside0.mk (below_step (by repeat (first | (with_reducible first | exact HB.out | apply below_alloc | apply pw_below_drewN | apply below_drew1 | refine below_set ?_ GE291.out | refine below_set ?_ GE292.out) | exact HB.out)) hb)
                clear B291
                clear B292
                clear HB
                have B291 := n0_
                have B292 := n1_
                have HB := n2_
                clear n0_ n1_ n2_
                (try clear hb)
                (try clear hb2)
                (try clear hk)
                (try clear hi)
                refine hK.out _ _ ⟨bq_ B291 0, bq_ B291 1, bq_ B291 2, bq_ B291 3, ((HRG.out.below HB.out).u0 3 (by decide))⟩ (fun hL => ?_)
                clear hK K
                refine norm_ (a' := ?_) ?_ ?_
                rotate_left
                ·show Act.put _ (some 36) _ = _
                 simp only [Act.put, sa_, sb_, sc_, i64_w, i32_w]
                 rfl
                refine one_ (i := 14) (N := some 37) z25_15_ rfl rfl (on_ T_) (by decide) (fun K hK => ?_)
                refine goes_ Tryd.func45 (by kernel_rfl) rfl #[.int .i64 3, .int .u64 t319, .int .u64 t320] (by rfl) rfl rfl (by (try simp only [List.map_toArray, List.map_cons, List.map_nil]); first | done | rfl) ?_
                with_reducible refine (field_Sub.calls 3 t319 t320 t321 _ ?side1 A85.out).mono ?_
                (case side1 => repeat (first | exact (GL.below HRG.out HB.out) | (with_reducible refine GL.alloc ?_ _) | (with_reducible refine GL.drewN ?_ _) | (with_reducible refine GL.drew ?_)))
                rintro e w89 ⟨rfl, hb⟩
                refine ⟨_, rfl, ?_⟩
                have n0_ := Aside0.mk (blk_below (g := g291) (o := .cells #[.int .u64 x292000_2, .int .u64 x292001_2, .int .u64 x292002_2, .int .u64 x292003_2] 23 (0, 0)) (by (with_reducible repeat first | refine blk_drewN ?_ _ | refine blk_drew ?_ | refine blk_alloc ?_ _); exact B291.out) hb)
                have n1_ := Aside0.mk (blk_below (g := g292) (o := .cells #[.int .u64 0, .int .u64 0, .int .u64 0, .int .u64 0] 23 (0, 0)) (by (with_reducible repeat first | refine blk_drewN ?_ _ | refine blk_drew ?_ | refine blk_alloc ?_ _); exact B292.out) hb)
                have n2_ := Aside0.mk (below_step (by repeat (first | (with_reducible first | exact HB.out | apply below_alloc | apply pw_below_drewN | apply below_drew1 | refine below_set ?_ GE291.out | refine below_set ?_ GE292.out) | exact HB.out)) hb)
                clear B291
                clear B292
                clear HB
                have B291 := n0_
                have B292 := n1_
                have HB := n2_
                clear n0_ n1_ n2_
                (try clear hb)
                (try clear hb2)
                (try clear hk)
                (try clear hi)
                refine hK.out _ _ ⟨bq_ B291 0, bq_ B291 1, bq_ B291 2, bq_ B291 3, ((HRG.out.below HB.out).u0 3 (by decide))⟩ (fun hL => ?_)
                clear hK K
                refine norm_ (a' := ?_) ?_ ?_
                rotate_left
                ·show Act.put _ (some 37) _ = _
                 simp only [Act.put, sa_, sb_, sc_, i64_w, i32_w]
                 rfl
                refine pure_ (i := 15) (N := some 38) (v := ?_) (a' := ?_) z25_16_ rfl rfl (an_ T_) (fun _ _ _ h => h) (Or.inl ⟨by rfl, ?_⟩) ?_ ?_
                rotate_left; · intro w'; go_simp; with_reducible rfl
                rotate_left; · simp only [Act.put, sa_, sb_, sc_, i64_w, i32_w]; rfl
                refine last_ (i := 16) (N := none) z25_17_ rfl rfl (on_ T_) (by decide) (fun K hK => ?_)
                have hs90 : w89.cell? ⟨g291, 1, none⟩ = some (.int .u64 x292001_2) := bq_ B291 1
                have hfs90 := blk_frozen B291.out 1
                have hns90_1 := NB292_291.out
                have hms90_1 := NB291_292.out
                refine skip_ (w1 := ?_) (by rfl) rfl ?_ ?_
                rotate_left
                ·go_simp
                 rfl
                refine hK.out _ _ ?_
                clear hK K
                refine done_ (done_of T_.out (by kernel_rfl)) ?_
                try go_wp2
                go_roundg k2
                case measure => have := HK1.out; have := HK2.out; omega
                case rel => exact ⟨(wrap64 (1 + 1)), (x292000_2), (t321), (x292002_2), (x292003_2), (by first | rfl | (simp; done) | (simp [*]; done) | (simp; rfl) | (simp; decide +kernel)), H', ⟨by have := HK1.out; have := HK2.out; omega⟩, ⟨by (with_reducible repeat first | refine blk_drewN ?_ _ | refine blk_drew ?_ | refine blk_alloc ?_ _); refine blk_put (cs := #[.int .u64 x292000_2, .int .u64 x292001_2, .int .u64 x292002_2, .int .u64 x292003_2]) ?_ 1 _ rfl; (with_reducible repeat first | refine blk_drewN ?_ _ | refine blk_drew ?_ | refine blk_alloc ?_ _); exact B291.out⟩, ⟨by (with_reducible repeat first | refine blk_drewN ?_ _ | refine blk_drew ?_ | refine blk_alloc ?_ _); refine blk_far ?_ NB292_291.out _; (with_reducible repeat first | refine blk_drewN ?_ _ | refine blk_drew ?_ | refine blk_alloc ?_ _); exact B292.out⟩, ⟨by repeat (first | (with_reducible first | exact HB.out | apply below_alloc | apply pw_below_drewN | apply below_drew1 | refine below_set ?_ GE291.out | refine below_set ?_ GE292.out) | exact HB.out)⟩⟩
               ·rw [if_neg c82] at H
                exact absurd H (by simp)
           ·rw [if_neg c54] at H
            exact absurd H (by simp)
          ·rw [if_neg c53] at H
           by_cases c91 : x20_2 = 2
           ·rw [if_pos c91] at H
            subst c91
            by_cases c92 : 0 ≤ a0
            ·rw [if_pos c92] at H
             have c92b0 : decide (0 ≤ a0) = true := decide_eq_true c92
             clear c92
             by_cases c93 : a0 = 0
             ·rw [if_pos c93] at H
              subst c93
              replace H := Option.bind_eq_some_iff.mp H
              obtain ⟨t322, A940, H⟩ := H
              replace H : ((sponge_Constant.f k2 0 (wrap64 (7 - x12_1)) 2).bind fun t323 => ((field_Sub.f 0 t322 t323).bind fun t324 => (sponge_Inverse.l1 k2 0 (wrap64 (7 - x12_1)) x12_1 (wrap64 (2 + 1)) x292000_2 x292001_2 t324 x292003_2))) = some (r1, r2, r3, r4) := H
              have A94 := Aside0.mk A940
              clear A940
              replace H := Option.bind_eq_some_iff.mp H
              obtain ⟨t323, A950, H⟩ := H
              replace H : ((field_Sub.f 0 t322 t323).bind fun t324 => (sponge_Inverse.l1 k2 0 (wrap64 (7 - x12_1)) x12_1 (wrap64 (2 + 1)) x292000_2 x292001_2 t324 x292003_2)) = some (r1, r2, r3, r4) := H
              have A95 := Aside0.mk A950
              clear A950
              replace H := Option.bind_eq_some_iff.mp H
              obtain ⟨t324, A960, H⟩ := H
              replace H : (sponge_Inverse.l1 k2 0 (wrap64 (7 - x12_1)) x12_1 (wrap64 (2 + 1)) x292000_2 x292001_2 t324 x292003_2) = some (r1, r2, r3, r4) := H
              have A96 := Aside0.mk A960
              clear A960
              have H' := Aside0.mk H
              clear H
              try go_wp2
              have n0_ := Aside0.mk (blk_drew B291.out)
              have n1_ := Aside0.mk (blk_drew B292.out)
              have n2_ := Aside0.mk (below_drew1 HB.out)
              clear B291
              clear B292
              clear HB
              have B291 := n0_
              have B292 := n1_
              have HB := n2_
              clear n0_ n1_ n2_
              refine start_ (n := 17) (S := fun w' => w'.cell? ⟨g291, 0, none⟩ = some (.int .u64 x292000_2) ∧ w'.cell? ⟨g291, 1, none⟩ = some (.int .u64 x292001_2) ∧ w'.cell? ⟨g291, 2, none⟩ = some (.int .u64 x292002_2) ∧ w'.cell? ⟨g291, 3, none⟩ = some (.int .u64 x292003_2) ∧ w'.cell? ⟨0, 0, none⟩ = some (.int .u64 77)) (ds := [16]) z25_0_ (by kernel_rfl) rfl rfl ⟨bq_ B291 0, bq_ B291 1, bq_ B291 2, bq_ B291 3, ((HRG.out.below HB.out).u0 0 (by decide))⟩ (fun hL => ?_); refine with_tabW sponge_Inverse.tab11 sponge_Inverse.bits11 (fun T_ W_ => ?_)
              generalize wr.drew = w97 at B291 B292 HB hL ⊢
              refine pure_ (i := 0) (N := some 23) (v := ?_) (a' := ?_) z25_1_ rfl rfl (an_ T_) (fun _ _ _ h => h) (Or.inl ⟨by rfl, ?_⟩) ?_ ?_
              rotate_left; · intro w'; go_simp; with_reducible rfl
              rotate_left; · simp only [Act.put, sa_, sb_, sc_, i64_w, i32_w]; rfl
              refine pure_ (i := 1) (N := some 24) (v := ?_) (a' := ?_) z25_2_ rfl rfl (an_ T_) (fun _ _ _ h => h) (Or.inl ⟨by rfl, ?_⟩) ?_ ?_
              rotate_left; · intro w'; go_simp; with_reducible rfl
              rotate_left; · simp only [Act.put, sa_, sb_, sc_, i64_w, i32_w]; rfl
              refine pure_ (i := 2) (N := some 25) (v := ?_) (a' := ?_) z25_3_ rfl rfl (an_ T_) (fun _ _ _ h => h) (Or.inl ⟨by rfl, ?_⟩) ?_ ?_
              rotate_left; · intro w'; go_simp; with_reducible rfl
              rotate_left; · simp only [Act.put, sa_, sb_, sc_, i64_w, i32_w]; rfl
              refine pure_ (i := 3) (N := some 26) (v := ?_) (a' := ?_) z25_4_ rfl rfl (an_ T_) (fun _ _ _ h => h) (Or.inl ⟨by rfl, ?_⟩) ?_ ?_
              rotate_left; · intro w'; go_simp; with_reducible rfl
              rotate_left; · simp only [Act.put, sa_, sb_, sc_, i64_w, i32_w]; rfl
              refine pure_ (i := 4) (N := some 27) (v := ?_) (a' := ?_) z25_5_ rfl rfl (an_ T_) (fun _ _ _ h => h) (Or.inl ⟨by rfl, ?_⟩) ?_ ?_
              rotate_left; · intro w'; go_simp; with_reducible rfl
              rotate_left; · simp only [Act.put, sa_, sb_, sc_, i64_w, i32_w]; rfl
              refine pure_ (i := 6) (N := some 29) (v := ?_) (a' := ?_) z25_6_ rfl rfl (an_ T_) (fun _ _ _ h => h) (Or.inl ⟨by rfl, ?_⟩) ?_ ?_
              rotate_left; · intro w'; go_simp; with_reducible rfl
              rotate_left; · simp only [Act.put, sa_, sb_, sc_, i64_w, i32_w]; rfl
              refine pure_ (i := 7) (N := some 30) (v := ?_) (a' := ?_) z25_7_ rfl rfl (an_ T_) (fun _ _ _ h => h) (Or.inl ⟨by rfl, ?_⟩) ?_ ?_
              rotate_left; · intro w'; go_simp; with_reducible rfl
              rotate_left; · simp only [Act.put, sa_, sb_, sc_, i64_w, i32_w]; rfl
              refine pure_ (i := 10) (N := some 33) (v := ?_) (a' := ?_) z25_8_ rfl rfl (an_ T_) (fun _ _ _ h => h) (Or.inl ⟨by rfl, ?_⟩) ?_ ?_
              rotate_left; · intro w'; go_simp; with_reducible rfl
              rotate_left; · simp only [Act.put, sa_, sb_, sc_, i64_w, i32_w]; rfl
              refine pure_ (i := 11) (N := some 34) (v := ?_) (a' := ?_) z25_9_ rfl rfl (an_ T_) (fun _ _ _ h => h) (Or.inl ⟨by rfl, ?_⟩) ?_ ?_
              rotate_left; · intro w'; go_simp; with_reducible rfl
              rotate_left; · simp only [Act.put, sa_, sb_, sc_, i64_w, i32_w]; rfl
              refine pure_ (i := 12) (N := some 35) (v := ?_) (a' := ?_) z25_10_ rfl rfl (an_ T_) (fun _ _ _ h => h) (Or.inl ⟨by rfl, ?_⟩) ?_ ?_
              rotate_left; · intro w'; go_simp; with_reducible rfl
              rotate_left; · simp only [Act.put, sa_, sb_, sc_, i64_w, i32_w]; rfl
              refine take_ (i := 5) (N := some 28) (v := ?_) (a' := ?_) z25_11_ rfl rfl (tk_ T_ W_) (fun _ _ _ h => h) (Or.inl ⟨by rfl, ?_⟩) hL ?_ ?_
              rotate_left
              ·rintro w' ⟨s0, s1, s2, s3, s4⟩
               go_simp
               with_reducible rfl
              rotate_left
              ·simp only [Act.put, sa_, sb_, sc_, i64_w, i32_w]
               rfl
              refine take_ (i := 8) (N := some 31) (v := ?_) (a' := ?_) z25_12_ rfl rfl (tk_ T_ W_) (fun _ _ _ h => h) (Or.inl ⟨by rfl, ?_⟩) hL ?_ ?_
              rotate_left
              ·rintro w' ⟨s0, s1, s2, s3, s4⟩
               go_simp
               with_reducible rfl
              rotate_left
              ·simp only [Act.put, sa_, sb_, sc_, i64_w, i32_w]
               rfl
              refine one_ (i := 9) (N := some 32) z25_13_ rfl rfl (on_ T_) (by decide) (fun K hK => ?_)
              refine goes_ Tryd.func29 (by kernel_rfl) rfl #[.int .i64 0, .int .u64 x292002_2, .int .u64 77] (by rfl) rfl rfl (by (try simp only [List.map_toArray, List.map_cons, List.map_nil]); first | done | rfl) ?_
              with_reducible refine (field_Pow.calls k2 0 x292002_2 77 t322 _ ?side1 A94.out).mono ?_
              (case side1 => repeat (first | exact (GL.below HRG.out HB.out) | (with_reducible refine GL.alloc ?_ _) | (with_reducible refine GL.drewN ?_ _) | (with_reducible refine GL.drew ?_)))
              rintro e w98 ⟨rfl, hb⟩
              refine ⟨_, rfl, ?_⟩
              have n0_ := Aside0.mk (blk_below (g := g291) (o := .cells #[.int .u64 x292000_2, .int .u64 x292001_2, .int .u64 x292002_2, .int .u64 x292003_2] 23 (0, 0)) (by (with_reducible repeat first | refine blk_drewN ?_ _ | refine blk_drew ?_ | refine blk_alloc ?_ _); exact B291.out) hb)
              have n1_ := Aside0.mk (blk_below (g := g292) (o := .cells #[.int .u64 0, .int .u64 0, .int .u64 0, .int .u64 0] 23 (0, 0)) (by (with_reducible repeat first | refine blk_drewN ?_ _ | refine blk_drew ?_ | refine blk_alloc ?_ _); exact B292.out) hb)
              have n2_ := Aside0.mk (below_step (by repeat (first | (with_reducible first | exact HB.out | apply below_alloc | apply pw_below_drewN | apply below_drew1 | refine below_set ?_ GE291.out | refine below_set ?_ GE292.out) | exact HB.out)) hb)
              clear B291
              clear B292
              clear HB
              have B291 := n0_
              have B292 := n1_
              have HB := n2_
              clear n0_ n1_ n2_
              (try clear hb)
              (try clear hb2)
              (try clear hk)
              (try clear hi)
              refine hK.out _ _ ⟨bq_ B291 0, bq_ B291 1, bq_ B291 2, bq_ B291 3, ((HRG.out.below HB.out).u0 0 (by decide))⟩ (fun hL => ?_)
              clear hK K
              refine norm_ (a' := ?_) ?_ ?_
              rotate_left
              ·show Act.put _ (some 32) _ = _
               simp only [Act.put, sa_, sb_, sc_, i64_w, i32_w]
               rfl
              refine one_ (i := 13) (N := some 36) z25_14_ rfl rfl (on_ T_) (by decide) (fun K hK => ?_)
              refine goes_ Tryd.func12 (by kernel_rfl) rfl #[.int .i64 0, .int .i64 (wrap64 (7 - x12_1)), .int .i64 2] (by rfl) rfl rfl (by (try simp only [List.map_toArray, List.map_cons, List.map_nil]); first | done | rfl) ?_
              with_reducible refine (sponge_Constant.calls k2 0 (wrap64 (7 - x12_1)) 2 t323 _ ?side1 A95.out).mono ?_
              (case side1 => repeat (first | exact (GL.below HRG.out HB.out) | (with_reducible refine GL.alloc ?_ _) | (with_reducible refine GL.drewN ?_ _) | (with_reducible refine GL.drew ?_)))
              rintro e w99 ⟨rfl, hb⟩
              refine ⟨_, rfl, ?_⟩
              have n0_ := Aside0.mk (blk_below (g := g291) (o := .cells #[.int .u64 x292000_2, .int .u64 x292001_2, .int .u64 x292002_2, .int .u64 x292003_2] 23 (0, 0)) (by (with_reducible repeat first | refine blk_drewN ?_ _ | refine blk_drew ?_ | refine blk_alloc ?_ _); exact B291.out) hb)
              have n1_ := Aside0.mk (blk_below (g := g292) (o := .cells #[.int .u64 0, .int .u64 0, .int .u64 0, .int .u64 0] 23 (0, 0)) (by (with_reducible repeat first | refine blk_drewN ?_ _ | refine blk_drew ?_ | refine blk_alloc ?_ _); exact B292.out) hb)
              have n2_ := Aside0.mk (below_step (by repeat (first | (with_reducible first | exact HB.out | apply below_alloc | apply pw_below_drewN | apply below_drew1 | refine below_set ?_ GE291.out | refine below_set ?_ GE292.out) | exact HB.out)) hb)
              clear B291
              clear B292
              clear HB
              have B291 := n0_
              have B292 := n1_
              have HB := n2_
              clear n0_ n1_ n2_
              (try clear hb)
              (try clear hb2)
              (try clear hk)
              (try clear hi)
              refine hK.out _ _ ⟨bq_ B291 0, bq_ B291 1, bq_ B291 2, bq_ B291 3, ((HRG.out.below HB.out).u0 0 (by decide))⟩ (fun hL => ?_)
              clear hK K
              refine norm_ (a' := ?_) ?_ ?_
              rotate_left
              ·show Act.put _ (some 36) _ = _
               simp only [Act.put, sa_, sb_, sc_, i64_w, i32_w]
               rfl
              refine one_ (i := 14) (N := some 37) z25_15_ rfl rfl (on_ T_) (by decide) (fun K hK => ?_)
              refine goes_ Tryd.func45 (by kernel_rfl) rfl #[.int .i64 0, .int .u64 t322, .int .u64 t323] (by rfl) rfl rfl (by (try simp only [List.map_toArray, List.map_cons, List.map_nil]); first | done | rfl) ?_
              with_reducible refine (field_Sub.calls 0 t322 t323 t324 _ ?side1 A96.out).mono ?_
              (case side1 => repeat (first | exact (GL.below HRG.out HB.out) | (with_reducible refine GL.alloc ?_ _) | (with_reducible refine GL.drewN ?_ _) | (with_reducible refine GL.drew ?_)))
              rintro e w100 ⟨rfl, hb⟩
              refine ⟨_, rfl, ?_⟩
              have n0_ := Aside0.mk (blk_below (g := g291) (o := .cells #[.int .u64 x292000_2, .int .u64 x292001_2, .int .u64 x292002_2, .int .u64 x292003_2] 23 (0, 0)) (by (with_reducible repeat first | refine blk_drewN ?_ _ | refine blk_drew ?_ | refine blk_alloc ?_ _); exact B291.out) hb)
              have n1_ := Aside0.mk (blk_below (g := g292) (o := .cells #[.int .u64 0, .int .u64 0, .int .u64 0, .int .u64 0] 23 (0, 0)) (by (with_reducible repeat first | refine blk_drewN ?_ _ | refine blk_drew ?_ | refine blk_alloc ?_ _); exact B292.out) hb)
              have n2_ := Aside0.mk (below_step (by repeat (first | (with_reducible first | exact HB.out | apply below_alloc | apply pw_below_drewN | apply below_drew1 | refine below_set ?_ GE291.out | refine below_set ?_ GE292.out) | exact HB.out)) hb)
              clear B291
              clear B292
              clear HB
              have B291 := n0_
              have B292 := n1_
              have HB := n2_
              clear n0_ n1_ n2_
              (try clear hb)
              (try clear hb2)
              (try clear hk)
              (try clear hi)
              refine hK.out _ _ ⟨bq_ B291 0, bq_ B291 1, bq_ B291 2, bq_ B291 3, ((HRG.out.below HB.out).u0 0 (by decide))⟩ (fun hL => ?_)
              clear hK K
              refine norm_ (a' := ?_) ?_ ?_
              rotate_left
              ·show Act.put _ (some 37) _ = _
               simp only [Act.put, sa_, sb_, sc_, i64_w, i32_w]
               rfl
              refine pure_ (i := 15) (N := some 38) (v := ?_) (a' := ?_) z25_16_ rfl rfl (an_ T_) (fun _ _ _ h => h) (Or.inl ⟨by rfl, ?_⟩) ?_ ?_
              rotate_left; · intro w'; go_simp; with_reducible rfl
              rotate_left; · simp only [Act.put, sa_, sb_, sc_, i64_w, i32_w]; rfl
              refine last_ (i := 16) (N := none) z25_17_ rfl rfl (on_ T_) (by decide) (fun K hK => ?_)
              have hs101 : w100.cell? ⟨g291, 2, none⟩ = some (.int .u64 x292002_2) := bq_ B291 2
              have hfs101 := blk_frozen B291.out 2
              have hns101_1 := NB292_291.out
              have hms101_1 := NB291_292.out
              refine skip_ (w1 := ?_) (by rfl) rfl ?_ ?_
              rotate_left
              ·go_simp
               rfl
              refine hK.out _ _ ?_
              clear hK K
              refine done_ (done_of T_.out (by kernel_rfl)) ?_
              try go_wp2
              go_roundg k2
              case measure => have := HK1.out; have := HK2.out; omega
              case rel => exact ⟨(wrap64 (2 + 1)), (x292000_2), (x292001_2), (t324), (x292003_2), (by first | rfl | (simp; done) | (simp [*]; done) | (simp; rfl) | (simp; decide +kernel)), H', ⟨by have := HK1.out; have := HK2.out; omega⟩, ⟨by (with_reducible repeat first | refine blk_drewN ?_ _ | refine blk_drew ?_ | refine blk_alloc ?_ _); refine blk_put (cs := #[.int .u64 x292000_2, .int .u64 x292001_2, .int .u64 x292002_2, .int .u64 x292003_2]) ?_ 2 _ rfl; (with_reducible repeat first | refine blk_drewN ?_ _ | refine blk_drew ?_ | refine blk_alloc ?_ _); exact B291.out⟩, ⟨by (with_reducible repeat first | refine blk_drewN ?_ _ | refine blk_drew ?_ | refine blk_alloc ?_ _); refine blk_far ?_ NB292_291.out _; (with_reducible repeat first | refine blk_drewN ?_ _ | refine blk_drew ?_ | refine blk_alloc ?_ _); exact B292.out⟩, ⟨by repeat (first | (with_reducible first | exact HB.out | apply below_alloc | apply pw_below_drewN | apply below_drew1 | refine below_set ?_ GE291.out | refine below_set ?_ GE292.out) | exact HB.out)⟩⟩
             ·rw [if_neg c93] at H
              by_cases c102 : a0 = 1
              ·rw [if_pos c102] at H
               subst c102
               replace H := Option.bind_eq_some_iff.mp H
               obtain ⟨t325, A1030, H⟩ := H
               replace H : ((sponge_Constant.f k2 1 (wrap64 (7 - x12_1)) 2).bind fun t326 => ((field_Sub.f 1 t325 t326).bind fun t327 => (sponge_Inverse.l1 k2 1 (wrap64 (7 - x12_1)) x12_1 (wrap64 (2 + 1)) x292000_2 x292001_2 t327 x292003_2))) = some (r1, r2, r3, r4) := H
               have A103 := Aside0.mk A1030
               clear A1030
               replace H := Option.bind_eq_some_iff.mp H
               obtain ⟨t326, A1040, H⟩ := H
               replace H : ((field_Sub.f 1 t325 t326).bind fun t327 => (sponge_Inverse.l1 k2 1 (wrap64 (7 - x12_1)) x12_1 (wrap64 (2 + 1)) x292000_2 x292001_2 t327 x292003_2)) = some (r1, r2, r3, r4) := H
               have A104 := Aside0.mk A1040
               clear A1040
               replace H := Option.bind_eq_some_iff.mp H
               obtain ⟨t327, A1050, H⟩ := H
               replace H : (sponge_Inverse.l1 k2 1 (wrap64 (7 - x12_1)) x12_1 (wrap64 (2 + 1)) x292000_2 x292001_2 t327 x292003_2) = some (r1, r2, r3, r4) := H
               have A105 := Aside0.mk A1050
               clear A1050
               have H' := Aside0.mk H
               clear H
               try go_wp2
               have n0_ := Aside0.mk (blk_drew B291.out)
               have n1_ := Aside0.mk (blk_drew B292.out)
               have n2_ := Aside0.mk (below_drew1 HB.out)
               clear B291
               clear B292
               clear HB
               have B291 := n0_
               have B292 := n1_
               have HB := n2_
               clear n0_ n1_ n2_
               refine start_ (n := 17) (S := fun w' => w'.cell? ⟨g291, 0, none⟩ = some (.int .u64 x292000_2) ∧ w'.cell? ⟨g291, 1, none⟩ = some (.int .u64 x292001_2) ∧ w'.cell? ⟨g291, 2, none⟩ = some (.int .u64 x292002_2) ∧ w'.cell? ⟨g291, 3, none⟩ = some (.int .u64 x292003_2) ∧ w'.cell? ⟨0, 1, none⟩ = some (.int .u64 171)) (ds := [16]) z25_0_ (by kernel_rfl) rfl rfl ⟨bq_ B291 0, bq_ B291 1, bq_ B291 2, bq_ B291 3, ((HRG.out.below HB.out).u0 1 (by decide))⟩ (fun hL => ?_); refine with_tabW sponge_Inverse.tab11 sponge_Inverse.bits11 (fun T_ W_ => ?_)
               generalize wr.drew = w106 at B291 B292 HB hL ⊢
               refine pure_ (i := 0) (N := some 23) (v := ?_) (a' := ?_) z25_1_ rfl rfl (an_ T_) (fun _ _ _ h => h) (Or.inl ⟨by rfl, ?_⟩) ?_ ?_
               rotate_left; · intro w'; go_simp; with_reducible rfl
               rotate_left; · simp only [Act.put, sa_, sb_, sc_, i64_w, i32_w]; rfl
               refine pure_ (i := 1) (N := some 24) (v := ?_) (a' := ?_) z25_2_ rfl rfl (an_ T_) (fun _ _ _ h => h) (Or.inl ⟨by rfl, ?_⟩) ?_ ?_
               rotate_left; · intro w'; go_simp; with_reducible rfl
               rotate_left; · simp only [Act.put, sa_, sb_, sc_, i64_w, i32_w]; rfl
               refine pure_ (i := 2) (N := some 25) (v := ?_) (a' := ?_) z25_3_ rfl rfl (an_ T_) (fun _ _ _ h => h) (Or.inl ⟨by rfl, ?_⟩) ?_ ?_
               rotate_left; · intro w'; go_simp; with_reducible rfl
               rotate_left; · simp only [Act.put, sa_, sb_, sc_, i64_w, i32_w]; rfl
               refine pure_ (i := 3) (N := some 26) (v := ?_) (a' := ?_) z25_4_ rfl rfl (an_ T_) (fun _ _ _ h => h) (Or.inl ⟨by rfl, ?_⟩) ?_ ?_
               rotate_left; · intro w'; go_simp; with_reducible rfl
               rotate_left; · simp only [Act.put, sa_, sb_, sc_, i64_w, i32_w]; rfl
               refine pure_ (i := 4) (N := some 27) (v := ?_) (a' := ?_) z25_5_ rfl rfl (an_ T_) (fun _ _ _ h => h) (Or.inl ⟨by rfl, ?_⟩) ?_ ?_
               rotate_left; · intro w'; go_simp; with_reducible rfl
               rotate_left; · simp only [Act.put, sa_, sb_, sc_, i64_w, i32_w]; rfl
               refine pure_ (i := 6) (N := some 29) (v := ?_) (a' := ?_) z25_6_ rfl rfl (an_ T_) (fun _ _ _ h => h) (Or.inl ⟨by rfl, ?_⟩) ?_ ?_
               rotate_left; · intro w'; go_simp; with_reducible rfl
               rotate_left; · simp only [Act.put, sa_, sb_, sc_, i64_w, i32_w]; rfl
               refine pure_ (i := 7) (N := some 30) (v := ?_) (a' := ?_) z25_7_ rfl rfl (an_ T_) (fun _ _ _ h => h) (Or.inl ⟨by rfl, ?_⟩) ?_ ?_
               rotate_left; · intro w'; go_simp; with_reducible rfl
               rotate_left; · simp only [Act.put, sa_, sb_, sc_, i64_w, i32_w]; rfl
               refine pure_ (i := 10) (N := some 33) (v := ?_) (a' := ?_) z25_8_ rfl rfl (an_ T_) (fun _ _ _ h => h) (Or.inl ⟨by rfl, ?_⟩) ?_ ?_
               rotate_left; · intro w'; go_simp; with_reducible rfl
               rotate_left; · simp only [Act.put, sa_, sb_, sc_, i64_w, i32_w]; rfl
               refine pure_ (i := 11) (N := some 34) (v := ?_) (a' := ?_) z25_9_ rfl rfl (an_ T_) (fun _ _ _ h => h) (Or.inl ⟨by rfl, ?_⟩) ?_ ?_
               rotate_left; · intro w'; go_simp; with_reducible rfl
               rotate_left; · simp only [Act.put, sa_, sb_, sc_, i64_w, i32_w]; rfl
               refine pure_ (i := 12) (N := some 35) (v := ?_) (a' := ?_) z25_10_ rfl rfl (an_ T_) (fun _ _ _ h => h) (Or.inl ⟨by rfl, ?_⟩) ?_ ?_
               rotate_left; · intro w'; go_simp; with_reducible rfl
               rotate_left; · simp only [Act.put, sa_, sb_, sc_, i64_w, i32_w]; rfl
               refine take_ (i := 5) (N := some 28) (v := ?_) (a' := ?_) z25_11_ rfl rfl (tk_ T_ W_) (fun _ _ _ h => h) (Or.inl ⟨by rfl, ?_⟩) hL ?_ ?_
               rotate_left
               ·rintro w' ⟨s0, s1, s2, s3, s4⟩
                go_simp
                with_reducible rfl
               rotate_left
               ·simp only [Act.put, sa_, sb_, sc_, i64_w, i32_w]
                rfl
               refine take_ (i := 8) (N := some 31) (v := ?_) (a' := ?_) z25_12_ rfl rfl (tk_ T_ W_) (fun _ _ _ h => h) (Or.inl ⟨by rfl, ?_⟩) hL ?_ ?_
               rotate_left
               ·rintro w' ⟨s0, s1, s2, s3, s4⟩
                go_simp
                with_reducible rfl
               rotate_left
               ·simp only [Act.put, sa_, sb_, sc_, i64_w, i32_w]
                rfl
               refine one_ (i := 9) (N := some 32) z25_13_ rfl rfl (on_ T_) (by decide) (fun K hK => ?_)
               refine goes_ Tryd.func29 (by kernel_rfl) rfl #[.int .i64 1, .int .u64 x292002_2, .int .u64 171] (by rfl) rfl rfl (by (try simp only [List.map_toArray, List.map_cons, List.map_nil]); first | done | rfl) ?_
               with_reducible refine (field_Pow.calls k2 1 x292002_2 171 t325 _ ?side1 A103.out).mono ?_
               (case side1 => repeat (first | exact (GL.below HRG.out HB.out) | (with_reducible refine GL.alloc ?_ _) | (with_reducible refine GL.drewN ?_ _) | (with_reducible refine GL.drew ?_)))
               rintro e w107 ⟨rfl, hb⟩
               refine ⟨_, rfl, ?_⟩
               have n0_ := Aside0.mk (blk_below (g := g291) (o := .cells #[.int .u64 x292000_2, .int .u64 x292001_2, .int .u64 x292002_2, .int .u64 x292003_2] 23 (0, 0)) (by (with_reducible repeat first | refine blk_drewN ?_ _ | refine blk_drew ?_ | refine blk_alloc ?_ _); exact B291.out) hb)
               have n1_ := Aside0.mk (blk_below (g := g292) (o := .cells #[.int .u64 0, .int .u64 0, .int .u64 0, .int .u64 0] 23 (0, 0)) (by (with_reducible repeat first | refine blk_drewN ?_ _ | refine blk_drew ?_ | refine blk_alloc ?_ _); exact B292.out) hb)
               have n2_ := Aside0.mk (below_step (by repeat (first | (with_reducible first | exact HB.out | apply below_alloc | apply pw_below_drewN | apply below_drew1 | refine below_set ?_ GE291.out | refine below_set ?_ GE292.out) | exact HB.out)) hb)
               clear B291
               clear B292
               clear HB
               have B291 := n0_
               have B292 := n1_
               have HB := n2_
               clear n0_ n1_ n2_
               (try clear hb)
               (try clear hb2)
               (try clear hk)
               (try clear hi)
               refine hK.out _ _ ⟨bq_ B291 0, bq_ B291 1, bq_ B291 2, bq_ B291 3, ((HRG.out.below HB.out).u0 1 (by decide))⟩ (fun hL => ?_)
               clear hK K
               refine norm_ (a' := ?_) ?_ ?_
               rotate_left
               ·show Act.put _ (some 32) _ = _
                simp only [Act.put, sa_, sb_, sc_, i64_w, i32_w]
                rfl
               refine one_ (i := 13) (N := some 36) z25_14_ rfl rfl (on_ T_) (by decide) (fun K hK => ?_)
               refine goes_ Tryd.func12 (by kernel_rfl) rfl #[.int .i64 1, .int .i64 (wrap64 (7 - x12_1)), .int .i64 2] (by rfl) rfl rfl (by (try simp only [List.map_toArray, List.map_cons, List.map_nil]); first | done | rfl) ?_
               with_reducible refine (sponge_Constant.calls k2 1 (wrap64 (7 - x12_1)) 2 t326 _ ?side1 A104.out).mono ?_
               (case side1 => repeat (first | exact (GL.below HRG.out HB.out) | (with_reducible refine GL.alloc ?_ _) | (with_reducible refine GL.drewN ?_ _) | (with_reducible refine GL.drew ?_)))
               rintro e w108 ⟨rfl, hb⟩
               refine ⟨_, rfl, ?_⟩
               have n0_ := Aside0.mk (blk_below (g := g291) (o := .cells #[.int .u64 x292000_2, .int .u64 x292001_2, .int .u64 x292002_2, .int .u64 x292003_2] 23 (0, 0)) (by (with_reducible repeat first | refine blk_drewN ?_ _ | refine blk_drew ?_ | refine blk_alloc ?_ _); exact B291.out) hb)
               have n1_ := Aside0.mk (blk_below (g := g292) (o := .cells #[.int .u64 0, .int .u64 0, .int .u64 0, .int .u64 0] 23 (0, 0)) (by (with_reducible repeat first | refine blk_drewN ?_ _ | refine blk_drew ?_ | refine blk_alloc ?_ _); exact B292.out) hb)
               have n2_ := Aside0.mk (below_step (by repeat (first | (with_reducible first | exact HB.out | apply below_alloc | apply pw_below_drewN | apply below_drew1 | refine below_set ?_ GE291.out | refine below_set ?_ GE292.out) | exact HB.out)) hb)
               clear B291
               clear B292
               clear HB
               have B291 := n0_
               have B292 := n1_
               have HB := n2_
               clear n0_ n1_ n2_
               (try clear hb)
               (try clear hb2)
               (try clear hk)
               (try clear hi)
               refine hK.out _ _ ⟨bq_ B291 0, bq_ B291 1, bq_ B291 2, bq_ B291 3, ((HRG.out.below HB.out).u0 1 (by decide))⟩ (fun hL => ?_)
               clear hK K
               refine norm_ (a' := ?_) ?_ ?_
               rotate_left
               ·show Act.put _ (some 36) _ = _
                simp only [Act.put, sa_, sb_, sc_, i64_w, i32_w]
                rfl
               refine one_ (i := 14) (N := some 37) z25_15_ rfl rfl (on_ T_) (by decide) (fun K hK => ?_)
               refine goes_ Tryd.func45 (by kernel_rfl) rfl #[.int .i64 1, .int .u64 t325, .int .u64 t326] (by rfl) rfl rfl (by (try simp only [List.map_toArray, List.map_cons, List.map_nil]); first | done | rfl) ?_
               with_reducible refine (field_Sub.calls 1 t325 t326 t327 _ ?side1 A105.out).mono ?_
               (case side1 => repeat (first | exact (GL.below HRG.out HB.out) | (with_reducible refine GL.alloc ?_ _) | (with_reducible refine GL.drewN ?_ _) | (with_reducible refine GL.drew ?_)))
               rintro e w109 ⟨rfl, hb⟩
               refine ⟨_, rfl, ?_⟩
               have n0_ := Aside0.mk (blk_below (g := g291) (o := .cells #[.int .u64 x292000_2, .int .u64 x292001_2, .int .u64 x292002_2, .int .u64 x292003_2] 23 (0, 0)) (by (with_reducible repeat first | refine blk_drewN ?_ _ | refine blk_drew ?_ | refine blk_alloc ?_ _); exact B291.out) hb)
               have n1_ := Aside0.mk (blk_below (g := g292) (o := .cells #[.int .u64 0, .int .u64 0, .int .u64 0, .int .u64 0] 23 (0, 0)) (by (with_reducible repeat first | refine blk_drewN ?_ _ | refine blk_drew ?_ | refine blk_alloc ?_ _); exact B292.out) hb)
               have n2_ := Aside0.mk (below_step (by repeat (first | (with_reducible first | exact HB.out | apply below_alloc | apply pw_below_drewN | apply below_drew1 | refine below_set ?_ GE291.out | refine below_set ?_ GE292.out) | exact HB.out)) hb)
               clear B291
               clear B292
               clear HB
               have B291 := n0_
               have B292 := n1_
               have HB := n2_
               clear n0_ n1_ n2_
               (try clear hb)
               (try clear hb2)
               (try clear hk)
               (try clear hi)
               refine hK.out _ _ ⟨bq_ B291 0, bq_ B291 1, bq_ B291 2, bq_ B291 3, ((HRG.out.below HB.out).u0 1 (by decide))⟩ (fun hL => ?_)
               clear hK K
               refine norm_ (a' := ?_) ?_ ?_
               rotate_left
               ·show Act.put _ (some 37) _ = _
                simp only [Act.put, sa_, sb_, sc_, i64_w, i32_w]
                rfl
               refine pure_ (i := 15) (N := some 38) (v := ?_) (a' := ?_) z25_16_ rfl rfl (an_ T_) (fun _ _ _ h => h) (Or.inl ⟨by rfl, ?_⟩) ?_ ?_
               rotate_left; · intro w'; go_simp; with_reducible rfl
               rotate_left; · simp only [Act.put, sa_, sb_, sc_, i64_w, i32_w]; rfl
               refine last_ (i := 16) (N := none) z25_17_ rfl rfl (on_ T_) (by decide) (fun K hK => ?_)
               have hs110 : w109.cell? ⟨g291, 2, none⟩ = some (.int .u64 x292002_2) := bq_ B291 2
               have hfs110 := blk_frozen B291.out 2
               have hns110_1 := NB292_291.out
               have hms110_1 := NB291_292.out
               refine skip_ (w1 := ?_) (by rfl) rfl ?_ ?_
               rotate_left
               ·go_simp
                rfl
               refine hK.out _ _ ?_
               clear hK K
               refine done_ (done_of T_.out (by kernel_rfl)) ?_
               try go_wp2
               go_roundg k2
               case measure => have := HK1.out; have := HK2.out; omega
               case rel => exact ⟨(wrap64 (2 + 1)), (x292000_2), (x292001_2), (t327), (x292003_2), (by first | rfl | (simp; done) | (simp [*]; done) | (simp; rfl) | (simp; decide +kernel)), H', ⟨by have := HK1.out; have := HK2.out; omega⟩, ⟨by (with_reducible repeat first | refine blk_drewN ?_ _ | refine blk_drew ?_ | refine blk_alloc ?_ _); refine blk_put (cs := #[.int .u64 x292000_2, .int .u64 x292001_2, .int .u64 x292002_2, .int .u64 x292003_2]) ?_ 2 _ rfl; (with_reducible repeat first | refine blk_drewN ?_ _ | refine blk_drew ?_ | refine blk_alloc ?_ _); exact B291.out⟩, ⟨by (with_reducible repeat first | refine blk_drewN ?_ _ | refine blk_drew ?_ | refine blk_alloc ?_ _); refine blk_far ?_ NB292_291.out _; (with_reducible repeat first | refine blk_drewN ?_ _ | refine blk_drew ?_ | refine blk_alloc ?_ _); exact B292.out⟩, ⟨by repeat (first | (with_reducible first | exact HB.out | apply below_alloc | apply pw_below_drewN | apply below_drew1 | refine below_set ?_ GE291.out | refine below_set ?_ GE292.out) | exact HB.out)⟩⟩
              ·rw [if_neg c102] at H
               by_cases c111 : a0 = 2
               ·rw [if_pos c111] at H
                subst c111
                replace H := Option.bind_eq_some_iff.mp H
                obtain ⟨t328, A1120, H⟩ := H
                replace H : ((sponge_Constant.f k2 2 (wrap64 (7 - x12_1)) 2).bind fun t329 => ((field_Sub.f 2 t328 t329).bind fun t330 => (sponge_Inverse.l1 k2 2 (wrap64 (7 - x12_1)) x12_1 (wrap64 (2 + 1)) x292000_2 x292001_2 t330 x292003_2))) = some (r1, r2, r3, r4) := H
                have A112 := Aside0.mk A1120
                clear A1120
                replace H := Option.bind_eq_some_iff.mp H
                obtain ⟨t329, A1130, H⟩ := H
                replace H : ((field_Sub.f 2 t328 t329).bind fun t330 => (sponge_Inverse.l1 k2 2 (wrap64 (7 - x12_1)) x12_1 (wrap64 (2 + 1)) x292000_2 x292001_2 t330 x292003_2)) = some (r1, r2, r3, r4) := H
                have A113 := Aside0.mk A1130
                clear A1130
                replace H := Option.bind_eq_some_iff.mp H
                obtain ⟨t330, A1140, H⟩ := H
                replace H : (sponge_Inverse.l1 k2 2 (wrap64 (7 - x12_1)) x12_1 (wrap64 (2 + 1)) x292000_2 x292001_2 t330 x292003_2) = some (r1, r2, r3, r4) := H
                have A114 := Aside0.mk A1140
                clear A1140
                have H' := Aside0.mk H
                clear H
                try go_wp2
                have n0_ := Aside0.mk (blk_drew B291.out)
                have n1_ := Aside0.mk (blk_drew B292.out)
                have n2_ := Aside0.mk (below_drew1 HB.out)
                clear B291
                clear B292
                clear HB
                have B291 := n0_
                have B292 := n1_
                have HB := n2_
                clear n0_ n1_ n2_
                refine start_ (n := 17) (S := fun w' => w'.cell? ⟨g291, 0, none⟩ = some (.int .u64 x292000_2) ∧ w'.cell? ⟨g291, 1, none⟩ = some (.int .u64 x292001_2) ∧ w'.cell? ⟨g291, 2, none⟩ = some (.int .u64 x292002_2) ∧ w'.cell? ⟨g291, 3, none⟩ = some (.int .u64 x292003_2) ∧ w'.cell? ⟨0, 2, none⟩ = some (.int .u64 7373)) (ds := [16]) z25_0_ (by kernel_rfl) rfl rfl ⟨bq_ B291 0, bq_ B291 1, bq_ B291 2, bq_ B291 3, ((HRG.out.below HB.out).u0 2 (by decide))⟩ (fun hL => ?_); refine with_tabW sponge_Inverse.tab11 sponge_Inverse.bits11 (fun T_ W_ => ?_)
                generalize wr.drew = w115 at B291 B292 HB hL ⊢
                refine pure_ (i := 0) (N := some 23) (v := ?_) (a' := ?_) z25_1_ rfl rfl (an_ T_) (fun _ _ _ h => h) (Or.inl ⟨by rfl, ?_⟩) ?_ ?_
                rotate_left; · intro w'; go_simp; with_reducible rfl
                rotate_left; · simp only [Act.put, sa_, sb_, sc_, i64_w, i32_w]; rfl
                refine pure_ (i := 1) (N := some 24) (v := ?_) (a' := ?_) z25_2_ rfl rfl (an_ T_) (fun _ _ _ h => h) (Or.inl ⟨by rfl, ?_⟩) ?_ ?_
                rotate_left; · intro w'; go_simp; with_reducible rfl
                rotate_left; · simp only [Act.put, sa_, sb_, sc_, i64_w, i32_w]; rfl
                refine pure_ (i := 2) (N := some 25) (v := ?_) (a' := ?_) z25_3_ rfl rfl (an_ T_) (fun _ _ _ h => h) (Or.inl ⟨by rfl, ?_⟩) ?_ ?_
                rotate_left; · intro w'; go_simp; with_reducible rfl
                rotate_left; · simp only [Act.put, sa_, sb_, sc_, i64_w, i32_w]; rfl
                refine pure_ (i := 3) (N := some 26) (v := ?_) (a' := ?_) z25_4_ rfl rfl (an_ T_) (fun _ _ _ h => h) (Or.inl ⟨by rfl, ?_⟩) ?_ ?_
                rotate_left; · intro w'; go_simp; with_reducible rfl
                rotate_left; · simp only [Act.put, sa_, sb_, sc_, i64_w, i32_w]; rfl
                refine pure_ (i := 4) (N := some 27) (v := ?_) (a' := ?_) z25_5_ rfl rfl (an_ T_) (fun _ _ _ h => h) (Or.inl ⟨by rfl, ?_⟩) ?_ ?_
                rotate_left; · intro w'; go_simp; with_reducible rfl
                rotate_left; · simp only [Act.put, sa_, sb_, sc_, i64_w, i32_w]; rfl
                refine pure_ (i := 6) (N := some 29) (v := ?_) (a' := ?_) z25_6_ rfl rfl (an_ T_) (fun _ _ _ h => h) (Or.inl ⟨by rfl, ?_⟩) ?_ ?_
                rotate_left; · intro w'; go_simp; with_reducible rfl
                rotate_left; · simp only [Act.put, sa_, sb_, sc_, i64_w, i32_w]; rfl
                refine pure_ (i := 7) (N := some 30) (v := ?_) (a' := ?_) z25_7_ rfl rfl (an_ T_) (fun _ _ _ h => h) (Or.inl ⟨by rfl, ?_⟩) ?_ ?_
                rotate_left; · intro w'; go_simp; with_reducible rfl
                rotate_left; · simp only [Act.put, sa_, sb_, sc_, i64_w, i32_w]; rfl
                refine pure_ (i := 10) (N := some 33) (v := ?_) (a' := ?_) z25_8_ rfl rfl (an_ T_) (fun _ _ _ h => h) (Or.inl ⟨by rfl, ?_⟩) ?_ ?_
                rotate_left; · intro w'; go_simp; with_reducible rfl
                rotate_left; · simp only [Act.put, sa_, sb_, sc_, i64_w, i32_w]; rfl
                refine pure_ (i := 11) (N := some 34) (v := ?_) (a' := ?_) z25_9_ rfl rfl (an_ T_) (fun _ _ _ h => h) (Or.inl ⟨by rfl, ?_⟩) ?_ ?_
                rotate_left; · intro w'; go_simp; with_reducible rfl
                rotate_left; · simp only [Act.put, sa_, sb_, sc_, i64_w, i32_w]; rfl
                refine pure_ (i := 12) (N := some 35) (v := ?_) (a' := ?_) z25_10_ rfl rfl (an_ T_) (fun _ _ _ h => h) (Or.inl ⟨by rfl, ?_⟩) ?_ ?_
                rotate_left; · intro w'; go_simp; with_reducible rfl
                rotate_left; · simp only [Act.put, sa_, sb_, sc_, i64_w, i32_w]; rfl
                refine take_ (i := 5) (N := some 28) (v := ?_) (a' := ?_) z25_11_ rfl rfl (tk_ T_ W_) (fun _ _ _ h => h) (Or.inl ⟨by rfl, ?_⟩) hL ?_ ?_
                rotate_left
                ·rintro w' ⟨s0, s1, s2, s3, s4⟩
                 go_simp
                 with_reducible rfl
                rotate_left
                ·simp only [Act.put, sa_, sb_, sc_, i64_w, i32_w]
                 rfl
                refine take_ (i := 8) (N := some 31) (v := ?_) (a' := ?_) z25_12_ rfl rfl (tk_ T_ W_) (fun _ _ _ h => h) (Or.inl ⟨by rfl, ?_⟩) hL ?_ ?_
                rotate_left
                ·rintro w' ⟨s0, s1, s2, s3, s4⟩
                 go_simp
                 with_reducible rfl
                rotate_left
                ·simp only [Act.put, sa_, sb_, sc_, i64_w, i32_w]
                 rfl
                refine one_ (i := 9) (N := some 32) z25_13_ rfl rfl (on_ T_) (by decide) (fun K hK => ?_)
                refine goes_ Tryd.func29 (by kernel_rfl) rfl #[.int .i64 2, .int .u64 x292002_2, .int .u64 7373] (by rfl) rfl rfl (by (try simp only [List.map_toArray, List.map_cons, List.map_nil]); first | done | rfl) ?_
                with_reducible refine (field_Pow.calls k2 2 x292002_2 7373 t328 _ ?side1 A112.out).mono ?_
                (case side1 => repeat (first | exact (GL.below HRG.out HB.out) | (with_reducible refine GL.alloc ?_ _) | (with_reducible refine GL.drewN ?_ _) | (with_reducible refine GL.drew ?_)))
                rintro e w116 ⟨rfl, hb⟩
                refine ⟨_, rfl, ?_⟩
                have n0_ := Aside0.mk (blk_below (g := g291) (o := .cells #[.int .u64 x292000_2, .int .u64 x292001_2, .int .u64 x292002_2, .int .u64 x292003_2] 23 (0, 0)) (by (with_reducible repeat first | refine blk_drewN ?_ _ | refine blk_drew ?_ | refine blk_alloc ?_ _); exact B291.out) hb)
                have n1_ := Aside0.mk (blk_below (g := g292) (o := .cells #[.int .u64 0, .int .u64 0, .int .u64 0, .int .u64 0] 23 (0, 0)) (by (with_reducible repeat first | refine blk_drewN ?_ _ | refine blk_drew ?_ | refine blk_alloc ?_ _); exact B292.out) hb)
                have n2_ := Aside0.mk (below_step (by repeat (first | (with_reducible first | exact HB.out | apply below_alloc | apply pw_below_drewN | apply below_drew1 | refine below_set ?_ GE291.out | refine below_set ?_ GE292.out) | exact HB.out)) hb)
                clear B291
                clear B292
                clear HB
                have B291 := n0_
                have B292 := n1_
                have HB := n2_
                clear n0_ n1_ n2_
                (try clear hb)
                (try clear hb2)
                (try clear hk)
                (try clear hi)
                refine hK.out _ _ ⟨bq_ B291 0, bq_ B291 1, bq_ B291 2, bq_ B291 3, ((HRG.out.below HB.out).u0 2 (by decide))⟩ (fun hL => ?_)
                clear hK K
                refine norm_ (a' := ?_) ?_ ?_
                rotate_left
                ·show Act.put _ (some 32) _ = _
                 simp only [Act.put, sa_, sb_, sc_, i64_w, i32_w]
                 rfl
                refine one_ (i := 13) (N := some 36) z25_14_ rfl rfl (on_ T_) (by decide) (fun K hK => ?_)
                refine goes_ Tryd.func12 (by kernel_rfl) rfl #[.int .i64 2, .int .i64 (wrap64 (7 - x12_1)), .int .i64 2] (by rfl) rfl rfl (by (try simp only [List.map_toArray, List.map_cons, List.map_nil]); first | done | rfl) ?_
                with_reducible refine (sponge_Constant.calls k2 2 (wrap64 (7 - x12_1)) 2 t329 _ ?side1 A113.out).mono ?_
                (case side1 => repeat (first | exact (GL.below HRG.out HB.out) | (with_reducible refine GL.alloc ?_ _) | (with_reducible refine GL.drewN ?_ _) | (with_reducible refine GL.drew ?_)))
                rintro e w117 ⟨rfl, hb⟩
                refine ⟨_, rfl, ?_⟩
                have n0_ := Aside0.mk (blk_below (g := g291) (o := .cells #[.int .u64 x292000_2, .int .u64 x292001_2, .int .u64 x292002_2, .int .u64 x292003_2] 23 (0, 0)) (by (with_reducible repeat first | refine blk_drewN ?_ _ | refine blk_drew ?_ | refine blk_alloc ?_ _); exact B291.out) hb)
                have n1_ := Aside0.mk (blk_below (g := g292) (o := .cells #[.int .u64 0, .int .u64 0, .int .u64 0, .int .u64 0] 23 (0, 0)) (by (with_reducible repeat first | refine blk_drewN ?_ _ | refine blk_drew ?_ | refine blk_alloc ?_ _); exact B292.out) hb)
                have n2_ := Aside0.mk (below_step (by repeat (first | (with_reducible first | exact HB.out | apply below_alloc | apply pw_below_drewN | apply below_drew1 | refine below_set ?_ GE291.out | refine below_set ?_ GE292.out) | exact HB.out)) hb)
                clear B291
                clear B292
                clear HB
                have B291 := n0_
                have B292 := n1_
                have HB := n2_
                clear n0_ n1_ n2_
                (try clear hb)
                (try clear hb2)
                (try clear hk)
                (try clear hi)
                refine hK.out _ _ ⟨bq_ B291 0, bq_ B291 1, bq_ B291 2, bq_ B291 3, ((HRG.out.below HB.out).u0 2 (by decide))⟩ (fun hL => ?_)
                clear hK K
                refine norm_ (a' := ?_) ?_ ?_
                rotate_left
                ·show Act.put _ (some 36) _ = _
                 simp only [Act.put, sa_, sb_, sc_, i64_w, i32_w]
                 rfl
                refine one_ (i := 14) (N := some 37) z25_15_ rfl rfl (on_ T_) (by decide) (fun K hK => ?_)
                refine goes_ Tryd.func45 (by kernel_rfl) rfl #[.int .i64 2, .int .u64 t328, .int .u64 t329] (by rfl) rfl rfl (by (try simp only [List.map_toArray, List.map_cons, List.map_nil]); first | done | rfl) ?_
                with_reducible refine (field_Sub.calls 2 t328 t329 t330 _ ?side1 A114.out).mono ?_
                (case side1 => repeat (first | exact (GL.below HRG.out HB.out) | (with_reducible refine GL.alloc ?_ _) | (with_reducible refine GL.drewN ?_ _) | (with_reducible refine GL.drew ?_)))
                rintro e w118 ⟨rfl, hb⟩
                refine ⟨_, rfl, ?_⟩
                have n0_ := Aside0.mk (blk_below (g := g291) (o := .cells #[.int .u64 x292000_2, .int .u64 x292001_2, .int .u64 x292002_2, .int .u64 x292003_2] 23 (0, 0)) (by (with_reducible repeat first | refine blk_drewN ?_ _ | refine blk_drew ?_ | refine blk_alloc ?_ _); exact B291.out) hb)
                have n1_ := Aside0.mk (blk_below (g := g292) (o := .cells #[.int .u64 0, .int .u64 0, .int .u64 0, .int .u64 0] 23 (0, 0)) (by (with_reducible repeat first | refine blk_drewN ?_ _ | refine blk_drew ?_ | refine blk_alloc ?_ _); exact B292.out) hb)
                have n2_ := Aside0.mk (below_step (by repeat (first | (with_reducible first | exact HB.out | apply below_alloc | apply pw_below_drewN | apply below_drew1 | refine below_set ?_ GE291.out | refine below_set ?_ GE292.out) | exact HB.out)) hb)
                clear B291
                clear B292
                clear HB
                have B291 := n0_
                have B292 := n1_
                have HB := n2_
                clear n0_ n1_ n2_
                (try clear hb)
                (try clear hb2)
                (try clear hk)
                (try clear hi)
                refine hK.out _ _ ⟨bq_ B291 0, bq_ B291 1, bq_ B291 2, bq_ B291 3, ((HRG.out.below HB.out).u0 2 (by decide))⟩ (fun hL => ?_)
                clear hK K
                refine norm_ (a' := ?_) ?_ ?_
                rotate_left
                ·show Act.put _ (some 37) _ = _
                 simp only [Act.put, sa_, sb_, sc_, i64_w, i32_w]
                 rfl
                refine pure_ (i := 15) (N := some 38) (v := ?_) (a' := ?_) z25_16_ rfl rfl (an_ T_) (fun _ _ _ h => h) (Or.inl ⟨by rfl, ?_⟩) ?_ ?_
                rotate_left; · intro w'; go_simp; with_reducible rfl
                rotate_left; · simp only [Act.put, sa_, sb_, sc_, i64_w, i32_w]; rfl
                refine last_ (i := 16) (N := none) z25_17_ rfl rfl (on_ T_) (by decide) (fun K hK => ?_)
                have hs119 : w118.cell? ⟨g291, 2, none⟩ = some (.int .u64 x292002_2) := bq_ B291 2
                have hfs119 := blk_frozen B291.out 2
                have hns119_1 := NB292_291.out
                have hms119_1 := NB291_292.out
                refine skip_ (w1 := ?_) (by rfl) rfl ?_ ?_
                rotate_left
                ·go_simp
                 rfl
                refine hK.out _ _ ?_
                clear hK K
                refine done_ (done_of T_.out (by kernel_rfl)) ?_
                try go_wp2
                go_roundg k2
                case measure => have := HK1.out; have := HK2.out; omega
                case rel => exact ⟨(wrap64 (2 + 1)), (x292000_2), (x292001_2), (t330), (x292003_2), (by first | rfl | (simp; done) | (simp [*]; done) | (simp; rfl) | (simp; decide +kernel)), H', ⟨by have := HK1.out; have := HK2.out; omega⟩, ⟨by (with_reducible repeat first | refine blk_drewN ?_ _ | refine blk_drew ?_ | refine blk_alloc ?_ _); refine blk_put (cs := #[.int .u64 x292000_2, .int .u64 x292001_2, .int .u64 x292002_2, .int .u64 x292003_2]) ?_ 2 _ rfl; (with_reducible repeat first | refine blk_drewN ?_ _ | refine blk_drew ?_ | refine blk_alloc ?_ _); exact B291.out⟩, ⟨by (with_reducible repeat first | refine blk_drewN ?_ _ | refine blk_drew ?_ | refine blk_alloc ?_ _); refine blk_far ?_ NB292_291.out _; (with_reducible repeat first | refine blk_drewN ?_ _ | refine blk_drew ?_ | refine blk_alloc ?_ _); exact B292.out⟩, ⟨by repeat (first | (with_reducible first | exact HB.out | apply below_alloc | apply pw_below_drewN | apply below_drew1 | refine below_set ?_ GE291.out | refine below_set ?_ GE292.out) | exact HB.out)⟩⟩
               ·rw [if_neg c111] at H
                by_cases c120 : a0 = 3
                ·rw [if_pos c120] at H
                 subst c120
                 replace H := Option.bind_eq_some_iff.mp H
                 obtain ⟨t331, A1210, H⟩ := H
                 replace H : ((sponge_Constant.f k2 3 (wrap64 (7 - x12_1)) 2).bind fun t332 => ((field_Sub.f 3 t331 t332).bind fun t333 => (sponge_Inverse.l1 k2 3 (wrap64 (7 - x12_1)) x12_1 (wrap64 (2 + 1)) x292000_2 x292001_2 t333 x292003_2))) = some (r1, r2, r3, r4) := H
                 have A121 := Aside0.mk A1210
                 clear A1210
                 replace H := Option.bind_eq_some_iff.mp H
                 obtain ⟨t332, A1220, H⟩ := H
                 replace H : ((field_Sub.f 3 t331 t332).bind fun t333 => (sponge_Inverse.l1 k2 3 (wrap64 (7 - x12_1)) x12_1 (wrap64 (2 + 1)) x292000_2 x292001_2 t333 x292003_2)) = some (r1, r2, r3, r4) := H
                 have A122 := Aside0.mk A1220
                 clear A1220
                 replace H := Option.bind_eq_some_iff.mp H
                 obtain ⟨t333, A1230, H⟩ := H
                 replace H : (sponge_Inverse.l1 k2 3 (wrap64 (7 - x12_1)) x12_1 (wrap64 (2 + 1)) x292000_2 x292001_2 t333 x292003_2) = some (r1, r2, r3, r4) := H
                 have A123 := Aside0.mk A1230
                 clear A1230
                 have H' := Aside0.mk H
                 clear H
                 try go_wp2
                 have n0_ := Aside0.mk (blk_drew B291.out)
                 have n1_ := Aside0.mk (blk_drew B292.out)
                 have n2_ := Aside0.mk (below_drew1 HB.out)
                 clear B291
                 clear B292
                 clear HB
                 have B291 := n0_
                 have B292 := n1_
                 have HB := n2_
                 clear n0_ n1_ n2_
                 refine start_ (n := 17) (S := fun w' => w'.cell? ⟨g291, 0, none⟩ = some (.int .u64 x292000_2) ∧ w'.cell? ⟨g291, 1, none⟩ = some (.int .u64 x292001_2) ∧ w'.cell? ⟨g291, 2, none⟩ = some (.int .u64 x292002_2) ∧ w'.cell? ⟨g291, 3, none⟩ = some (.int .u64 x292003_2) ∧ w'.cell? ⟨0, 3, none⟩ = some (.int .u64 665496235)) (ds := [16]) z25_0_ (by kernel_rfl) rfl rfl ⟨bq_ B291 0, bq_ B291 1, bq_ B291 2, bq_ B291 3, ((HRG.out.below HB.out).u0 3 (by decide))⟩ (fun hL => ?_); refine with_tabW sponge_Inverse.tab11 sponge_Inverse.bits11 (fun T_ W_ => ?_)
                 generalize wr.drew = w124 at B291 B292 HB hL ⊢
                 refine pure_ (i := 0) (N := some 23) (v := ?_) (a' := ?_) z25_1_ rfl rfl (an_ T_) (fun _ _ _ h => h) (Or.inl ⟨by rfl, ?_⟩) ?_ ?_
                 rotate_left; · intro w'; go_simp; with_reducible rfl
                 rotate_left; · simp only [Act.put, sa_, sb_, sc_, i64_w, i32_w]; rfl
                 refine pure_ (i := 1) (N := some 24) (v := ?_) (a' := ?_) z25_2_ rfl rfl (an_ T_) (fun _ _ _ h => h) (Or.inl ⟨by rfl, ?_⟩) ?_ ?_
                 rotate_left; · intro w'; go_simp; with_reducible rfl
                 rotate_left; · simp only [Act.put, sa_, sb_, sc_, i64_w, i32_w]; rfl
                 refine pure_ (i := 2) (N := some 25) (v := ?_) (a' := ?_) z25_3_ rfl rfl (an_ T_) (fun _ _ _ h => h) (Or.inl ⟨by rfl, ?_⟩) ?_ ?_
                 rotate_left; · intro w'; go_simp; with_reducible rfl
                 rotate_left; · simp only [Act.put, sa_, sb_, sc_, i64_w, i32_w]; rfl
                 refine pure_ (i := 3) (N := some 26) (v := ?_) (a' := ?_) z25_4_ rfl rfl (an_ T_) (fun _ _ _ h => h) (Or.inl ⟨by rfl, ?_⟩) ?_ ?_
                 rotate_left; · intro w'; go_simp; with_reducible rfl
                 rotate_left; · simp only [Act.put, sa_, sb_, sc_, i64_w, i32_w]; rfl
                 refine pure_ (i := 4) (N := some 27) (v := ?_) (a' := ?_) z25_5_ rfl rfl (an_ T_) (fun _ _ _ h => h) (Or.inl ⟨by rfl, ?_⟩) ?_ ?_
                 rotate_left; · intro w'; go_simp; with_reducible rfl
                 rotate_left; · simp only [Act.put, sa_, sb_, sc_, i64_w, i32_w]; rfl
                 refine pure_ (i := 6) (N := some 29) (v := ?_) (a' := ?_) z25_6_ rfl rfl (an_ T_) (fun _ _ _ h => h) (Or.inl ⟨by rfl, ?_⟩) ?_ ?_
                 rotate_left; · intro w'; go_simp; with_reducible rfl
                 rotate_left; · simp only [Act.put, sa_, sb_, sc_, i64_w, i32_w]; rfl
                 refine pure_ (i := 7) (N := some 30) (v := ?_) (a' := ?_) z25_7_ rfl rfl (an_ T_) (fun _ _ _ h => h) (Or.inl ⟨by rfl, ?_⟩) ?_ ?_
                 rotate_left; · intro w'; go_simp; with_reducible rfl
                 rotate_left; · simp only [Act.put, sa_, sb_, sc_, i64_w, i32_w]; rfl
                 refine pure_ (i := 10) (N := some 33) (v := ?_) (a' := ?_) z25_8_ rfl rfl (an_ T_) (fun _ _ _ h => h) (Or.inl ⟨by rfl, ?_⟩) ?_ ?_
                 rotate_left; · intro w'; go_simp; with_reducible rfl
                 rotate_left; · simp only [Act.put, sa_, sb_, sc_, i64_w, i32_w]; rfl
                 refine pure_ (i := 11) (N := some 34) (v := ?_) (a' := ?_) z25_9_ rfl rfl (an_ T_) (fun _ _ _ h => h) (Or.inl ⟨by rfl, ?_⟩) ?_ ?_
                 rotate_left; · intro w'; go_simp; with_reducible rfl
                 rotate_left; · simp only [Act.put, sa_, sb_, sc_, i64_w, i32_w]; rfl
                 refine pure_ (i := 12) (N := some 35) (v := ?_) (a' := ?_) z25_10_ rfl rfl (an_ T_) (fun _ _ _ h => h) (Or.inl ⟨by rfl, ?_⟩) ?_ ?_
                 rotate_left; · intro w'; go_simp; with_reducible rfl
                 rotate_left; · simp only [Act.put, sa_, sb_, sc_, i64_w, i32_w]; rfl
                 refine take_ (i := 5) (N := some 28) (v := ?_) (a' := ?_) z25_11_ rfl rfl (tk_ T_ W_) (fun _ _ _ h => h) (Or.inl ⟨by rfl, ?_⟩) hL ?_ ?_
                 rotate_left
                 ·rintro w' ⟨s0, s1, s2, s3, s4⟩
                  go_simp
                  with_reducible rfl
                 rotate_left
                 ·simp only [Act.put, sa_, sb_, sc_, i64_w, i32_w]
                  rfl
                 refine take_ (i := 8) (N := some 31) (v := ?_) (a' := ?_) z25_12_ rfl rfl (tk_ T_ W_) (fun _ _ _ h => h) (Or.inl ⟨by rfl, ?_⟩) hL ?_ ?_
                 rotate_left
                 ·rintro w' ⟨s0, s1, s2, s3, s4⟩
                  go_simp
                  with_reducible rfl
                 rotate_left
                 ·simp only [Act.put, sa_, sb_, sc_, i64_w, i32_w]
                  rfl
                 refine one_ (i := 9) (N := some 32) z25_13_ rfl rfl (on_ T_) (by decide) (fun K hK => ?_)
                 refine goes_ Tryd.func29 (by kernel_rfl) rfl #[.int .i64 3, .int .u64 x292002_2, .int .u64 665496235] (by rfl) rfl rfl (by (try simp only [List.map_toArray, List.map_cons, List.map_nil]); first | done | rfl) ?_
                 with_reducible refine (field_Pow.calls k2 3 x292002_2 665496235 t331 _ ?side1 A121.out).mono ?_
                 (case side1 => repeat (first | exact (GL.below HRG.out HB.out) | (with_reducible refine GL.alloc ?_ _) | (with_reducible refine GL.drewN ?_ _) | (with_reducible refine GL.drew ?_)))
                 rintro e w125 ⟨rfl, hb⟩
                 refine ⟨_, rfl, ?_⟩
                 have n0_ := Aside0.mk (blk_below (g := g291) (o := .cells #[.int .u64 x292000_2, .int .u64 x292001_2, .int .u64 x292002_2, .int .u64 x292003_2] 23 (0, 0)) (by (with_reducible repeat first | refine blk_drewN ?_ _ | refine blk_drew ?_ | refine blk_alloc ?_ _); exact B291.out) hb)
                 have n1_ := Aside0.mk (blk_below (g := g292) (o := .cells #[.int .u64 0, .int .u64 0, .int .u64 0, .int .u64 0] 23 (0, 0)) (by (with_reducible repeat first | refine blk_drewN ?_ _ | refine blk_drew ?_ | refine blk_alloc ?_ _); exact B292.out) hb)
                 have n2_ := Aside0.mk (below_step (by repeat (first | (with_reducible first | exact HB.out | apply below_alloc | apply pw_below_drewN | apply below_drew1 | refine below_set ?_ GE291.out | refine below_set ?_ GE292.out) | exact HB.out)) hb)
                 clear B291
                 clear B292
                 clear HB
                 have B291 := n0_
                 have B292 := n1_
                 have HB := n2_
                 clear n0_ n1_ n2_
                 (try clear hb)
                 (try clear hb2)
                 (try clear hk)
                 (try clear hi)
                 refine hK.out _ _ ⟨bq_ B291 0, bq_ B291 1, bq_ B291 2, bq_ B291 3, ((HRG.out.below HB.out).u0 3 (by decide))⟩ (fun hL => ?_)
                 clear hK K
                 refine norm_ (a' := ?_) ?_ ?_
                 rotate_left
                 ·show Act.put _ (some 32) _ = _
                  simp only [Act.put, sa_, sb_, sc_, i64_w, i32_w]
                  rfl
                 refine one_ (i := 13) (N := some 36) z25_14_ rfl rfl (on_ T_) (by decide) (fun K hK => ?_)
                 refine goes_ Tryd.func12 (by kernel_rfl) rfl #[.int .i64 3, .int .i64 (wrap64 (7 - x12_1)), .int .i64 2] (by rfl) rfl rfl (by (try simp only [List.map_toArray, List.map_cons, List.map_nil]); first | done | rfl) ?_
                 with_reducible refine (sponge_Constant.calls k2 3 (wrap64 (7 - x12_1)) 2 t332 _ ?side1 A122.out).mono ?_
                 (case side1 => repeat (first | exact (GL.below HRG.out HB.out) | (with_reducible refine GL.alloc ?_ _) | (with_reducible refine GL.drewN ?_ _) | (with_reducible refine GL.drew ?_)))
                 rintro e w126 ⟨rfl, hb⟩
                 refine ⟨_, rfl, ?_⟩
                 have n0_ := Aside0.mk (blk_below (g := g291) (o := .cells #[.int .u64 x292000_2, .int .u64 x292001_2, .int .u64 x292002_2, .int .u64 x292003_2] 23 (0, 0)) (by (with_reducible repeat first | refine blk_drewN ?_ _ | refine blk_drew ?_ | refine blk_alloc ?_ _); exact B291.out) hb)
                 have n1_ := Aside0.mk (blk_below (g := g292) (o := .cells #[.int .u64 0, .int .u64 0, .int .u64 0, .int .u64 0] 23 (0, 0)) (by (with_reducible repeat first | refine blk_drewN ?_ _ | refine blk_drew ?_ | refine blk_alloc ?_ _); exact B292.out) hb)
                 have n2_ := Aside0.mk (below_step (by repeat (first | (with_reducible first | exact HB.out | apply below_alloc | apply pw_below_drewN | apply below_drew1 | refine below_set ?_ GE291.out | refine below_set ?_ GE292.out) | exact HB.out)) hb)
                 clear B291
                 clear B292
                 clear HB
                 have B291 := n0_
                 have B292 := n1_
                 have HB := n2_
                 clear n0_ n1_ n2_
                 (try clear hb)
                 (try clear hb2)
                 (try clear hk)
                 (try clear hi)
                 refine hK.out _ _ ⟨bq_ B291 0, bq_ B291 1, bq_ B291 2, bq_ B291 3, ((HRG.out.below HB.out).u0 3 (by decide))⟩ (fun hL => ?_)
                 clear hK K
                 refine norm_ (a' := ?_) ?_ ?_
                 rotate_left
                 ·show Act.put _ (some 36) _ = _
                  simp only [Act.put, sa_, sb_, sc_, i64_w, i32_w]
                  rfl
                 refine one_ (i := 14) (N := some 37) z25_15_ rfl rfl (on_ T_) (by decide) (fun K hK => ?_)
                 refine goes_ Tryd.func45 (by kernel_rfl) rfl #[.int .i64 3, .int .u64 t331, .int .u64 t332] (by rfl) rfl rfl (by (try simp only [List.map_toArray, List.map_cons, List.map_nil]); first | done | rfl) ?_
                 with_reducible refine (field_Sub.calls 3 t331 t332 t333 _ ?side1 A123.out).mono ?_
                 (case side1 => repeat (first | exact (GL.below HRG.out HB.out) | (with_reducible refine GL.alloc ?_ _) | (with_reducible refine GL.drewN ?_ _) | (with_reducible refine GL.drew ?_)))
                 rintro e w127 ⟨rfl, hb⟩
                 refine ⟨_, rfl, ?_⟩
                 have n0_ := Aside0.mk (blk_below (g := g291) (o := .cells #[.int .u64 x292000_2, .int .u64 x292001_2, .int .u64 x292002_2, .int .u64 x292003_2] 23 (0, 0)) (by (with_reducible repeat first | refine blk_drewN ?_ _ | refine blk_drew ?_ | refine blk_alloc ?_ _); exact B291.out) hb)
                 have n1_ := Aside0.mk (blk_below (g := g292) (o := .cells #[.int .u64 0, .int .u64 0, .int .u64 0, .int .u64 0] 23 (0, 0)) (by (with_reducible repeat first | refine blk_drewN ?_ _ | refine blk_drew ?_ | refine blk_alloc ?_ _); exact B292.out) hb)
                 have n2_ := Aside0.mk (below_step (by repeat (first | (with_reducible first | exact HB.out | apply below_alloc | apply pw_below_drewN | apply below_drew1 | refine below_set ?_ GE291.out | refine below_set ?_ GE292.out) | exact HB.out)) hb)
                 clear B291
                 clear B292
                 clear HB
                 have B291 := n0_
                 have B292 := n1_
                 have HB := n2_
                 clear n0_ n1_ n2_
                 (try clear hb)
                 (try clear hb2)
                 (try clear hk)
                 (try clear hi)
                 refine hK.out _ _ ⟨bq_ B291 0, bq_ B291 1, bq_ B291 2, bq_ B291 3, ((HRG.out.below HB.out).u0 3 (by decide))⟩ (fun hL => ?_)
                 clear hK K
                 refine norm_ (a' := ?_) ?_ ?_
                 rotate_left
                 ·show Act.put _ (some 37) _ = _
                  simp only [Act.put, sa_, sb_, sc_, i64_w, i32_w]
                  rfl
                 refine pure_ (i := 15) (N := some 38) (v := ?_) (a' := ?_) z25_16_ rfl rfl (an_ T_) (fun _ _ _ h => h) (Or.inl ⟨by rfl, ?_⟩) ?_ ?_
                 rotate_left; · intro w'; go_simp; with_reducible rfl
                 rotate_left; · simp only [Act.put, sa_, sb_, sc_, i64_w, i32_w]; rfl
                 refine last_ (i := 16) (N := none) z25_17_ rfl rfl (on_ T_) (by decide) (fun K hK => ?_)
                 have hs128 : w127.cell? ⟨g291, 2, none⟩ = some (.int .u64 x292002_2) := bq_ B291 2
                 have hfs128 := blk_frozen B291.out 2
                 have hns128_1 := NB292_291.out
                 have hms128_1 := NB291_292.out
                 refine skip_ (w1 := ?_) (by rfl) rfl ?_ ?_
                 rotate_left
                 ·go_simp
                  rfl
                 refine hK.out _ _ ?_
                 clear hK K
                 refine done_ (done_of T_.out (by kernel_rfl)) ?_
                 try go_wp2
                 go_roundg k2
                 case measure => have := HK1.out; have := HK2.out; omega
                 case rel => exact ⟨(wrap64 (2 + 1)), (x292000_2), (x292001_2), (t333), (x292003_2), (by first | rfl | (simp; done) | (simp [*]; done) | (simp; rfl) | (simp; decide +kernel)), H', ⟨by have := HK1.out; have := HK2.out; omega⟩, ⟨by (with_reducible repeat first | refine blk_drewN ?_ _ | refine blk_drew ?_ | refine blk_alloc ?_ _); refine blk_put (cs := #[.int .u64 x292000_2, .int .u64 x292001_2, .int .u64 x292002_2, .int .u64 x292003_2]) ?_ 2 _ rfl; (with_reducible repeat first | refine blk_drewN ?_ _ | refine blk_drew ?_ | refine blk_alloc ?_ _); exact B291.out⟩, ⟨by (with_reducible repeat first | refine blk_drewN ?_ _ | refine blk_drew ?_ | refine blk_alloc ?_ _); refine blk_far ?_ NB292_291.out _; (with_reducible repeat first | refine blk_drewN ?_ _ | refine blk_drew ?_ | refine blk_alloc ?_ _); exact B292.out⟩, ⟨by repeat (first | (with_reducible first | exact HB.out | apply below_alloc | apply pw_below_drewN | apply below_drew1 | refine below_set ?_ GE291.out | refine below_set ?_ GE292.out) | exact HB.out)⟩⟩
                ·rw [if_neg c120] at H
                 exact absurd H (by simp)
            ·rw [if_neg c92] at H
             exact absurd H (by simp)
           ·rw [if_neg c91] at H
            by_cases c129 : x20_2 = 3
            ·rw [if_pos c129] at H
             subst c129
             by_cases c130 : 0 ≤ a0
             ·rw [if_pos c130] at H
              have c130b0 : decide (0 ≤ a0) = true := decide_eq_true c130
              clear c130
              by_cases c131 : a0 = 0
              ·rw [if_pos c131] at H
               subst c131
               replace H := Option.bind_eq_some_iff.mp H
               obtain ⟨t334, A1320, H⟩ := H
               replace H : ((sponge_Constant.f k2 0 (wrap64 (7 - x12_1)) 3).bind fun t335 => ((field_Sub.f 0 t334 t335).bind fun t336 => (sponge_Inverse.l1 k2 0 (wrap64 (7 - x12_1)) x12_1 (wrap64 (3 + 1)) x292000_2 x292001_2 x292002_2 t336))) = some (r1, r2, r3, r4) := H
               have A132 := Aside0.mk A1320
               clear A1320
               replace H := Option.bind_eq_some_iff.mp H
               obtain ⟨t335, A1330, H⟩ := H
               replace H : ((field_Sub.f 0 t334 t335).bind fun t336 => (sponge_Inverse.l1 k2 0 (wrap64 (7 - x12_1)) x12_1 (wrap64 (3 + 1)) x292000_2 x292001_2 x292002_2 t336)) = some (r1, r2, r3, r4) := H
               have A133 := Aside0.mk A1330
               clear A1330
               replace H := Option.bind_eq_some_iff.mp H
               obtain ⟨t336, A1340, H⟩ := H
               replace H : (sponge_Inverse.l1 k2 0 (wrap64 (7 - x12_1)) x12_1 (wrap64 (3 + 1)) x292000_2 x292001_2 x292002_2 t336) = some (r1, r2, r3, r4) := H
               have A134 := Aside0.mk A1340
               clear A1340
               have H' := Aside0.mk H
               clear H
               try go_wp2
               have n0_ := Aside0.mk (blk_drew B291.out)
               have n1_ := Aside0.mk (blk_drew B292.out)
               have n2_ := Aside0.mk (below_drew1 HB.out)
               clear B291
               clear B292
               clear HB
               have B291 := n0_
               have B292 := n1_
               have HB := n2_
               clear n0_ n1_ n2_
               refine start_ (n := 17) (S := fun w' => w'.cell? ⟨g291, 0, none⟩ = some (.int .u64 x292000_2) ∧ w'.cell? ⟨g291, 1, none⟩ = some (.int .u64 x292001_2) ∧ w'.cell? ⟨g291, 2, none⟩ = some (.int .u64 x292002_2) ∧ w'.cell? ⟨g291, 3, none⟩ = some (.int .u64 x292003_2) ∧ w'.cell? ⟨0, 0, none⟩ = some (.int .u64 77)) (ds := [16]) z25_0_ (by kernel_rfl) rfl rfl ⟨bq_ B291 0, bq_ B291 1, bq_ B291 2, bq_ B291 3, ((HRG.out.below HB.out).u0 0 (by decide))⟩ (fun hL => ?_); refine with_tabW sponge_Inverse.tab11 sponge_Inverse.bits11 (fun T_ W_ => ?_)
               generalize wr.drew = w135 at B291 B292 HB hL ⊢
               refine pure_ (i := 0) (N := some 23) (v := ?_) (a' := ?_) z25_1_ rfl rfl (an_ T_) (fun _ _ _ h => h) (Or.inl ⟨by rfl, ?_⟩) ?_ ?_
               rotate_left; · intro w'; go_simp; with_reducible rfl
               rotate_left; · simp only [Act.put, sa_, sb_, sc_, i64_w, i32_w]; rfl
               refine pure_ (i := 1) (N := some 24) (v := ?_) (a' := ?_) z25_2_ rfl rfl (an_ T_) (fun _ _ _ h => h) (Or.inl ⟨by rfl, ?_⟩) ?_ ?_
               rotate_left; · intro w'; go_simp; with_reducible rfl
               rotate_left; · simp only [Act.put, sa_, sb_, sc_, i64_w, i32_w]; rfl
               refine pure_ (i := 2) (N := some 25) (v := ?_) (a' := ?_) z25_3_ rfl rfl (an_ T_) (fun _ _ _ h => h) (Or.inl ⟨by rfl, ?_⟩) ?_ ?_
               rotate_left; · intro w'; go_simp; with_reducible rfl
               rotate_left; · simp only [Act.put, sa_, sb_, sc_, i64_w, i32_w]; rfl
               refine pure_ (i := 3) (N := some 26) (v := ?_) (a' := ?_) z25_4_ rfl rfl (an_ T_) (fun _ _ _ h => h) (Or.inl ⟨by rfl, ?_⟩) ?_ ?_
               rotate_left; · intro w'; go_simp; with_reducible rfl
               rotate_left; · simp only [Act.put, sa_, sb_, sc_, i64_w, i32_w]; rfl
               refine pure_ (i := 4) (N := some 27) (v := ?_) (a' := ?_) z25_5_ rfl rfl (an_ T_) (fun _ _ _ h => h) (Or.inl ⟨by rfl, ?_⟩) ?_ ?_
               rotate_left; · intro w'; go_simp; with_reducible rfl
               rotate_left; · simp only [Act.put, sa_, sb_, sc_, i64_w, i32_w]; rfl
               refine pure_ (i := 6) (N := some 29) (v := ?_) (a' := ?_) z25_6_ rfl rfl (an_ T_) (fun _ _ _ h => h) (Or.inl ⟨by rfl, ?_⟩) ?_ ?_
               rotate_left; · intro w'; go_simp; with_reducible rfl
               rotate_left; · simp only [Act.put, sa_, sb_, sc_, i64_w, i32_w]; rfl
               refine pure_ (i := 7) (N := some 30) (v := ?_) (a' := ?_) z25_7_ rfl rfl (an_ T_) (fun _ _ _ h => h) (Or.inl ⟨by rfl, ?_⟩) ?_ ?_
               rotate_left; · intro w'; go_simp; with_reducible rfl
               rotate_left; · simp only [Act.put, sa_, sb_, sc_, i64_w, i32_w]; rfl
               refine pure_ (i := 10) (N := some 33) (v := ?_) (a' := ?_) z25_8_ rfl rfl (an_ T_) (fun _ _ _ h => h) (Or.inl ⟨by rfl, ?_⟩) ?_ ?_
               rotate_left; · intro w'; go_simp; with_reducible rfl
               rotate_left; · simp only [Act.put, sa_, sb_, sc_, i64_w, i32_w]; rfl
               refine pure_ (i := 11) (N := some 34) (v := ?_) (a' := ?_) z25_9_ rfl rfl (an_ T_) (fun _ _ _ h => h) (Or.inl ⟨by rfl, ?_⟩) ?_ ?_
               rotate_left; · intro w'; go_simp; with_reducible rfl
               rotate_left; · simp only [Act.put, sa_, sb_, sc_, i64_w, i32_w]; rfl
               refine pure_ (i := 12) (N := some 35) (v := ?_) (a' := ?_) z25_10_ rfl rfl (an_ T_) (fun _ _ _ h => h) (Or.inl ⟨by rfl, ?_⟩) ?_ ?_
               rotate_left; · intro w'; go_simp; with_reducible rfl
               rotate_left; · simp only [Act.put, sa_, sb_, sc_, i64_w, i32_w]; rfl
               refine take_ (i := 5) (N := some 28) (v := ?_) (a' := ?_) z25_11_ rfl rfl (tk_ T_ W_) (fun _ _ _ h => h) (Or.inl ⟨by rfl, ?_⟩) hL ?_ ?_
               rotate_left
               ·rintro w' ⟨s0, s1, s2, s3, s4⟩
                go_simp
                with_reducible rfl
               rotate_left
               ·simp only [Act.put, sa_, sb_, sc_, i64_w, i32_w]
                rfl
               refine take_ (i := 8) (N := some 31) (v := ?_) (a' := ?_) z25_12_ rfl rfl (tk_ T_ W_) (fun _ _ _ h => h) (Or.inl ⟨by rfl, ?_⟩) hL ?_ ?_
               rotate_left
               ·rintro w' ⟨s0, s1, s2, s3, s4⟩
                go_simp
                with_reducible rfl
               rotate_left
               ·simp only [Act.put, sa_, sb_, sc_, i64_w, i32_w]
                rfl
               refine one_ (i := 9) (N := some 32) z25_13_ rfl rfl (on_ T_) (by decide) (fun K hK => ?_)
               refine goes_ Tryd.func29 (by kernel_rfl) rfl #[.int .i64 0, .int .u64 x292003_2, .int .u64 77] (by rfl) rfl rfl (by (try simp only [List.map_toArray, List.map_cons, List.map_nil]); first | done | rfl) ?_
               with_reducible refine (field_Pow.calls k2 0 x292003_2 77 t334 _ ?side1 A132.out).mono ?_
               (case side1 => repeat (first | exact (GL.below HRG.out HB.out) | (with_reducible refine GL.alloc ?_ _) | (with_reducible refine GL.drewN ?_ _) | (with_reducible refine GL.drew ?_)))
               rintro e w136 ⟨rfl, hb⟩
               refine ⟨_, rfl, ?_⟩
               have n0_ := Aside0.mk (blk_below (g := g291) (o := .cells #[.int .u64 x292000_2, .int .u64 x292001_2, .int .u64 x292002_2, .int .u64 x292003_2] 23 (0, 0)) (by (with_reducible repeat first | refine blk_drewN ?_ _ | refine blk_drew ?_ | refine blk_alloc ?_ _); exact B291.out) hb)
               have n1_ := Aside0.mk (blk_below (g := g292) (o := .cells #[.int .u64 0, .int .u64 0, .int .u64 0, .int .u64 0] 23 (0, 0)) (by (with_reducible repeat first | refine blk_drewN ?_ _ | refine blk_drew ?_ | refine blk_alloc ?_ _); exact B292.out) hb)
               have n2_ := Aside0.mk (below_step (by repeat (first | (with_reducible first | exact HB.out | apply below_alloc | apply pw_below_drewN | apply below_drew1 | refine below_set ?_ GE291.out | refine below_set ?_ GE292.out) | exact HB.out)) hb)
               clear B291
               clear B292
               clear HB
               have B291 := n0_
               have B292 := n1_
               have HB := n2_
               clear n0_ n1_ n2_
               (try clear hb)
               (try clear hb2)
               (try clear hk)
               (try clear hi)
               refine hK.out _ _ ⟨bq_ B291 0, bq_ B291 1, bq_ B291 2, bq_ B291 3, ((HRG.out.below HB.out).u0 0 (by decide))⟩ (fun hL => ?_)
               clear hK K
               refine norm_ (a' := ?_) ?_ ?_
               rotate_left
               ·show Act.put _ (some 32) _ = _
                simp only [Act.put, sa_, sb_, sc_, i64_w, i32_w]
                rfl
               refine one_ (i := 13) (N := some 36) z25_14_ rfl rfl (on_ T_) (by decide) (fun K hK => ?_)
               refine goes_ Tryd.func12 (by kernel_rfl) rfl #[.int .i64 0, .int .i64 (wrap64 (7 - x12_1)), .int .i64 3] (by rfl) rfl rfl (by (try simp only [List.map_toArray, List.map_cons, List.map_nil]); first | done | rfl) ?_
               with_reducible refine (sponge_Constant.calls k2 0 (wrap64 (7 - x12_1)) 3 t335 _ ?side1 A133.out).mono ?_
               (case side1 => repeat (first | exact (GL.below HRG.out HB.out) | (with_reducible refine GL.alloc ?_ _) | (with_reducible refine GL.drewN ?_ _) | (with_reducible refine GL.drew ?_)))
               rintro e w137 ⟨rfl, hb⟩
               refine ⟨_, rfl, ?_⟩
               have n0_ := Aside0.mk (blk_below (g := g291) (o := .cells #[.int .u64 x292000_2, .int .u64 x292001_2, .int .u64 x292002_2, .int .u64 x292003_2] 23 (0, 0)) (by (with_reducible repeat first | refine blk_drewN ?_ _ | refine blk_drew ?_ | refine blk_alloc ?_ _); exact B291.out) hb)
               have n1_ := Aside0.mk (blk_below (g := g292) (o := .cells #[.int .u64 0, .int .u64 0, .int .u64 0, .int .u64 0] 23 (0, 0)) (by (with_reducible repeat first | refine blk_drewN ?_ _ | refine blk_drew ?_ | refine blk_alloc ?_ _); exact B292.out) hb)
               have n2_ := Aside0.mk (below_step (by repeat (first | (with_reducible first | exact HB.out | apply below_alloc | apply pw_below_drewN | apply below_drew1 | refine below_set ?_ GE291.out | refine below_set ?_ GE292.out) | exact HB.out)) hb)
               clear B291
               clear B292
               clear HB
               have B291 := n0_
               have B292 := n1_
               have HB := n2_
               clear n0_ n1_ n2_
               (try clear hb)
               (try clear hb2)
               (try clear hk)
               (try clear hi)
               refine hK.out _ _ ⟨bq_ B291 0, bq_ B291 1, bq_ B291 2, bq_ B291 3, ((HRG.out.below HB.out).u0 0 (by decide))⟩ (fun hL => ?_)
               clear hK K
               refine norm_ (a' := ?_) ?_ ?_
               rotate_left
               ·show Act.put _ (some 36) _ = _
                simp only [Act.put, sa_, sb_, sc_, i64_w, i32_w]
                rfl
               refine one_ (i := 14) (N := some 37) z25_15_ rfl rfl (on_ T_) (by decide) (fun K hK => ?_)
               refine goes_ Tryd.func45 (by kernel_rfl) rfl #[.int .i64 0, .int .u64 t334, .int .u64 t335] (by rfl) rfl rfl (by (try simp only [List.map_toArray, List.map_cons, List.map_nil]); first | done | rfl) ?_
               with_reducible refine (field_Sub.calls 0 t334 t335 t336 _ ?side1 A134.out).mono ?_
               (case side1 => repeat (first | exact (GL.below HRG.out HB.out) | (with_reducible refine GL.alloc ?_ _) | (with_reducible refine GL.drewN ?_ _) | (with_reducible refine GL.drew ?_)))
               rintro e w138 ⟨rfl, hb⟩
               refine ⟨_, rfl, ?_⟩
               have n0_ := Aside0.mk (blk_below (g := g291) (o := .cells #[.int .u64 x292000_2, .int .u64 x292001_2, .int .u64 x292002_2, .int .u64 x292003_2] 23 (0, 0)) (by (with_reducible repeat first | refine blk_drewN ?_ _ | refine blk_drew ?_ | refine blk_alloc ?_ _); exact B291.out) hb)
               have n1_ := Aside0.mk (blk_below (g := g292) (o := .cells #[.int .u64 0, .int .u64 0, .int .u64 0, .int .u64 0] 23 (0, 0)) (by (with_reducible repeat first | refine blk_drewN ?_ _ | refine blk_drew ?_ | refine blk_alloc ?_ _); exact B292.out) hb)
               have n2_ := Aside0.mk (below_step (by repeat (first | (with_reducible first | exact HB.out | apply below_alloc | apply pw_below_drewN | apply below_drew1 | refine below_set ?_ GE291.out | refine below_set ?_ GE292.out) | exact HB.out)) hb)
               clear B291
               clear B292
               clear HB
               have B291 := n0_
               have B292 := n1_
               have HB := n2_
               clear n0_ n1_ n2_
               (try clear hb)
               (try clear hb2)
               (try clear hk)
               (try clear hi)
               refine hK.out _ _ ⟨bq_ B291 0, bq_ B291 1, bq_ B291 2, bq_ B291 3, ((HRG.out.below HB.out).u0 0 (by decide))⟩ (fun hL => ?_)
               clear hK K
               refine norm_ (a' := ?_) ?_ ?_
               rotate_left
               ·show Act.put _ (some 37) _ = _
                simp only [Act.put, sa_, sb_, sc_, i64_w, i32_w]
                rfl
               refine pure_ (i := 15) (N := some 38) (v := ?_) (a' := ?_) z25_16_ rfl rfl (an_ T_) (fun _ _ _ h => h) (Or.inl ⟨by rfl, ?_⟩) ?_ ?_
               rotate_left; · intro w'; go_simp; with_reducible rfl
               rotate_left; · simp only [Act.put, sa_, sb_, sc_, i64_w, i32_w]; rfl
               refine last_ (i := 16) (N := none) z25_17_ rfl rfl (on_ T_) (by decide) (fun K hK => ?_)
               have hs139 : w138.cell? ⟨g291, 3, none⟩ = some (.int .u64 x292003_2) := bq_ B291 3
               have hfs139 := blk_frozen B291.out 3
               have hns139_1 := NB292_291.out
               have hms139_1 := NB291_292.out
               refine skip_ (w1 := ?_) (by rfl) rfl ?_ ?_
               rotate_left
               ·go_simp
                rfl
               refine hK.out _ _ ?_
               clear hK K
               refine done_ (done_of T_.out (by kernel_rfl)) ?_
               try go_wp2
               go_roundg k2
               case measure => have := HK1.out; have := HK2.out; omega
               case rel => exact ⟨(wrap64 (3 + 1)), (x292000_2), (x292001_2), (x292002_2), (t336), (by first | rfl | (simp; done) | (simp [*]; done) | (simp; rfl) | (simp; decide +kernel)), H', ⟨by have := HK1.out; have := HK2.out; omega⟩, ⟨by (with_reducible repeat first | refine blk_drewN ?_ _ | refine blk_drew ?_ | refine blk_alloc ?_ _); refine blk_put (cs := #[.int .u64 x292000_2, .int .u64 x292001_2, .int .u64 x292002_2, .int .u64 x292003_2]) ?_ 3 _ rfl; (with_reducible repeat first | refine blk_drewN ?_ _ | refine blk_drew ?_ | refine blk_alloc ?_ _); exact B291.out⟩, ⟨by (with_reducible repeat first | refine blk_drewN ?_ _ | refine blk_drew ?_ | refine blk_alloc ?_ _); refine blk_far ?_ NB292_291.out _; (with_reducible repeat first | refine blk_drewN ?_ _ | refine blk_drew ?_ | refine blk_alloc ?_ _); exact B292.out⟩, ⟨by repeat (first | (with_reducible first | exact HB.out | apply below_alloc | apply pw_below_drewN | apply below_drew1 | refine below_set ?_ GE291.out | refine below_set ?_ GE292.out) | exact HB.out)⟩⟩
              ·rw [if_neg c131] at H
               by_cases c140 : a0 = 1
               ·rw [if_pos c140] at H
                subst c140
                replace H := Option.bind_eq_some_iff.mp H
                obtain ⟨t337, A1410, H⟩ := H
                replace H : ((sponge_Constant.f k2 1 (wrap64 (7 - x12_1)) 3).bind fun t338 => ((field_Sub.f 1 t337 t338).bind fun t339 => (sponge_Inverse.l1 k2 1 (wrap64 (7 - x12_1)) x12_1 (wrap64 (3 + 1)) x292000_2 x292001_2 x292002_2 t339))) = some (r1, r2, r3, r4) := H
                have A141 := Aside0.mk A1410
                clear A1410
                replace H := Option.bind_eq_some_iff.mp H
                obtain ⟨t338, A1420, H⟩ := H
                replace H : ((field_Sub.f 1 t337 t338).bind fun t339 => (sponge_Inverse.l1 k2 1 (wrap64 (7 - x12_1)) x12_1 (wrap64 (3 + 1)) x292000_2 x292001_2 x292002_2 t339)) = some (r1, r2, r3, r4) := H
                have A142 := Aside0.mk A1420
                clear A1420
                replace H := Option.bind_eq_some_iff.mp H
                obtain ⟨t339, A1430, H⟩ := H
                replace H : (sponge_Inverse.l1 k2 1 (wrap64 (7 - x12_1)) x12_1 (wrap64 (3 + 1)) x292000_2 x292001_2 x292002_2 t339) = some (r1, r2, r3, r4) := H
                have A143 := Aside0.mk A1430
                clear A1430
                have H' := Aside0.mk H
                clear H
                try go_wp2
                have n0_ := Aside0.mk (blk_drew B291.out)
                have n1_ := Aside0.mk (blk_drew B292.out)
                have n2_ := Aside0.mk (below_drew1 HB.out)
                clear B291
                clear B292
                clear HB
                have B291 := n0_
                have B292 := n1_
                have HB := n2_
                clear n0_ n1_ n2_
                refine start_ (n := 17) (S := fun w' => w'.cell? ⟨g291, 0, none⟩ = some (.int .u64 x292000_2) ∧ w'.cell? ⟨g291, 1, none⟩ = some (.int .u64 x292001_2) ∧ w'.cell? ⟨g291, 2, none⟩ = some (.int .u64 x292002_2) ∧ w'.cell? ⟨g291, 3, none⟩ = some (.int .u64 x292003_2) ∧ w'.cell? ⟨0, 1, none⟩ = some (.int .u64 171)) (ds := [16]) z25_0_ (by kernel_rfl) rfl rfl ⟨bq_ B291 0, bq_ B291 1, bq_ B291 2, bq_ B291 3, ((HRG.out.below HB.out).u0 1 (by decide))⟩ (fun hL => ?_); refine with_tabW sponge_Inverse.tab11 sponge_Inverse.bits11 (fun T_ W_ => ?_)
                generalize wr.drew = w144 at B291 B292 HB hL ⊢
                refine pure_ (i := 0) (N := some 23) (v := ?_) (a' := ?_) z25_1_ rfl rfl (an_ T_) (fun _ _ _ h => h) (Or.inl ⟨by rfl, ?_⟩) ?_ ?_
                rotate_left; · intro w'; go_simp; with_reducible rfl
                rotate_left; · simp only [Act.put, sa_, sb_, sc_, i64_w, i32_w]; rfl
                refine pure_ (i := 1) (N := some 24) (v := ?_) (a' := ?_) z25_2_ rfl rfl (an_ T_) (fun _ _ _ h => h) (Or.inl ⟨by rfl, ?_⟩) ?_ ?_
                rotate_left; · intro w'; go_simp; with_reducible rfl
                rotate_left; · simp only [Act.put, sa_, sb_, sc_, i64_w, i32_w]; rfl
                refine pure_ (i := 2) (N := some 25) (v := ?_) (a' := ?_) z25_3_ rfl rfl (an_ T_) (fun _ _ _ h => h) (Or.inl ⟨by rfl, ?_⟩) ?_ ?_
                rotate_left; · intro w'; go_simp; with_reducible rfl
                rotate_left; · simp only [Act.put, sa_, sb_, sc_, i64_w, i32_w]; rfl
                refine pure_ (i := 3) (N := some 26) (v := ?_) (a' := ?_) z25_4_ rfl rfl (an_ T_) (fun _ _ _ h => h) (Or.inl ⟨by rfl, ?_⟩) ?_ ?_
                rotate_left; · intro w'; go_simp; with_reducible rfl
                rotate_left; · simp only [Act.put, sa_, sb_, sc_, i64_w, i32_w]; rfl
                refine pure_ (i := 4) (N := some 27) (v := ?_) (a' := ?_) z25_5_ rfl rfl (an_ T_) (fun _ _ _ h => h) (Or.inl ⟨by rfl, ?_⟩) ?_ ?_
                rotate_left; · intro w'; go_simp; with_reducible rfl
                rotate_left; · simp only [Act.put, sa_, sb_, sc_, i64_w, i32_w]; rfl
                refine pure_ (i := 6) (N := some 29) (v := ?_) (a' := ?_) z25_6_ rfl rfl (an_ T_) (fun _ _ _ h => h) (Or.inl ⟨by rfl, ?_⟩) ?_ ?_
                rotate_left; · intro w'; go_simp; with_reducible rfl
                rotate_left; · simp only [Act.put, sa_, sb_, sc_, i64_w, i32_w]; rfl
                refine pure_ (i := 7) (N := some 30) (v := ?_) (a' := ?_) z25_7_ rfl rfl (an_ T_) (fun _ _ _ h => h) (Or.inl ⟨by rfl, ?_⟩) ?_ ?_
                rotate_left; · intro w'; go_simp; with_reducible rfl
                rotate_left; · simp only [Act.put, sa_, sb_, sc_, i64_w, i32_w]; rfl
                refine pure_ (i := 10) (N := some 33) (v := ?_) (a' := ?_) z25_8_ rfl rfl (an_ T_) (fun _ _ _ h => h) (Or.inl ⟨by rfl, ?_⟩) ?_ ?_
                rotate_left; · intro w'; go_simp; with_reducible rfl
                rotate_left; · simp only [Act.put, sa_, sb_, sc_, i64_w, i32_w]; rfl
                refine pure_ (i := 11) (N := some 34) (v := ?_) (a' := ?_) z25_9_ rfl rfl (an_ T_) (fun _ _ _ h => h) (Or.inl ⟨by rfl, ?_⟩) ?_ ?_
                rotate_left; · intro w'; go_simp; with_reducible rfl
                rotate_left; · simp only [Act.put, sa_, sb_, sc_, i64_w, i32_w]; rfl
                refine pure_ (i := 12) (N := some 35) (v := ?_) (a' := ?_) z25_10_ rfl rfl (an_ T_) (fun _ _ _ h => h) (Or.inl ⟨by rfl, ?_⟩) ?_ ?_
                rotate_left; · intro w'; go_simp; with_reducible rfl
                rotate_left; · simp only [Act.put, sa_, sb_, sc_, i64_w, i32_w]; rfl
                refine take_ (i := 5) (N := some 28) (v := ?_) (a' := ?_) z25_11_ rfl rfl (tk_ T_ W_) (fun _ _ _ h => h) (Or.inl ⟨by rfl, ?_⟩) hL ?_ ?_
                rotate_left
                ·rintro w' ⟨s0, s1, s2, s3, s4⟩
                 go_simp
                 with_reducible rfl
                rotate_left
                ·simp only [Act.put, sa_, sb_, sc_, i64_w, i32_w]
                 rfl
                refine take_ (i := 8) (N := some 31) (v := ?_) (a' := ?_) z25_12_ rfl rfl (tk_ T_ W_) (fun _ _ _ h => h) (Or.inl ⟨by rfl, ?_⟩) hL ?_ ?_
                rotate_left
                ·rintro w' ⟨s0, s1, s2, s3, s4⟩
                 go_simp
                 with_reducible rfl
                rotate_left
                ·simp only [Act.put, sa_, sb_, sc_, i64_w, i32_w]
                 rfl
                refine one_ (i := 9) (N := some 32) z25_13_ rfl rfl (on_ T_) (by decide) (fun K hK => ?_)
                refine goes_ Tryd.func29 (by kernel_rfl) rfl #[.int .i64 1, .int .u64 x292003_2, .int .u64 171] (by rfl) rfl rfl (by (try simp only [List.map_toArray, List.map_cons, List.map_nil]); first | done | rfl) ?_
                with_reducible refine (field_Pow.calls k2 1 x292003_2 171 t337 _ ?side1 A141.out).mono ?_
                (case side1 => repeat (first | exact (GL.below HRG.out HB.out) | (with_reducible refine GL.alloc ?_ _) | (with_reducible refine GL.drewN ?_ _) | (with_reducible refine GL.drew ?_)))
                rintro e w145 ⟨rfl, hb⟩
                refine ⟨_, rfl, ?_⟩
                have n0_ := Aside0.mk (blk_below (g := g291) (o := .cells #[.int .u64 x292000_2, .int .u64 x292001_2, .int .u64 x292002_2, .int .u64 x292003_2] 23 (0, 0)) (by (with_reducible repeat first | refine blk_drewN ?_ _ | refine blk_drew ?_ | refine blk_alloc ?_ _); exact B291.out) hb)
                have n1_ := Aside0.mk (blk_below (g := g292) (o := .cells #[.int .u64 0, .int .u64 0, .int .u64 0, .int .u64 0] 23 (0, 0)) (by (with_reducible repeat first | refine blk_drewN ?_ _ | refine blk_drew ?_ | refine blk_alloc ?_ _); exact B292.out) hb)
                have n2_ := Aside0.mk (below_step (by repeat (first | (with_reducible first | exact HB.out | apply below_alloc | apply pw_below_drewN | apply below_drew1 | refine below_set ?_ GE291.out | refine below_set ?_ GE292.out) | exact HB.out)) hb)
                clear B291
                clear B292
                clear HB
                have B291 := n0_
                have B292 := n1_
                have HB := n2_
                clear n0_ n1_ n2_
                (try clear hb)
                (try clear hb2)
                (try clear hk)
                (try clear hi)
                refine hK.out _ _ ⟨bq_ B291 0, bq_ B291 1, bq_ B291 2, bq_ B291 3, ((HRG.out.below HB.out).u0 1 (by decide))⟩ (fun hL => ?_)
                clear hK K
                refine norm_ (a' := ?_) ?_ ?_
                rotate_left
                ·show Act.put _ (some 32) _ = _
                 simp only [Act.put, sa_, sb_, sc_, i64_w, i32_w]
                 rfl
                refine one_ (i := 13) (N := some 36) z25_14_ rfl rfl (on_ T_) (by decide) (fun K hK => ?_)
                refine goes_ Tryd.func12 (by kernel_rfl) rfl #[.int .i64 1, .int .i64 (wrap64 (7 - x12_1)), .int .i64 3] (by rfl) rfl rfl (by (try simp only [List.map_toArray, List.map_cons, List.map_nil]); first | done | rfl) ?_
                with_reducible refine (sponge_Constant.calls k2 1 (wrap64 (7 - x12_1)) 3 t338 _ ?side1 A142.out).mono ?_
                (case side1 => repeat (first | exact (GL.below HRG.out HB.out) | (with_reducible refine GL.alloc ?_ _) | (with_reducible refine GL.drewN ?_ _) | (with_reducible refine GL.drew ?_)))
                rintro e w146 ⟨rfl, hb⟩
                refine ⟨_, rfl, ?_⟩
                have n0_ := Aside0.mk (blk_below (g := g291) (o := .cells #[.int .u64 x292000_2, .int .u64 x292001_2, .int .u64 x292002_2, .int .u64 x292003_2] 23 (0, 0)) (by (with_reducible repeat first | refine blk_drewN ?_ _ | refine blk_drew ?_ | refine blk_alloc ?_ _); exact B291.out) hb)
                have n1_ := Aside0.mk (blk_below (g := g292) (o := .cells #[.int .u64 0, .int .u64 0, .int .u64 0, .int .u64 0] 23 (0, 0)) (by (with_reducible repeat first | refine blk_drewN ?_ _ | refine blk_drew ?_ | refine blk_alloc ?_ _); exact B292.out) hb)
                have n2_ := Aside0.mk (below_step (by repeat (first | (with_reducible first | exact HB.out | apply below_alloc | apply pw_below_drewN | apply below_drew1 | refine below_set ?_ GE291.out | refine below_set ?_ GE292.out) | exact HB.out)) hb)
                clear B291
                clear B292
                clear HB
                have B291 := n0_
                have B292 := n1_
                have HB := n2_
                clear n0_ n1_ n2_
                (try clear hb)
                (try clear hb2)
                (try clear hk)
                (try clear hi)
                refine hK.out _ _ ⟨bq_ B291 0, bq_ B291 1, bq_ B291 2, bq_ B291 3, ((HRG.out.below HB.out).u0 1 (by decide))⟩ (fun hL => ?_)
                clear hK K
                refine norm_ (a' := ?_) ?_ ?_
                rotate_left
                ·show Act.put _ (some 36) _ = _
                 simp only [Act.put, sa_, sb_, sc_, i64_w, i32_w]
                 rfl
                refine one_ (i := 14) (N := some 37) z25_15_ rfl rfl (on_ T_) (by decide) (fun K hK => ?_)
                refine goes_ Tryd.func45 (by kernel_rfl) rfl #[.int .i64 1, .int .u64 t337, .int .u64 t338] (by rfl) rfl rfl (by (try simp only [List.map_toArray, List.map_cons, List.map_nil]); first | done | rfl) ?_
                with_reducible refine (field_Sub.calls 1 t337 t338 t339 _ ?side1 A143.out).mono ?_
                (case side1 => repeat (first | exact (GL.below HRG.out HB.out) | (with_reducible refine GL.alloc ?_ _) | (with_reducible refine GL.drewN ?_ _) | (with_reducible refine GL.drew ?_)))
                rintro e w147 ⟨rfl, hb⟩
                refine ⟨_, rfl, ?_⟩
                have n0_ := Aside0.mk (blk_below (g := g291) (o := .cells #[.int .u64 x292000_2, .int .u64 x292001_2, .int .u64 x292002_2, .int .u64 x292003_2] 23 (0, 0)) (by (with_reducible repeat first | refine blk_drewN ?_ _ | refine blk_drew ?_ | refine blk_alloc ?_ _); exact B291.out) hb)
                have n1_ := Aside0.mk (blk_below (g := g292) (o := .cells #[.int .u64 0, .int .u64 0, .int .u64 0, .int .u64 0] 23 (0, 0)) (by (with_reducible repeat first | refine blk_drewN ?_ _ | refine blk_drew ?_ | refine blk_alloc ?_ _); exact B292.out) hb)
                have n2_ := Aside0.mk (below_step (by repeat (first | (with_reducible first | exact HB.out | apply below_alloc | apply pw_below_drewN | apply below_drew1 | refine below_set ?_ GE291.out | refine below_set ?_ GE292.out) | exact HB.out)) hb)
                clear B291
                clear B292
                clear HB
                have B291 := n0_
                have B292 := n1_
                have HB := n2_
                clear n0_ n1_ n2_
                (try clear hb)
                (try clear hb2)
                (try clear hk)
                (try clear hi)
                refine hK.out _ _ ⟨bq_ B291 0, bq_ B291 1, bq_ B291 2, bq_ B291 3, ((HRG.out.below HB.out).u0 1 (by decide))⟩ (fun hL => ?_)
                clear hK K
                refine norm_ (a' := ?_) ?_ ?_
                rotate_left
                ·show Act.put _ (some 37) _ = _
                 simp only [Act.put, sa_, sb_, sc_, i64_w, i32_w]
                 rfl
                refine pure_ (i := 15) (N := some 38) (v := ?_) (a' := ?_) z25_16_ rfl rfl (an_ T_) (fun _ _ _ h => h) (Or.inl ⟨by rfl, ?_⟩) ?_ ?_
                rotate_left; · intro w'; go_simp; with_reducible rfl
                rotate_left; · simp only [Act.put, sa_, sb_, sc_, i64_w, i32_w]; rfl
                refine last_ (i := 16) (N := none) z25_17_ rfl rfl (on_ T_) (by decide) (fun K hK => ?_)
                have hs148 : w147.cell? ⟨g291, 3, none⟩ = some (.int .u64 x292003_2) := bq_ B291 3
                have hfs148 := blk_frozen B291.out 3
                have hns148_1 := NB292_291.out
                have hms148_1 := NB291_292.out
                refine skip_ (w1 := ?_) (by rfl) rfl ?_ ?_
                rotate_left
                ·go_simp
                 rfl
                refine hK.out _ _ ?_
                clear hK K
                refine done_ (done_of T_.out (by kernel_rfl)) ?_
                try go_wp2
                go_roundg k2
                case measure => have := HK1.out; have := HK2.out; omega
                case rel => exact ⟨(wrap64 (3 + 1)), (x292000_2), (x292001_2), (x292002_2), (t339), (by first | rfl | (simp; done) | (simp [*]; done) | (simp; rfl) | (simp; decide +kernel)), H', ⟨by have := HK1.out; have := HK2.out; omega⟩, ⟨by (with_reducible repeat first | refine blk_drewN ?_ _ | refine blk_drew ?_ | refine blk_alloc ?_ _); refine blk_put (cs := #[.int .u64 x292000_2, .int .u64 x292001_2, .int .u64 x292002_2, .int .u64 x292003_2]) ?_ 3 _ rfl; (with_reducible repeat first | refine blk_drewN ?_ _ | refine blk_drew ?_ | refine blk_alloc ?_ _); exact B291.out⟩, ⟨by (with_reducible repeat first | refine blk_drewN ?_ _ | refine blk_drew ?_ | refine blk_alloc ?_ _); refine blk_far ?_ NB292_291.out _; (with_reducible repeat first | refine blk_drewN ?_ _ | refine blk_drew ?_ | refine blk_alloc ?_ _); exact B292.out⟩, ⟨by repeat (first | (with_reducible first | exact HB.out | apply below_alloc | apply pw_below_drewN | apply below_drew1 | refine below_set ?_ GE291.out | refine below_set ?_ GE292.out) | exact HB.out)⟩⟩
               ·rw [if_neg c140] at H
                by_cases c149 : a0 = 2
                ·rw [if_pos c149] at H
                 subst c149
                 replace H := Option.bind_eq_some_iff.mp H
                 obtain ⟨t340, A1500, H⟩ := H
                 replace H : ((sponge_Constant.f k2 2 (wrap64 (7 - x12_1)) 3).bind fun t341 => ((field_Sub.f 2 t340 t341).bind fun t342 => (sponge_Inverse.l1 k2 2 (wrap64 (7 - x12_1)) x12_1 (wrap64 (3 + 1)) x292000_2 x292001_2 x292002_2 t342))) = some (r1, r2, r3, r4) := H
                 have A150 := Aside0.mk A1500
                 clear A1500
                 replace H := Option.bind_eq_some_iff.mp H
                 obtain ⟨t341, A1510, H⟩ := H
                 replace H : ((field_Sub.f 2 t340 t341).bind fun t342 => (sponge_Inverse.l1 k2 2 (wrap64 (7 - x12_1)) x12_1 (wrap64 (3 + 1)) x292000_2 x292001_2 x292002_2 t342)) = some (r1, r2, r3, r4) := H
                 have A151 := Aside0.mk A1510
                 clear A1510
                 replace H := Option.bind_eq_some_iff.mp H
                 obtain ⟨t342, A1520, H⟩ := H
                 replace H : (sponge_Inverse.l1 k2 2 (wrap64 (7 - x12_1)) x12_1 (wrap64 (3 + 1)) x292000_2 x292001_2 x292002_2 t342) = some (r1, r2, r3, r4) := H
                 have A152 := Aside0.mk A1520
                 clear A1520
                 have H' := Aside0.mk H
                 clear H
                 try go_wp2
                 have n0_ := Aside0.mk (blk_drew B291.out)
                 have n1_ := Aside0.mk (blk_drew B292.out)
                 have n2_ := Aside0.mk (below_drew1 HB.out)
                 clear B291
                 clear B292
                 clear HB
                 have B291 := n0_
                 have B292 := n1_
                 have HB := n2_
                 clear n0_ n1_ n2_
                 refine start_ (n := 17) (S := fun w' => w'.cell? ⟨g291, 0, none⟩ = some (.int .u64 x292000_2) ∧ w'.cell? ⟨g291, 1, none⟩ = some (.int .u64 x292001_2) ∧ w'.cell? ⟨g291, 2, none⟩ = some (.int .u64 x292002_2) ∧ w'.cell? ⟨g291, 3, none⟩ = some (.int .u64 x292003_2) ∧ w'.cell? ⟨0, 2, none⟩ = some (.int .u64 7373)) (ds := [16]) z25_0_ (by kernel_rfl) rfl rfl ⟨bq_ B291 0, bq_ B291 1, bq_ B291 2, bq_ B291 3, ((HRG.out.below HB.out).u0 2 (by decide))⟩ (fun hL => ?_); refine with_tabW sponge_Inverse.tab11 sponge_Inverse.bits11 (fun T_ W_ => ?_)
                 generalize wr.drew = w153 at B291 B292 HB hL ⊢
                 refine pure_ (i := 0) (N := some 23) (v := ?_) (a' := ?_) z25_1_ rfl rfl (an_ T_) (fun _ _ _ h => h) (Or.inl ⟨by rfl, ?_⟩) ?_ ?_
                 rotate_left; · intro w'; go_simp; with_reducible rfl
                 rotate_left; · simp only [Act.put, sa_, sb_, sc_, i64_w, i32_w]; rfl
                 refine pure_ (i := 1) (N := some 24) (v := ?_) (a' := ?_) z25_2_ rfl rfl (an_ T_) (fun _ _ _ h => h) (Or.inl ⟨by rfl, ?_⟩) ?_ ?_
                 rotate_left; · intro w'; go_simp; with_reducible rfl
                 rotate_left; · simp only [Act.put, sa_, sb_, sc_, i64_w, i32_w]; rfl
                 refine pure_ (i := 2) (N := some 25) (v := ?_) (a' := ?_) z25_3_ rfl rfl (an_ T_) (fun _ _ _ h => h) (Or.inl ⟨by rfl, ?_⟩) ?_ ?_
                 rotate_left; · intro w'; go_simp; with_reducible rfl
                 rotate_left; · simp only [Act.put, sa_, sb_, sc_, i64_w, i32_w]; rfl
                 refine pure_ (i := 3) (N := some 26) (v := ?_) (a' := ?_) z25_4_ rfl rfl (an_ T_) (fun _ _ _ h => h) (Or.inl ⟨by rfl, ?_⟩) ?_ ?_
                 rotate_left; · intro w'; go_simp; with_reducible rfl
                 rotate_left; · simp only [Act.put, sa_, sb_, sc_, i64_w, i32_w]; rfl
                 refine pure_ (i := 4) (N := some 27) (v := ?_) (a' := ?_) z25_5_ rfl rfl (an_ T_) (fun _ _ _ h => h) (Or.inl ⟨by rfl, ?_⟩) ?_ ?_
                 rotate_left; · intro w'; go_simp; with_reducible rfl
                 rotate_left; · simp only [Act.put, sa_, sb_, sc_, i64_w, i32_w]; rfl
                 refine pure_ (i := 6) (N := some 29) (v := ?_) (a' := ?_) z25_6_ rfl rfl (an_ T_) (fun _ _ _ h => h) (Or.inl ⟨by rfl, ?_⟩) ?_ ?_
                 rotate_left; · intro w'; go_simp; with_reducible rfl
                 rotate_left; · simp only [Act.put, sa_, sb_, sc_, i64_w, i32_w]; rfl
                 refine pure_ (i := 7) (N := some 30) (v := ?_) (a' := ?_) z25_7_ rfl rfl (an_ T_) (fun _ _ _ h => h) (Or.inl ⟨by rfl, ?_⟩) ?_ ?_
                 rotate_left; · intro w'; go_simp; with_reducible rfl
                 rotate_left; · simp only [Act.put, sa_, sb_, sc_, i64_w, i32_w]; rfl
                 refine pure_ (i := 10) (N := some 33) (v := ?_) (a' := ?_) z25_8_ rfl rfl (an_ T_) (fun _ _ _ h => h) (Or.inl ⟨by rfl, ?_⟩) ?_ ?_
                 rotate_left; · intro w'; go_simp; with_reducible rfl
                 rotate_left; · simp only [Act.put, sa_, sb_, sc_, i64_w, i32_w]; rfl
                 refine pure_ (i := 11) (N := some 34) (v := ?_) (a' := ?_) z25_9_ rfl rfl (an_ T_) (fun _ _ _ h => h) (Or.inl ⟨by rfl, ?_⟩) ?_ ?_
                 rotate_left; · intro w'; go_simp; with_reducible rfl
                 rotate_left; · simp only [Act.put, sa_, sb_, sc_, i64_w, i32_w]; rfl
                 refine pure_ (i := 12) (N := some 35) (v := ?_) (a' := ?_) z25_10_ rfl rfl (an_ T_) (fun _ _ _ h => h) (Or.inl ⟨by rfl, ?_⟩) ?_ ?_
                 rotate_left; · intro w'; go_simp; with_reducible rfl
                 rotate_left; · simp only [Act.put, sa_, sb_, sc_, i64_w, i32_w]; rfl
                 refine take_ (i := 5) (N := some 28) (v := ?_) (a' := ?_) z25_11_ rfl rfl (tk_ T_ W_) (fun _ _ _ h => h) (Or.inl ⟨by rfl, ?_⟩) hL ?_ ?_
                 rotate_left
                 ·rintro w' ⟨s0, s1, s2, s3, s4⟩
                  go_simp
                  with_reducible rfl
                 rotate_left
                 ·simp only [Act.put, sa_, sb_, sc_, i64_w, i32_w]
                  rfl
                 refine take_ (i := 8) (N := some 31) (v := ?_) (a' := ?_) z25_12_ rfl rfl (tk_ T_ W_) (fun _ _ _ h => h) (Or.inl ⟨by rfl, ?_⟩) hL ?_ ?_
                 rotate_left
                 ·rintro w' ⟨s0, s1, s2, s3, s4⟩
                  go_simp
                  with_reducible rfl
                 rotate_left
                 ·simp only [Act.put, sa_, sb_, sc_, i64_w, i32_w]
                  rfl
                 refine one_ (i := 9) (N := some 32) z25_13_ rfl rfl (on_ T_) (by decide) (fun K hK => ?_)
                 refine goes_ Tryd.func29 (by kernel_rfl) rfl #[.int .i64 2, .int .u64 x292003_2, .int .u64 7373] (by rfl) rfl rfl (by (try simp only [List.map_toArray, List.map_cons, List.map_nil]); first | done | rfl) ?_
                 with_reducible refine (field_Pow.calls k2 2 x292003_2 7373 t340 _ ?side1 A150.out).mono ?_
                 (case side1 => repeat (first | exact (GL.below HRG.out HB.out) | (with_reducible refine GL.alloc ?_ _) | (with_reducible refine GL.drewN ?_ _) | (with_reducible refine GL.drew ?_)))
                 rintro e w154 ⟨rfl, hb⟩
                 refine ⟨_, rfl, ?_⟩
                 have n0_ := Aside0.mk (blk_below (g := g291) (o := .cells #[.int .u64 x292000_2, .int .u64 x292001_2, .int .u64 x292002_2, .int .u64 x292003_2] 23 (0, 0)) (by (with_reducible repeat first | refine blk_drewN ?_ _ | refine blk_drew ?_ | refine blk_alloc ?_ _); exact B291.out) hb)
                 have n1_ := Aside0.mk (blk_below (g := g292) (o := .cells #[.int .u64 0, .int .u64 0, .int .u64 0, .int .u64 0] 23 (0, 0)) (by (with_reducible repeat first | refine blk_drewN ?_ _ | refine blk_drew ?_ | refine blk_alloc ?_ _); exact B292.out) hb)
                 have n2_ := Aside0.mk (below_step (by repeat (first | (with_reducible first | exact HB.out | apply below_alloc | apply pw_below_drewN | apply below_drew1 | refine below_set ?_ GE291.out | refine below_set ?_ GE292.out) | exact HB.out)) hb)
                 clear B291
                 clear B292
                 clear HB
                 have B291 := n0_
                 have B292 := n1_
                 have HB := n2_
                 clear n0_ n1_ n2_
                 (try clear hb)
                 (try clear hb2)
                 (try clear hk)
                 (try clear hi)
                 refine hK.out _ _ ⟨bq_ B291 0, bq_ B291 1, bq_ B291 2, bq_ B291 3, ((HRG.out.below HB.out).u0 2 (by decide))⟩ (fun hL => ?_)
                 clear hK K
                 refine norm_ (a' := ?_) ?_ ?_
                 rotate_left
                 ·show Act.put _ (some 32) _ = _
                  simp only [Act.put, sa_, sb_, sc_, i64_w, i32_w]
                  rfl
                 refine one_ (i := 13) (N := some 36) z25_14_ rfl rfl (on_ T_) (by decide) (fun K hK => ?_)
                 refine goes_ Tryd.func12 (by kernel_rfl) rfl #[.int .i64 2, .int .i64 (wrap64 (7 - x12_1)), .int .i64 3] (by rfl) rfl rfl (by (try simp only [List.map_toArray, List.map_cons, List.map_nil]); first | done | rfl) ?_
                 with_reducible refine (sponge_Constant.calls k2 2 (wrap64 (7 - x12_1)) 3 t341 _ ?side1 A151.out).mono ?_
                 (case side1 => repeat (first | exact (GL.below HRG.out HB.out) | (with_reducible refine GL.alloc ?_ _) | (with_reducible refine GL.drewN ?_ _) | (with_reducible refine GL.drew ?_)))
                 rintro e w155 ⟨rfl, hb⟩
                 refine ⟨_, rfl, ?_⟩
                 have n0_ := Aside0.mk (blk_below (g := g291) (o := .cells #[.int .u64 x292000_2, .int .u64 x292001_2, .int .u64 x292002_2, .int .u64 x292003_2] 23 (0, 0)) (by (with_reducible repeat first | refine blk_drewN ?_ _ | refine blk_drew ?_ | refine blk_alloc ?_ _); exact B291.out) hb)
                 have n1_ := Aside0.mk (blk_below (g := g292) (o := .cells #[.int .u64 0, .int .u64 0, .int .u64 0, .int .u64 0] 23 (0, 0)) (by (with_reducible repeat first | refine blk_drewN ?_ _ | refine blk_drew ?_ | refine blk_alloc ?_ _); exact B292.out) hb)
                 have n2_ := Aside0.mk (below_step (by repeat (first | (with_reducible first | exact HB.out | apply below_alloc | apply pw_below_drewN | apply below_drew1 | refine below_set ?_ GE291.out | refine below_set ?_ GE292.out) | exact HB.out)) hb)
                 clear B291
                 clear B292
                 clear HB
                 have B291 := n0_
                 have B292 := n1_
                 have HB := n2_
                 clear n0_ n1_ n2_
                 (try clear hb)
                 (try clear hb2)
                 (try clear hk)
                 (try clear hi)
                 refine hK.out _ _ ⟨bq_ B291 0, bq_ B291 1, bq_ B291 2, bq_ B291 3, ((HRG.out.below HB.out).u0 2 (by decide))⟩ (fun hL => ?_)
                 clear hK K
                 refine norm_ (a' := ?_) ?_ ?_
                 rotate_left
                 ·show Act.put _ (some 36) _ = _
                  simp only [Act.put, sa_, sb_, sc_, i64_w, i32_w]
                  rfl
                 refine one_ (i := 14) (N := some 37) z25_15_ rfl rfl (on_ T_) (by decide) (fun K hK => ?_)
                 refine goes_ Tryd.func45 (by kernel_rfl) rfl #[.int .i64 2, .int .u64 t340, .int .u64 t341] (by rfl) rfl rfl (by (try simp only [List.map_toArray, List.map_cons, List.map_nil]); first | done | rfl) ?_
                 with_reducible refine (field_Sub.calls 2 t340 t341 t342 _ ?side1 A152.out).mono ?_
                 (case side1 => repeat (first | exact (GL.below HRG.out HB.out) | (with_reducible refine GL.alloc ?_ _) | (with_reducible refine GL.drewN ?_ _) | (with_reducible refine GL.drew ?_)))
                 rintro e w156 ⟨rfl, hb⟩
                 refine ⟨_, rfl, ?_⟩
                 have n0_ := Aside0.mk (blk_below (g := g291) (o := .cells #[.int .u64 x292000_2, .int .u64 x292001_2, .int .u64 x292002_2, .int .u64 x292003_2] 23 (0, 0)) (by (with_reducible repeat first | refine blk_drewN ?_ _ | refine blk_drew ?_ | refine blk_alloc ?_ _); exact B291.out) hb)
                 have n1_ := Aside0.mk (blk_below (g := g292) (o := .cells #[.int .u64 0, .int .u64 0, .int .u64 0, .int .u64 0] 23 (0, 0)) (by (with_reducible repeat first | refine blk_drewN ?_ _ | refine blk_drew ?_ | refine blk_alloc ?_ _); exact B292.out) hb)
                 have n2_ := Aside0.mk (below_step (by repeat (first | (with_reducible first | exact HB.out | apply below_alloc | apply pw_below_drewN | apply below_drew1 | refine below_set ?_ GE291.out | refine below_set ?_ GE292.out) | exact HB.out)) hb)
                 clear B291
                 clear B292
                 clear HB
                 have B291 := n0_
                 have B292 := n1_
                 have HB := n2_
                 clear n0_ n1_ n2_
                 (try clear hb)
                 (try clear hb2)
                 (try clear hk)
                 (try clear hi)
                 refine hK.out _ _ ⟨bq_ B291 0, bq_ B291 1, bq_ B291 2, bq_ B291 3, ((HRG.out.below HB.out).u0 2 (by decide))⟩ (fun hL => ?_)
                 clear hK K
                 refine norm_ (a' := ?_) ?_ ?_
                 rotate_left
                 ·show Act.put _ (some 37) _ = _
                  simp only [Act.put, sa_, sb_, sc_, i64_w, i32_w]
                  rfl
                 refine pure_ (i := 15) (N := some 38) (v := ?_) (a' := ?_) z25_16_ rfl rfl (an_ T_) (fun _ _ _ h => h) (Or.inl ⟨by rfl, ?_⟩) ?_ ?_
                 rotate_left; · intro w'; go_simp; with_reducible rfl
                 rotate_left; · simp only [Act.put, sa_, sb_, sc_, i64_w, i32_w]; rfl
                 refine last_ (i := 16) (N := none) z25_17_ rfl rfl (on_ T_) (by decide) (fun K hK => ?_)
                 have hs157 : w156.cell? ⟨g291, 3, none⟩ = some (.int .u64 x292003_2) := bq_ B291 3
                 have hfs157 := blk_frozen B291.out 3
                 have hns157_1 := NB292_291.out
                 have hms157_1 := NB291_292.out
                 refine skip_ (w1 := ?_) (by rfl) rfl ?_ ?_
                 rotate_left
                 ·go_simp
                  rfl
                 refine hK.out _ _ ?_
                 clear hK K
                 refine done_ (done_of T_.out (by kernel_rfl)) ?_
                 try go_wp2
                 go_roundg k2
                 case measure => have := HK1.out; have := HK2.out; omega
                 case rel => exact ⟨(wrap64 (3 + 1)), (x292000_2), (x292001_2), (x292002_2), (t342), (by first | rfl | (simp; done) | (simp [*]; done) | (simp; rfl) | (simp; decide +kernel)), H', ⟨by have := HK1.out; have := HK2.out; omega⟩, ⟨by (with_reducible repeat first | refine blk_drewN ?_ _ | refine blk_drew ?_ | refine blk_alloc ?_ _); refine blk_put (cs := #[.int .u64 x292000_2, .int .u64 x292001_2, .int .u64 x292002_2, .int .u64 x292003_2]) ?_ 3 _ rfl; (with_reducible repeat first | refine blk_drewN ?_ _ | refine blk_drew ?_ | refine blk_alloc ?_ _); exact B291.out⟩, ⟨by (with_reducible repeat first | refine blk_drewN ?_ _ | refine blk_drew ?_ | refine blk_alloc ?_ _); refine blk_far ?_ NB292_291.out _; (with_reducible repeat first | refine blk_drewN ?_ _ | refine blk_drew ?_ | refine blk_alloc ?_ _); exact B292.out⟩, ⟨by repeat (first | (with_reducible first | exact HB.out | apply below_alloc | apply pw_below_drewN | apply below_drew1 | refine below_set ?_ GE291.out | refine below_set ?_ GE292.out) | exact HB.out)⟩⟩
                ·rw [if_neg c149] at H
                 by_cases c158 : a0 = 3
                 ·rw [if_pos c158] at H
                  subst c158
                  replace H := Option.bind_eq_some_iff.mp H
                  obtain ⟨t343, A1590, H⟩ := H
                  replace H : ((sponge_Constant.f k2 3 (wrap64 (7 - x12_1)) 3).bind fun t344 => ((field_Sub.f 3 t343 t344).bind fun t345 => (sponge_Inverse.l1 k2 3 (wrap64 (7 - x12_1)) x12_1 (wrap64 (3 + 1)) x292000_2 x292001_2 x292002_2 t345))) = some (r1, r2, r3, r4) := H
                  have A159 := Aside0.mk A1590
                  clear A1590
                  replace H := Option.bind_eq_some_iff.mp H
                  obtain ⟨t344, A1600, H⟩ := H
                  replace H : ((field_Sub.f 3 t343 t344).bind fun t345 => (sponge_Inverse.l1 k2 3 (wrap64 (7 - x12_1)) x12_1 (wrap64 (3 + 1)) x292000_2 x292001_2 x292002_2 t345)) = some (r1, r2, r3, r4) := H
                  have A160 := Aside0.mk A1600
                  clear A1600
                  replace H := Option.bind_eq_some_iff.mp H
                  obtain ⟨t345, A1610, H⟩ := H
                  replace H : (sponge_Inverse.l1 k2 3 (wrap64 (7 - x12_1)) x12_1 (wrap64 (3 + 1)) x292000_2 x292001_2 x292002_2 t345) = some (r1, r2, r3, r4) := H
                  have A161 := Aside0.mk A1610
                  clear A1610
                  have H' := Aside0.mk H
                  clear H
                  try go_wp2
                  have n0_ := Aside0.mk (blk_drew B291.out)
                  have n1_ := Aside0.mk (blk_drew B292.out)
                  have n2_ := Aside0.mk (below_drew1 HB.out)
                  clear B291
                  clear B292
                  clear HB
                  have B291 := n0_
                  have B292 := n1_
                  have HB := n2_
                  clear n0_ n1_ n2_
                  refine start_ (n := 17) (S := fun w' => w'.cell? ⟨g291, 0, none⟩ = some (.int .u64 x292000_2) ∧ w'.cell? ⟨g291, 1, none⟩ = some (.int .u64 x292001_2) ∧ w'.cell? ⟨g291, 2, none⟩ = some (.int .u64 x292002_2) ∧ w'.cell? ⟨g291, 3, none⟩ = some (.int .u64 x292003_2) ∧ w'.cell? ⟨0, 3, none⟩ = some (.int .u64 665496235)) (ds := [16]) z25_0_ (by kernel_rfl) rfl rfl ⟨bq_ B291 0, bq_ B291 1, bq_ B291 2, bq_ B291 3, ((HRG.out.below HB.out).u0 3 (by decide))⟩ (fun hL => ?_); refine with_tabW sponge_Inverse.tab11 sponge_Inverse.bits11 (fun T_ W_ => ?_)
                  generalize wr.drew = w162 at B291 B292 HB hL ⊢
                  refine pure_ (i := 0) (N := some 23) (v := ?_) (a' := ?_) z25_1_ rfl rfl (an_ T_) (fun _ _ _ h => h) (Or.inl ⟨by rfl, ?_⟩) ?_ ?_
                  rotate_left; · intro w'; go_simp; with_reducible rfl
                  rotate_left; · simp only [Act.put, sa_, sb_, sc_, i64_w, i32_w]; rfl
                  refine pure_ (i := 1) (N := some 24) (v := ?_) (a' := ?_) z25_2_ rfl rfl (an_ T_) (fun _ _ _ h => h) (Or.inl ⟨by rfl, ?_⟩) ?_ ?_
                  rotate_left; · intro w'; go_simp; with_reducible rfl
                  rotate_left; · simp only [Act.put, sa_, sb_, sc_, i64_w, i32_w]; rfl
                  refine pure_ (i := 2) (N := some 25) (v := ?_) (a' := ?_) z25_3_ rfl rfl (an_ T_) (fun _ _ _ h => h) (Or.inl ⟨by rfl, ?_⟩) ?_ ?_
                  rotate_left; · intro w'; go_simp; with_reducible rfl
                  rotate_left; · simp only [Act.put, sa_, sb_, sc_, i64_w, i32_w]; rfl
                  refine pure_ (i := 3) (N := some 26) (v := ?_) (a' := ?_) z25_4_ rfl rfl (an_ T_) (fun _ _ _ h => h) (Or.inl ⟨by rfl, ?_⟩) ?_ ?_
                  rotate_left; · intro w'; go_simp; with_reducible rfl
                  rotate_left; · simp only [Act.put, sa_, sb_, sc_, i64_w, i32_w]; rfl
                  refine pure_ (i := 4) (N := some 27) (v := ?_) (a' := ?_) z25_5_ rfl rfl (an_ T_) (fun _ _ _ h => h) (Or.inl ⟨by rfl, ?_⟩) ?_ ?_
                  rotate_left; · intro w'; go_simp; with_reducible rfl
                  rotate_left; · simp only [Act.put, sa_, sb_, sc_, i64_w, i32_w]; rfl
                  refine pure_ (i := 6) (N := some 29) (v := ?_) (a' := ?_) z25_6_ rfl rfl (an_ T_) (fun _ _ _ h => h) (Or.inl ⟨by rfl, ?_⟩) ?_ ?_
                  rotate_left; · intro w'; go_simp; with_reducible rfl
                  rotate_left; · simp only [Act.put, sa_, sb_, sc_, i64_w, i32_w]; rfl
                  refine pure_ (i := 7) (N := some 30) (v := ?_) (a' := ?_) z25_7_ rfl rfl (an_ T_) (fun _ _ _ h => h) (Or.inl ⟨by rfl, ?_⟩) ?_ ?_
                  rotate_left; · intro w'; go_simp; with_reducible rfl
                  rotate_left; · simp only [Act.put, sa_, sb_, sc_, i64_w, i32_w]; rfl
                  refine pure_ (i := 10) (N := some 33) (v := ?_) (a' := ?_) z25_8_ rfl rfl (an_ T_) (fun _ _ _ h => h) (Or.inl ⟨by rfl, ?_⟩) ?_ ?_
                  rotate_left; · intro w'; go_simp; with_reducible rfl
                  rotate_left; · simp only [Act.put, sa_, sb_, sc_, i64_w, i32_w]; rfl
                  refine pure_ (i := 11) (N := some 34) (v := ?_) (a' := ?_) z25_9_ rfl rfl (an_ T_) (fun _ _ _ h => h) (Or.inl ⟨by rfl, ?_⟩) ?_ ?_
                  rotate_left; · intro w'; go_simp; with_reducible rfl
                  rotate_left; · simp only [Act.put, sa_, sb_, sc_, i64_w, i32_w]; rfl
                  refine pure_ (i := 12) (N := some 35) (v := ?_) (a' := ?_) z25_10_ rfl rfl (an_ T_) (fun _ _ _ h => h) (Or.inl ⟨by rfl, ?_⟩) ?_ ?_
                  rotate_left; · intro w'; go_simp; with_reducible rfl
                  rotate_left; · simp only [Act.put, sa_, sb_, sc_, i64_w, i32_w]; rfl
                  refine take_ (i := 5) (N := some 28) (v := ?_) (a' := ?_) z25_11_ rfl rfl (tk_ T_ W_) (fun _ _ _ h => h) (Or.inl ⟨by rfl, ?_⟩) hL ?_ ?_
                  rotate_left
                  ·rintro w' ⟨s0, s1, s2, s3, s4⟩
                   go_simp
                   with_reducible rfl
                  rotate_left
                  ·simp only [Act.put, sa_, sb_, sc_, i64_w, i32_w]
                   rfl
                  refine take_ (i := 8) (N := some 31) (v := ?_) (a' := ?_) z25_12_ rfl rfl (tk_ T_ W_) (fun _ _ _ h => h) (Or.inl ⟨by rfl, ?_⟩) hL ?_ ?_
                  rotate_left
                  ·rintro w' ⟨s0, s1, s2, s3, s4⟩
                   go_simp
                   with_reducible rfl
                  rotate_left
                  ·simp only [Act.put, sa_, sb_, sc_, i64_w, i32_w]
                   rfl
                  refine one_ (i := 9) (N := some 32) z25_13_ rfl rfl (on_ T_) (by decide) (fun K hK => ?_)
                  refine goes_ Tryd.func29 (by kernel_rfl) rfl #[.int .i64 3, .int .u64 x292003_2, .int .u64 665496235] (by rfl) rfl rfl (by (try simp only [List.map_toArray, List.map_cons, List.map_nil]); first | done | rfl) ?_
                  with_reducible refine (field_Pow.calls k2 3 x292003_2 665496235 t343 _ ?side1 A159.out).mono ?_
                  (case side1 => repeat (first | exact (GL.below HRG.out HB.out) | (with_reducible refine GL.alloc ?_ _) | (with_reducible refine GL.drewN ?_ _) | (with_reducible refine GL.drew ?_)))
                  rintro e w163 ⟨rfl, hb⟩
                  refine ⟨_, rfl, ?_⟩
                  have n0_ := Aside0.mk (blk_below (g := g291) (o := .cells #[.int .u64 x292000_2, .int .u64 x292001_2, .int .u64 x292002_2, .int .u64 x292003_2] 23 (0, 0)) (by (with_reducible repeat first | refine blk_drewN ?_ _ | refine blk_drew ?_ | refine blk_alloc ?_ _); exact B291.out) hb)
                  have n1_ := Aside0.mk (blk_below (g := g292) (o := .cells #[.int .u64 0, .int .u64 0, .int .u64 0, .int .u64 0] 23 (0, 0)) (by (with_reducible repeat first | refine blk_drewN ?_ _ | refine blk_drew ?_ | refine blk_alloc ?_ _); exact B292.out) hb)
                  have n2_ := Aside0.mk (below_step (by repeat (first | (with_reducible first | exact HB.out | apply below_alloc | apply pw_below_drewN | apply below_drew1 | refine below_set ?_ GE291.out | refine below_set ?_ GE292.out) | exact HB.out)) hb)
                  clear B291
                  clear B292
                  clear HB
                  have B291 := n0_
                  have B292 := n1_
                  have HB := n2_
                  clear n0_ n1_ n2_
                  (try clear hb)
                  (try clear hb2)
                  (try clear hk)
                  (try clear hi)
                  refine hK.out _ _ ⟨bq_ B291 0, bq_ B291 1, bq_ B291 2, bq_ B291 3, ((HRG.out.below HB.out).u0 3 (by decide))⟩ (fun hL => ?_)
                  clear hK K
                  refine norm_ (a' := ?_) ?_ ?_
                  rotate_left
                  ·show Act.put _ (some 32) _ = _
                   simp only [Act.put, sa_, sb_, sc_, i64_w, i32_w]
                   rfl
                  refine one_ (i := 13) (N := some 36) z25_14_ rfl rfl (on_ T_) (by decide) (fun K hK => ?_)
                  refine goes_ Tryd.func12 (by kernel_rfl) rfl #[.int .i64 3, .int .i64 (wrap64 (7 - x12_1)), .int .i64 3] (by rfl) rfl rfl (by (try simp only [List.map_toArray, List.map_cons, List.map_nil]); first | done | rfl) ?_
                  with_reducible refine (sponge_Constant.calls k2 3 (wrap64 (7 - x12_1)) 3 t344 _ ?side1 A160.out).mono ?_
                  (case side1 => repeat (first | exact (GL.below HRG.out HB.out) | (with_reducible refine GL.alloc ?_ _) | (with_reducible refine GL.drewN ?_ _) | (with_reducible refine GL.drew ?_)))
                  rintro e w164 ⟨rfl, hb⟩
                  refine ⟨_, rfl, ?_⟩
                  have n0_ := Aside0.mk (blk_below (g := g291) (o := .cells #[.int .u64 x292000_2, .int .u64 x292001_2, .int .u64 x292002_2, .int .u64 x292003_2] 23 (0, 0)) (by (with_reducible repeat first | refine blk_drewN ?_ _ | refine blk_drew ?_ | refine blk_alloc ?_ _); exact B291.out) hb)
                  have n1_ := Aside0.mk (blk_below (g := g292) (o := .cells #[.int .u64 0, .int .u64 0, .int .u64 0, .int .u64 0] 23 (0, 0)) (by (with_reducible repeat first | refine blk_drewN ?_ _ | refine blk_drew ?_ | refine blk_alloc ?_ _); exact B292.out) hb)
                  have n2_ := Aside0.mk (below_step (by repeat (first | (with_reducible first | exact HB.out | apply below_alloc | apply pw_below_drewN | apply below_drew1 | refine below_set ?_ GE291.out | refine below_set ?_ GE292.out) | exact HB.out)) hb)
                  clear B291
                  clear B292
                  clear HB
                  have B291 := n0_
                  have B292 := n1_
                  have HB := n2_
                  clear n0_ n1_ n2_
                  (try clear hb)
                  (try clear hb2)
                  (try clear hk)
                  (try clear hi)
                  refine hK.out _ _ ⟨bq_ B291 0, bq_ B291 1, bq_ B291 2, bq_ B291 3, ((HRG.out.below HB.out).u0 3 (by decide))⟩ (fun hL => ?_)
                  clear hK K
                  refine norm_ (a' := ?_) ?_ ?_
                  rotate_left
                  ·show Act.put _ (some 36) _ = _
                   simp only [Act.put, sa_, sb_, sc_, i64_w, i32_w]
                   rfl
                  refine one_ (i := 14) (N := some 37) z25_15_ rfl rfl (on_ T_) (by decide) (fun K hK => ?_)
                  refine goes_ Tryd.func45 (by kernel_rfl) rfl #[.int .i64 3, .int .u64 t343, .int .u64 t344] (by rfl) rfl rfl (by (try simp only [List.map_toArray, List.map_cons, List.map_nil]); first | done | rfl) ?_
                  with_reducible refine (field_Sub.calls 3 t343 t344 t345 _ ?side1 A161.out).mono ?_
                  (case side1 => repeat (first | exact (GL.below HRG.out HB.out) | (with_reducible refine GL.alloc ?_ _) | (with_reducible refine GL.drewN ?_ _) | (with_reducible refine GL.drew ?_)))
                  rintro e w165 ⟨rfl, hb⟩
                  refine ⟨_, rfl, ?_⟩
                  have n0_ := Aside0.mk (blk_below (g := g291) (o := .cells #[.int .u64 x292000_2, .int .u64 x292001_2, .int .u64 x292002_2, .int .u64 x292003_2] 23 (0, 0)) (by (with_reducible repeat first | refine blk_drewN ?_ _ | refine blk_drew ?_ | refine blk_alloc ?_ _); exact B291.out) hb)
                  have n1_ := Aside0.mk (blk_below (g := g292) (o := .cells #[.int .u64 0, .int .u64 0, .int .u64 0, .int .u64 0] 23 (0, 0)) (by (with_reducible repeat first | refine blk_drewN ?_ _ | refine blk_drew ?_ | refine blk_alloc ?_ _); exact B292.out) hb)
                  have n2_ := Aside0.mk (below_step (by repeat (first | (with_reducible first | exact HB.out | apply below_alloc | apply pw_below_drewN | apply below_drew1 | refine below_set ?_ GE291.out | refine below_set ?_ GE292.out) | exact HB.out)) hb)
                  clear B291
                  clear B292
                  clear HB
                  have B291 := n0_
                  have B292 := n1_
                  have HB := n2_
                  clear n0_ n1_ n2_
                  (try clear hb)
                  (try clear hb2)
                  (try clear hk)
                  (try clear hi)
                  refine hK.out _ _ ⟨bq_ B291 0, bq_ B291 1, bq_ B291 2, bq_ B291 3, ((HRG.out.below HB.out).u0 3 (by decide))⟩ (fun hL => ?_)
                  clear hK K
                  refine norm_ (a' := ?_) ?_ ?_
                  rotate_left
                  ·show Act.put _ (some 37) _ = _
                   simp only [Act.put, sa_, sb_, sc_, i64_w, i32_w]
                   rfl
                  refine pure_ (i := 15) (N := some 38) (v := ?_) (a' := ?_) z25_16_ rfl rfl (an_ T_) (fun _ _ _ h => h) (Or.inl ⟨by rfl, ?_⟩) ?_ ?_
                  rotate_left; · intro w'; go_simp; with_reducible rfl
                  rotate_left; · simp only [Act.put, sa_, sb_, sc_, i64_w, i32_w]; rfl
                  refine last_ (i := 16) (N := none) z25_17_ rfl rfl (on_ T_) (by decide) (fun K hK => ?_)
                  have hs166 : w165.cell? ⟨g291, 3, none⟩ = some (.int .u64 x292003_2) := bq_ B291 3
                  have hfs166 := blk_frozen B291.out 3
                  have hns166_1 := NB292_291.out
                  have hms166_1 := NB291_292.out
                  refine skip_ (w1 := ?_) (by rfl) rfl ?_ ?_
                  rotate_left
                  ·go_simp
                   rfl
                  refine hK.out _ _ ?_
                  clear hK K
                  refine done_ (done_of T_.out (by kernel_rfl)) ?_
                  try go_wp2
                  go_roundg k2
                  case measure => have := HK1.out; have := HK2.out; omega
                  case rel => exact ⟨(wrap64 (3 + 1)), (x292000_2), (x292001_2), (x292002_2), (t345), (by first | rfl | (simp; done) | (simp [*]; done) | (simp; rfl) | (simp; decide +kernel)), H', ⟨by have := HK1.out; have := HK2.out; omega⟩, ⟨by (with_reducible repeat first | refine blk_drewN ?_ _ | refine blk_drew ?_ | refine blk_alloc ?_ _); refine blk_put (cs := #[.int .u64 x292000_2, .int .u64 x292001_2, .int .u64 x292002_2, .int .u64 x292003_2]) ?_ 3 _ rfl; (with_reducible repeat first | refine blk_drewN ?_ _ | refine blk_drew ?_ | refine blk_alloc ?_ _); exact B291.out⟩, ⟨by (with_reducible repeat first | refine blk_drewN ?_ _ | refine blk_drew ?_ | refine blk_alloc ?_ _); refine blk_far ?_ NB292_291.out _; (with_reducible repeat first | refine blk_drewN ?_ _ | refine blk_drew ?_ | refine blk_alloc ?_ _); exact B292.out⟩, ⟨by repeat (first | (with_reducible first | exact HB.out | apply below_alloc | apply pw_below_drewN | apply below_drew1 | refine below_set ?_ GE291.out | refine below_set ?_ GE292.out) | exact HB.out)⟩⟩
                 ·rw [if_neg c158] at H
                  exact absurd H (by simp)
             ·rw [if_neg c130] at H
              exact absurd H (by simp)
            ·rw [if_neg c129] at H
             exact absurd H (by simp)
        ·rw [if_neg c14] at H
         exact absurd H (by simp)
       ·rw [if_neg c13] at H
        have c13b0 : decide (x20_2 < 4) = false := decide_eq_false c13
        clear c13
        have H' := Aside0.mk H
        clear H
        go_wp2
        go_roundg k2
        case measure => have := HK1.out; have := HK2.out; omega
        case rel => exact ⟨(wrap64 (x12_1 + 1)), (x292000_2), (x292001_2), (x292002_2), (x292003_2), (by first | rfl | (simp; done) | (simp [*]; done) | (simp; rfl) | (simp; decide +kernel)), H', ⟨by have := HK1.out; have := HK2.out; omega⟩, ⟨by (with_reducible repeat first | refine blk_drewN ?_ _ | refine blk_drew ?_ | refine blk_alloc ?_ _); exact B291.out⟩, ⟨by (with_reducible repeat first | refine blk_drewN ?_ _ | refine blk_drew ?_ | refine blk_alloc ?_ _); exact B292.out⟩, ⟨by repeat (first | (with_reducible first | exact HB.out | apply below_alloc | apply pw_below_drewN | apply below_drew1 | refine below_set ?_ GE291.out | refine below_set ?_ GE292.out) | exact HB.out)⟩⟩
    ·rw [if_neg c7] at H
     have c7b0 : decide (x12_1 < 8) = false := decide_eq_false c7
     clear c7
     simp only [Option.some.injEq, Prod.mk.injEq] at H
     obtain ⟨rfl, rfl, rfl, rfl⟩ := H
     have hnb167 := NB291_292.out
     have hnc167 := NB292_291.out
     have hcz168_0 : wr.cell? ⟨g291, 0, none⟩ = some (.int .u64 x292000_1) := bq_ B291 0
     have hcz168_1 : wr.cell? ⟨g291, 1, none⟩ = some (.int .u64 x292001_1) := bq_ B291 1
     have hcz168_2 : wr.cell? ⟨g291, 2, none⟩ = some (.int .u64 x292002_1) := bq_ B291 2
     have hcz168_3 : wr.cell? ⟨g291, 3, none⟩ = some (.int .u64 x292003_1) := bq_ B291 3
     have hfz168_0 := blk_frozen B291.out 0
     have hfz168_1 := blk_frozen B291.out 1
     have hfz168_2 := blk_frozen B291.out 2
     have hfz168_3 := blk_frozen B291.out 3
     have hcz169_0 : wr.cell? ⟨g292, 0, none⟩ = some (.int .u64 0) := bq_ B292 0
     have hcz169_1 : wr.cell? ⟨g292, 1, none⟩ = some (.int .u64 0) := bq_ B292 1
     have hcz169_2 : wr.cell? ⟨g292, 2, none⟩ = some (.int .u64 0) := bq_ B292 2
     have hcz169_3 : wr.cell? ⟨g292, 3, none⟩ = some (.int .u64 0) := bq_ B292 3
     have hfz169_0 := blk_frozen B292.out 0
     have hfz169_1 := blk_frozen B292.out 1
     have hfz169_2 := blk_frozen B292.out 2
     have hfz169_3 := blk_frozen B292.out 3
     go_wp2
     refine bodyPost_ret (results_cell_row rfl _ _ g292 23 #[.int .u64 x292000_1, .int .u64 x292001_1, .int .u64 x292002_1, .int .u64 x292003_1] (0, 0) _ rfl (by (with_reducible repeat first | refine blk_drewN ?_ _ | refine blk_drew ?_ | refine blk_alloc ?_ _); refine blk_put (cs := #[.int .u64 x292000_1, .int .u64 x292001_1, .int .u64 x292002_1, .int .u64 0]) ?_ 3 _ rfl; (with_reducible repeat first | refine blk_drewN ?_ _ | refine blk_drew ?_ | refine blk_alloc ?_ _); refine blk_put (cs := #[.int .u64 x292000_1, .int .u64 x292001_1, .int .u64 0, .int .u64 0]) ?_ 2 _ rfl; (with_reducible repeat first | refine blk_drewN ?_ _ | refine blk_drew ?_ | refine blk_alloc ?_ _); refine blk_put (cs := #[.int .u64 x292000_1, .int .u64 0, .int .u64 0, .int .u64 0]) ?_ 1 _ rfl; (with_reducible repeat first | refine blk_drewN ?_ _ | refine blk_drew ?_ | refine blk_alloc ?_ _); refine blk_put (cs := #[.int .u64 0, .int .u64 0, .int .u64 0, .int .u64 0]) ?_ 0 _ rfl; (with_reducible repeat first | refine blk_drewN ?_ _ | refine blk_drew ?_ | refine blk_alloc ?_ _); exact B292.out) Tryd.underlying23 rfl (by kernel_rfl)) rfl ?_
     exact ⟨by first | rfl | (simp [errW_none, errW_some] <;> rfl) | (simp [*, errW_none, errW_some] <;> rfl), by repeat (first | (with_reducible first | exact HB.out | apply below_alloc | apply pw_below_drewN | apply below_drew1 | refine below_set ?_ GE291.out | refine below_set ?_ GE292.out) | exact HB.out)⟩
 ·replace c4 := Bool.eq_false_iff.mpr c4
  subst c4
  have H1 : (some (0, 0, 0, 0)) = some (r1, r2, r3, r4) := by rw [if_neg (show ¬ (false = true) by decide)] at H; exact H
  clear H
  have H := H1
  clear H1
  simp only [Option.some.injEq, Prod.mk.injEq] at H
  obtain ⟨rfl, rfl, rfl, rfl⟩ := H
  go_enter Tryd.func25, Tryd.ntmps25
  go_wp2_with (first | ((with_reducible refine gate_dst (N := 3) rfl ?_); refine box_event ?hg (N := 3) ?hd (cs := #[.int .u64 a1_0, .int .u64 a1_1, .int .u64 a1_2, .int .u64 a1_3]) (t := 23) ?hr ?_; (case hd => rfl); (case hg => rfl); (case hr => first | (go_simp; done) | (go_simp; rfl)); intro g291 hg w170 hbox hb; have n0_ := Aside0.mk (below_step (by repeat (first | (with_reducible first | exact HB.out | apply below_alloc | apply pw_below_drewN | apply below_drew1) | exact HB.out)) hb); have n1_ := Aside0.mk (hbox); have n2_ := Aside0.mk ((by rw [hg]; exact (below_size (by repeat (first | (with_reducible first | exact HB.out | apply below_alloc | apply pw_below_drewN | apply below_drew1) | exact HB.out))) : w.heap.size ≤ g291)); have n3_ := Aside0.mk ((by rw [hg]; exact (below_size (by repeat (first | (with_reducible first | exact HB.out | apply below_alloc | apply pw_below_drewN | apply below_drew1) | exact HB.out))) : w.heap.size ≤ g291)); clear HB; have HB := n0_; have B291 := n1_; have GW291 := n2_; have GE291 := n3_; clear n0_ n1_ n2_ n3_; clear hb hbox hg) | ((with_reducible refine gate_dst (N := 4) rfl ?_); refine box_event ?hg (N := 4) ?hd (cs := #[.int .u64 0, .int .u64 0, .int .u64 0, .int .u64 0]) (t := 23) ?hr ?_; (case hd => rfl); (case hg => rfl); (case hr => first | (go_simp; done) | (go_simp; rfl)); intro g292 hg w171 hbox hb; have n0_ := Aside0.mk (blk_below (g := g291) (o := .cells #[.int .u64 a1_0, .int .u64 a1_1, .int .u64 a1_2, .int .u64 a1_3] 23 (0, 0)) (by (with_reducible repeat first | refine blk_drewN ?_ _ | refine blk_drew ?_ | refine blk_alloc ?_ _); exact B291.out) hb); have n1_ := Aside0.mk (below_step (by repeat (first | (with_reducible first | exact HB.out | apply below_alloc | apply pw_below_drewN | apply below_drew1 | refine below_set ?_ GE291.out) | exact HB.out)) hb); have n2_ := Aside0.mk (hbox); have n3_ := Aside0.mk ((by rw [hg]; exact (below_size (by repeat (first | (with_reducible first | exact HB.out | apply below_alloc | apply pw_below_drewN | apply below_drew1 | refine below_set ?_ GE291.out) | exact HB.out))) : w.heap.size ≤ g292)); have n4_ := Aside0.mk ((by rw [hg]; exact (below_size (by repeat (first | (with_reducible first | exact HB.out | apply below_alloc | apply pw_below_drewN | apply below_drew1 | refine below_set ?_ GE291.out) | exact HB.out))) : w.heap.size ≤ g292)); have n5_ := Aside0.mk ((by rw [hg]; exact Nat.ne_of_lt (blk_lt (g := g291) (o := .cells #[.int .u64 a1_0, .int .u64 a1_1, .int .u64 a1_2, .int .u64 a1_3] 23 (0, 0)) (by (with_reducible repeat first | refine blk_drewN ?_ _ | refine blk_drew ?_ | refine blk_alloc ?_ _); exact B291.out)) : g291 ≠ g292)); have n6_ := Aside0.mk ((by rw [hg]; exact Nat.ne_of_gt (blk_lt (g := g291) (o := .cells #[.int .u64 a1_0, .int .u64 a1_1, .int .u64 a1_2, .int .u64 a1_3] 23 (0, 0)) (by (with_reducible repeat first | refine blk_drewN ?_ _ | refine blk_drew ?_ | refine blk_alloc ?_ _); exact B291.out)) : g292 ≠ g291)); clear B291; clear HB; have B291 := n0_; have HB := n1_; have B292 := n2_; have GW292 := n3_; have GE292 := n4_; have NB291_292 := n5_; have NB292_291 := n6_; clear n0_ n1_ n2_ n3_ n4_ n5_ n6_; clear hb hbox hg) | ((with_reducible refine gate_callee (f := 41) rfl ?_); refine goesL_ (some 9) rfl rfl Tryd.func41 (by kernel_rfl) rfl #[.int .i64 a0] rfl (by (try simp only [List.map_toArray, List.map_cons, List.map_nil]); first | done | rfl) ?_; (with_reducible refine (field_Valid.calls a0 false _ A3.out).mono ?_); rintro e w' ⟨rfl, ⟨nd, rfl⟩⟩; refine ⟨_, rfl, ?_⟩; (try (rw [drewN_self w171]; generalize q_ : World.drewN w171 _ = w171; have n0_ : Aside0 (w171.heap[g291]? = some (.cells #[.int .u64 a1_0, .int .u64 a1_1, .int .u64 a1_2, .int .u64 a1_3] 23 (0, 0))) := ⟨by rw [← q_]; exact (by (with_reducible repeat first | refine blk_drewN ?_ _ | refine blk_drew ?_ | refine blk_alloc ?_ _); exact B291.out)⟩; have n1_ : Aside0 (w171.heap[g292]? = some (.cells #[.int .u64 0, .int .u64 0, .int .u64 0, .int .u64 0] 23 (0, 0))) := ⟨by rw [← q_]; exact (by (with_reducible repeat first | refine blk_drewN ?_ _ | refine blk_drew ?_ | refine blk_alloc ?_ _); exact B292.out)⟩; have n2_ : Aside0 (Below w.heap.size w w171) := ⟨by rw [← q_]; exact (by repeat (first | (with_reducible first | exact HB.out | apply below_alloc | apply pw_below_drewN | apply below_drew1 | refine below_set ?_ GE291.out | refine below_set ?_ GE292.out) | exact HB.out))⟩; clear B291 B292 HB q_; have B291 := n0_; have B292 := n1_; have HB := n2_; clear n0_ n1_ n2_)); have hnb172 := NB292_291.out; have hnc172 := NB291_292.out; have hcz173_0 : w171.cell? ⟨g292, 0, none⟩ = some (.int .u64 0) := bq_ B292 0; have hcz173_1 : w171.cell? ⟨g292, 1, none⟩ = some (.int .u64 0) := bq_ B292 1; have hcz173_2 : w171.cell? ⟨g292, 2, none⟩ = some (.int .u64 0) := bq_ B292 2; have hcz173_3 : w171.cell? ⟨g292, 3, none⟩ = some (.int .u64 0) := bq_ B292 3; have hfz173_0 := blk_frozen B292.out 0; have hfz173_1 := blk_frozen B292.out 1; have hfz173_2 := blk_frozen B292.out 2; have hfz173_3 := blk_frozen B292.out 3))
  refine bodyPost_ret (results_cell_row rfl _ _ g292 23 #[.int .u64 0, .int .u64 0, .int .u64 0, .int .u64 0] (0, 0) _ rfl (by (with_reducible repeat first | refine blk_drewN ?_ _ | refine blk_drew ?_ | refine blk_alloc ?_ _); refine blk_put (cs := #[.int .u64 0, .int .u64 0, .int .u64 0, .int .u64 0]) ?_ 3 _ rfl; (with_reducible repeat first | refine blk_drewN ?_ _ | refine blk_drew ?_ | refine blk_alloc ?_ _); refine blk_put (cs := #[.int .u64 0, .int .u64 0, .int .u64 0, .int .u64 0]) ?_ 2 _ rfl; (with_reducible repeat first | refine blk_drewN ?_ _ | refine blk_drew ?_ | refine blk_alloc ?_ _); refine blk_put (cs := #[.int .u64 0, .int .u64 0, .int .u64 0, .int .u64 0]) ?_ 1 _ rfl; (with_reducible repeat first | refine blk_drewN ?_ _ | refine blk_drew ?_ | refine blk_alloc ?_ _); refine blk_put (cs := #[.int .u64 0, .int .u64 0, .int .u64 0, .int .u64 0]) ?_ 0 _ rfl; (with_reducible repeat first | refine blk_drewN ?_ _ | refine blk_drew ?_ | refine blk_alloc ?_ _); exact B292.out) Tryd.underlying23 rfl (by kernel_rfl)) rfl ?_
  exact ⟨by first | rfl | (simp [errW_none, errW_some] <;> rfl) | (simp [*, errW_none, errW_some] <;> rfl), by repeat (first | (with_reducible first | exact HB.out | apply below_alloc | apply pw_below_drewN | apply below_drew1 | refine below_set ?_ GE291.out | refine below_set ?_ GE292.out) | exact HB.out)⟩

end Go.Proofs.YtjfekjblnoagkaaDoor.Q
end
