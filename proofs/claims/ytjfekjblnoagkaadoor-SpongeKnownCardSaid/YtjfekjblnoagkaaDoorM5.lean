/- Several texts in one, in build order. What they prove, each by its own first remark:
Written by our own copy of a printing program (a twelfth state) out of the translation. Not trusted: Lean checks it. -/
import Derived.Test.YtjfekjblnoagkaaDoorM2
import Derived.Test.YtjfekjblnoagkaaDoorM4
section
namespace Go.Proofs.YtjfekjblnoagkaaDoor.Q
open Go.RowKit Go.Proofs.YtjfekjblnoagkaaDoorW.PrintWords Go.Proofs.YtjfekjblnoagkaaDoorW.PrintLast Go.Proofs.YtjfekjblnoagkaaDoorW.PrintMore
attribute [local go_sem] max2_int min2_int max_two min_two max_three min_three max_four min_four   -- for this text's walks alone
attribute [local go_sem] w64_0 tm4_0 w64_1 tm4_1 w64_2 tm4_2 w64_3 tm4_3 w64_4 tm4_4 w64_5 tm4_5 w64_6 tm4_6 w64_7 tm4_7
set_option linter.unusedVariables false
set_option linter.unusedSimpArgs false

abbrev z44_0_ : Array Bool := #[false, false, false, false, false, false, false, false, false, false, false, false, false, false, false, false, false, false, false, false]
abbrev z44_1_ : Array Bool := #[true, false, false, false, false, false, false, false, false, false, false, false, false, false, false, false, false, false, false, false]
abbrev z44_2_ : Array Bool := #[true, true, false, false, false, false, false, false, false, false, false, false, false, false, false, false, false, false, false, false]
abbrev z44_3_ : Array Bool := #[true, true, false, true, false, false, false, false, false, false, false, false, false, false, false, false, false, false, false, false]
abbrev z44_4_ : Array Bool := #[true, true, false, true, true, false, false, false, false, false, false, false, false, false, false, false, false, false, false, false]
abbrev z44_5_ : Array Bool := #[true, true, false, true, true, true, false, false, false, false, false, false, false, false, false, false, false, false, false, false]
abbrev z44_6_ : Array Bool := #[true, true, false, true, true, true, true, false, false, false, false, false, false, false, false, false, false, false, false, false]
abbrev z44_7_ : Array Bool := #[true, true, false, true, true, true, true, false, true, false, false, false, false, false, false, false, false, false, false, false]
abbrev z44_8_ : Array Bool := #[true, true, false, true, true, true, true, false, true, true, false, false, false, false, false, false, false, false, false, false]
abbrev z44_9_ : Array Bool := #[true, true, false, true, true, true, true, false, true, true, true, false, false, false, false, false, false, false, false, false]
abbrev z44_10_ : Array Bool := #[true, true, false, true, true, true, true, false, true, true, true, true, false, false, false, false, false, false, false, false]
abbrev z44_11_ : Array Bool := #[true, true, false, true, true, true, true, false, true, true, true, true, false, true, false, false, false, false, false, false]
abbrev z44_12_ : Array Bool := #[true, true, false, true, true, true, true, false, true, true, true, true, false, true, true, false, false, false, false, false]
abbrev z44_13_ : Array Bool := #[true, true, false, true, true, true, true, false, true, true, true, true, false, true, true, true, false, false, false, false]
abbrev z44_14_ : Array Bool := #[true, true, false, true, true, true, true, false, true, true, true, true, false, true, true, true, true, false, false, false]
abbrev z44_15_ : Array Bool := #[true, true, true, true, true, true, true, false, true, true, true, true, false, true, true, true, true, false, false, false]
abbrev z44_16_ : Array Bool := #[true, true, true, true, true, true, true, true, true, true, true, true, false, true, true, true, true, false, false, false]
abbrev z44_17_ : Array Bool := #[true, true, true, true, true, true, true, true, true, true, true, true, true, true, true, true, true, false, false, false]
abbrev z44_18_ : Array Bool := #[true, true, true, true, true, true, true, true, true, true, true, true, true, true, true, true, true, true, false, false]
abbrev z44_19_ : Array Bool := #[true, true, true, true, true, true, true, true, true, true, true, true, true, true, true, true, true, true, true, false]
abbrev z44_20_ : Array Bool := #[true, true, true, true, true, true, true, true, true, true, true, true, true, true, true, true, true, true, true, true]
/-! ### sponge_gather: function 44 -/
def sponge_gather.f (k : Nat) (a0 : Int) (a1_0 : Int) (a1_1 : Int) (a1_2 : Int) (a1_3 : Int) : Option (Int × Int × Int × Int) := (field_Neg.f a0 4).bind fun t262 => ((field_Neg.f a0 11).bind fun t263 => ((some (([t262, 3, t263, 17] : List Int) : List Int)).bind fun y264 => ((field_Inv.f k a0 35).bind fun t267 => ((field_Dot.f k a0 y264 (([a1_0, a1_1, a1_2, a1_3] : List Int))).bind fun t272 => ((field_Mul.f a0 t272 t267).bind fun t273 => ((field_Dot.f k a0 y264 (([a1_1, a1_2, a1_3, a1_0] : List Int))).bind fun t277 => ((field_Mul.f a0 t277 t267).bind fun t278 => ((field_Dot.f k a0 y264 (([a1_2, a1_3, a1_0, a1_1] : List Int))).bind fun t282 => ((field_Mul.f a0 t282 t267).bind fun t283 => ((field_Dot.f k a0 y264 (([a1_3, a1_0, a1_1, a1_2] : List Int))).bind fun t287 => ((field_Mul.f a0 t287 t267).bind fun t288 => (some (t273, t278, t283, t288)))))))))))))
theorem sponge_gather.mono : ∀ a0 a1 a2 a3 a4 k, LeO (sponge_gather.f k a0 a1 a2 a3 a4) (sponge_gather.f (k + 1) a0 a1 a2 a3 a4) := by
  intro a0 a1 a2 a3 a4 k
  unfold sponge_gather.f
  repeat' first
      | (with_reducible exact field_Dot.mono _ _ _ _)
      | (with_reducible exact field_Inv.mono _ _ _)
      | (with_reducible exact LeO.refl _)
      | (with_reducible exact LeO.none _)
      | (with_reducible refine LeO.ite ?_ ?_)
      | (with_reducible refine LeO.bind ?_ (fun _ => ?_))
      | exact field_Dot.mono _ _ _ _
      | exact field_Inv.mono _ _ _
      | exact LeO.none _
      | refine LeO.ite ?_ ?_
      | refine LeO.bind ?_ (fun _ => ?_)
def sponge_gather.T7 : Bool × List (List Nat × List Nat) := (true, [([], []), ([0], [0]), ([1], [1]), ([], []), ([3], [3]), ([4], [4]), ([5], [5]), ([6], [6]), ([], []), ([8], [8]), ([9], [9]), ([10], [10]), ([11], [11]), ([], []), ([13], [13]), ([14], [14]), ([15], [15]), ([16], [16]), ([2, 7, 12, 17], [2, 7, 12, 17]), ([18, 0, 1, 2, 3, 4, 5, 6, 7, 8, 9, 10, 11, 12, 13, 14, 15, 16, 17, 18], [18])])
def sponge_gather.B7 : List Nat := [0, 1, 3, 0, 8, 24, 56, 120, 0, 256, 768, 1792, 3840, 0, 8192, 24576, 57344, 122880, 262143, 524287]
theorem sponge_gather.tab7 : rtab .any (opsOf Tryd.f44 7) = sponge_gather.T7 := by kernel_rfl
theorem sponge_gather.bits7 : waitsOk sponge_gather.T7.2 sponge_gather.B7 = true := by kernel_rfl
set_option maxHeartbeats 8000000 in
set_option maxRecDepth 100000 in
theorem sponge_gather.calls (k : Nat) (a0 : Int) (a1_0 : Int) (a1_1 : Int) (a1_2 : Int) (a1_3 : Int) (r1 : Int) (r2 : Int) (r3 : Int) (r4 : Int) (w : World) (hrG : GL w) (h : sponge_gather.f k a0 a1_0 a1_1 a1_2 a1_3 = some (r1, r2, r3, r4)) :
  Calls Tryd.prog 44 #[.int .i64 a0, .agg #[.int .u64 a1_0, .int .u64 a1_1, .int .u64 a1_2, .int .u64 a1_3]] w fun e w' => e = .returned (.agg #[.int .u64 r1, .int .u64 r2, .int .u64 r3, .int .u64 r4]) ∧ Below w.heap.size w w' := by
 have hu23 := Tryd.underlying23
 have HRG := Aside0.mk hrG
 clear hrG
 have HB := Aside0.mk (Below.refl w.heap.size w)
 have H : ((field_Neg.f a0 4).bind fun t262 => ((field_Neg.f a0 11).bind fun t263 => ((some (([t262, 3, t263, 17] : List Int) : List Int)).bind fun y264 => ((field_Inv.f k a0 35).bind fun t267 => ((field_Dot.f k a0 y264 (([a1_0, a1_1, a1_2, a1_3] : List Int))).bind fun t272 => ((field_Mul.f a0 t272 t267).bind fun t273 => ((field_Dot.f k a0 y264 (([a1_1, a1_2, a1_3, a1_0] : List Int))).bind fun t277 => ((field_Mul.f a0 t277 t267).bind fun t278 => ((field_Dot.f k a0 y264 (([a1_2, a1_3, a1_0, a1_1] : List Int))).bind fun t282 => ((field_Mul.f a0 t282 t267).bind fun t283 => ((field_Dot.f k a0 y264 (([a1_3, a1_0, a1_1, a1_2] : List Int))).bind fun t287 => ((field_Mul.f a0 t287 t267).bind fun t288 => (some (t273, t278, t283, t288)))))))))))))) = some (r1, r2, r3, r4) := h
 clear h
 replace H := Option.bind_eq_some_iff.mp H
 obtain ⟨t262, A30, H⟩ := H
 replace H : ((field_Neg.f a0 11).bind fun t263 => ((some (([t262, 3, t263, 17] : List Int) : List Int)).bind fun y264 => ((field_Inv.f k a0 35).bind fun t267 => ((field_Dot.f k a0 y264 (([a1_0, a1_1, a1_2, a1_3] : List Int))).bind fun t272 => ((field_Mul.f a0 t272 t267).bind fun t273 => ((field_Dot.f k a0 y264 (([a1_1, a1_2, a1_3, a1_0] : List Int))).bind fun t277 => ((field_Mul.f a0 t277 t267).bind fun t278 => ((field_Dot.f k a0 y264 (([a1_2, a1_3, a1_0, a1_1] : List Int))).bind fun t282 => ((field_Mul.f a0 t282 t267).bind fun t283 => ((field_Dot.f k a0 y264 (([a1_3, a1_0, a1_1, a1_2] : List Int))).bind fun t287 => ((field_Mul.f a0 t287 t267).bind fun t288 => (some (t273, t278, t283, t288))))))))))))) = some (r1, r2, r3, r4) := H
 have A3 := Aside0.mk A30
 clear A30
 replace H := Option.bind_eq_some_iff.mp H
 obtain ⟨t263, A40, H⟩ := H
 replace H : ((some (([t262, 3, t263, 17] : List Int) : List Int)).bind fun y264 => ((field_Inv.f k a0 35).bind fun t267 => ((field_Dot.f k a0 y264 (([a1_0, a1_1, a1_2, a1_3] : List Int))).bind fun t272 => ((field_Mul.f a0 t272 t267).bind fun t273 => ((field_Dot.f k a0 y264 (([a1_1, a1_2, a1_3, a1_0] : List Int))).bind fun t277 => ((field_Mul.f a0 t277 t267).bind fun t278 => ((field_Dot.f k a0 y264 (([a1_2, a1_3, a1_0, a1_1] : List Int))).bind fun t282 => ((field_Mul.f a0 t282 t267).bind fun t283 => ((field_Dot.f k a0 y264 (([a1_3, a1_0, a1_1, a1_2] : List Int))).bind fun t287 => ((field_Mul.f a0 t287 t267).bind fun t288 => (some (t273, t278, t283, t288)))))))))))) = some (r1, r2, r3, r4) := H
 have A4 := Aside0.mk A40
 clear A40
 obtain ⟨y264, hy264⟩ : ∃ y_ : List Int, y_ = (([t262, 3, t263, 17] : List Int)) := ⟨_, rfl⟩
 replace H : ((field_Inv.f k a0 35).bind fun t267 => ((field_Dot.f k a0 y264 (([a1_0, a1_1, a1_2, a1_3] : List Int))).bind fun t272 => ((field_Mul.f a0 t272 t267).bind fun t273 => ((field_Dot.f k a0 y264 (([a1_1, a1_2, a1_3, a1_0] : List Int))).bind fun t277 => ((field_Mul.f a0 t277 t267).bind fun t278 => ((field_Dot.f k a0 y264 (([a1_2, a1_3, a1_0, a1_1] : List Int))).bind fun t282 => ((field_Mul.f a0 t282 t267).bind fun t283 => ((field_Dot.f k a0 y264 (([a1_3, a1_0, a1_1, a1_2] : List Int))).bind fun t287 => ((field_Mul.f a0 t287 t267).bind fun t288 => (some (t273, t278, t283, t288))))))))))) = some (r1, r2, r3, r4) := by first | (rw [hy264]; with_reducible exact H) | (have H2_ := (Option.bind_some _ _).symm.trans H; rw [hy264]; with_reducible exact H2_) | (have H2_ := (Option.bind_some _ _).symm.trans H; with_reducible exact H2_) | with_reducible exact H | (rw [hy264]; exact H) | exact H
 have Ny264 := Aside0.mk hy264
 clear hy264
 replace H := Option.bind_eq_some_iff.mp H
 obtain ⟨t267, A50, H⟩ := H
 replace H : ((field_Dot.f k a0 y264 (([a1_0, a1_1, a1_2, a1_3] : List Int))).bind fun t272 => ((field_Mul.f a0 t272 t267).bind fun t273 => ((field_Dot.f k a0 y264 (([a1_1, a1_2, a1_3, a1_0] : List Int))).bind fun t277 => ((field_Mul.f a0 t277 t267).bind fun t278 => ((field_Dot.f k a0 y264 (([a1_2, a1_3, a1_0, a1_1] : List Int))).bind fun t282 => ((field_Mul.f a0 t282 t267).bind fun t283 => ((field_Dot.f k a0 y264 (([a1_3, a1_0, a1_1, a1_2] : List Int))).bind fun t287 => ((field_Mul.f a0 t287 t267).bind fun t288 => (some (t273, t278, t283, t288)))))))))) = some (r1, r2, r3, r4) := H
 have A5 := Aside0.mk A50
 clear A50
 have HC6 := Aside0.mk H
 clear H
 go_enter Tryd.func44, Tryd.ntmps44
 go_wp2_with (first | ((with_reducible refine gate_dst (N := 3) rfl ?_); refine box_event ?hg (N := 3) ?hd (cs := #[.int .u64 a1_0, .int .u64 a1_1, .int .u64 a1_2, .int .u64 a1_3]) (t := 23) ?hr ?_; (case hd => rfl); (case hg => rfl); (case hr => first | (go_simp; done) | (go_simp; rfl)); intro g260 hg w7 hbox hb; have n0_ := Aside0.mk (below_step (by repeat (first | (with_reducible first | exact HB.out | apply below_alloc | apply pw_below_drewN | apply below_drew1) | exact HB.out)) hb); have n1_ := Aside0.mk (hbox); have n2_ := Aside0.mk ((by rw [hg]; exact (below_size (by repeat (first | (with_reducible first | exact HB.out | apply below_alloc | apply pw_below_drewN | apply below_drew1) | exact HB.out))) : w.heap.size ≤ g260)); have n3_ := Aside0.mk ((by rw [hg]; exact (below_size (by repeat (first | (with_reducible first | exact HB.out | apply below_alloc | apply pw_below_drewN | apply below_drew1) | exact HB.out))) : w.heap.size ≤ g260)); clear HB; have HB := n0_; have B260 := n1_; have GW260 := n2_; have GE260 := n3_; clear n0_ n1_ n2_ n3_; clear hb hbox hg) | ((with_reducible refine gate_dst (N := 4) rfl ?_); refine box_event ?hg (N := 4) ?hd (cs := #[.int .u64 0, .int .u64 0, .int .u64 0, .int .u64 0]) (t := 23) ?hr ?_; (case hd => rfl); (case hg => rfl); (case hr => first | (go_simp; done) | (go_simp; rfl)); intro g261 hg w8 hbox hb; have n0_ := Aside0.mk (blk_below (g := g260) (o := .cells #[.int .u64 a1_0, .int .u64 a1_1, .int .u64 a1_2, .int .u64 a1_3] 23 (0, 0)) (by (with_reducible repeat first | refine blk_drewN ?_ _ | refine blk_drew ?_ | refine blk_alloc ?_ _); exact B260.out) hb); have n1_ := Aside0.mk (below_step (by repeat (first | (with_reducible first | exact HB.out | apply below_alloc | apply pw_below_drewN | apply below_drew1 | refine below_set ?_ GE260.out) | exact HB.out)) hb); have n2_ := Aside0.mk (hbox); have n3_ := Aside0.mk ((by rw [hg]; exact (below_size (by repeat (first | (with_reducible first | exact HB.out | apply below_alloc | apply pw_below_drewN | apply below_drew1 | refine below_set ?_ GE260.out) | exact HB.out))) : w.heap.size ≤ g261)); have n4_ := Aside0.mk ((by rw [hg]; exact (below_size (by repeat (first | (with_reducible first | exact HB.out | apply below_alloc | apply pw_below_drewN | apply below_drew1 | refine below_set ?_ GE260.out) | exact HB.out))) : w.heap.size ≤ g261)); have n5_ := Aside0.mk ((by rw [hg]; exact Nat.ne_of_lt (blk_lt (g := g260) (o := .cells #[.int .u64 a1_0, .int .u64 a1_1, .int .u64 a1_2, .int .u64 a1_3] 23 (0, 0)) (by (with_reducible repeat first | refine blk_drewN ?_ _ | refine blk_drew ?_ | refine blk_alloc ?_ _); exact B260.out)) : g260 ≠ g261)); have n6_ := Aside0.mk ((by rw [hg]; exact Nat.ne_of_gt (blk_lt (g := g260) (o := .cells #[.int .u64 a1_0, .int .u64 a1_1, .int .u64 a1_2, .int .u64 a1_3] 23 (0, 0)) (by (with_reducible repeat first | refine blk_drewN ?_ _ | refine blk_drew ?_ | refine blk_alloc ?_ _); exact B260.out)) : g261 ≠ g260)); clear B260; clear HB; have B260 := n0_; have HB := n1_; have B261 := n2_; have GW261 := n3_; have GE261 := n4_; have NB260_261 := n5_; have NB261_260 := n6_; clear n0_ n1_ n2_ n3_ n4_ n5_ n6_; clear hb hbox hg) | ((with_reducible refine gate_callee (f := 52) rfl ?_); refine goesL_ (some 11) rfl rfl Tryd.func52 (by kernel_rfl) rfl #[.int .i64 a0, .int .u64 4] rfl (by (try simp only [List.map_toArray, List.map_cons, List.map_nil]); first | done | rfl) ?_; (with_reducible refine (field_Neg.calls a0 4 t262 _ ?side1 A3.out).mono ?_); (case side1 => repeat (first | exact (GL.below HRG.out HB.out) | (with_reducible refine GL.alloc ?_ _) | (with_reducible refine GL.drewN ?_ _) | (with_reducible refine GL.drew ?_))); rintro e w9 ⟨rfl, hb⟩; refine ⟨_, rfl, ?_⟩; have n0_ := Aside0.mk (blk_below (g := g260) (o := .cells #[.int .u64 a1_0, .int .u64 a1_1, .int .u64 a1_2, .int .u64 a1_3] 23 (0, 0)) (by (with_reducible repeat first | refine blk_drewN ?_ _ | refine blk_drew ?_ | refine blk_alloc ?_ _); exact B260.out) hb); have n1_ := Aside0.mk (blk_below (g := g261) (o := .cells #[.int .u64 0, .int .u64 0, .int .u64 0, .int .u64 0] 23 (0, 0)) (by (with_reducible repeat first | refine blk_drewN ?_ _ | refine blk_drew ?_ | refine blk_alloc ?_ _); exact B261.out) hb); have n2_ := Aside0.mk (below_step (by repeat (first | (with_reducible first | exact HB.out | apply below_alloc | apply pw_below_drewN | apply below_drew1 | refine below_set ?_ GE260.out | refine below_set ?_ GE261.out) | exact HB.out)) hb); clear B260; clear B261; clear HB; have B260 := n0_; have B261 := n1_; have HB := n2_; clear n0_ n1_ n2_; (try clear hb); (try clear hb2); (try clear hk); (try clear hi)) | ((with_reducible refine gate_callee (f := 52) rfl ?_); refine goesL_ (some 13) rfl rfl Tryd.func52 (by kernel_rfl) rfl #[.int .i64 a0, .int .u64 11] rfl (by (try simp only [List.map_toArray, List.map_cons, List.map_nil]); first | done | rfl) ?_; (with_reducible refine (field_Neg.calls a0 11 t263 _ ?side1 A4.out).mono ?_); (case side1 => repeat (first | exact (GL.below HRG.out HB.out) | (with_reducible refine GL.alloc ?_ _) | (with_reducible refine GL.drewN ?_ _) | (with_reducible refine GL.drew ?_))); rintro e w10 ⟨rfl, hb⟩; refine ⟨_, rfl, ?_⟩; have n0_ := Aside0.mk (blk_below (g := g260) (o := .cells #[.int .u64 a1_0, .int .u64 a1_1, .int .u64 a1_2, .int .u64 a1_3] 23 (0, 0)) (by (with_reducible repeat first | refine blk_drewN ?_ _ | refine blk_drew ?_ | refine blk_alloc ?_ _); exact B260.out) hb); have n1_ := Aside0.mk (blk_below (g := g261) (o := .cells #[.int .u64 0, .int .u64 0, .int .u64 0, .int .u64 0] 23 (0, 0)) (by (with_reducible repeat first | refine blk_drewN ?_ _ | refine blk_drew ?_ | refine blk_alloc ?_ _); exact B261.out) hb); have n2_ := Aside0.mk (below_step (by repeat (first | (with_reducible first | exact HB.out | apply below_alloc | apply pw_below_drewN | apply below_drew1 | refine below_set ?_ GE260.out | refine below_set ?_ GE261.out) | exact HB.out)) hb); clear B260; clear B261; clear HB; have B260 := n0_; have B261 := n1_; have HB := n2_; clear n0_ n1_ n2_; (try clear hb); (try clear hb2); (try clear hk); (try clear hi)) | ((with_reducible refine gate_dst (N := 14) rfl ?_); refine Kd.R_lit (Kd.int .u64) _ 22 ?hg (N := 14) ?hd (xs := ([t262, 3, t263, 17] : List Int)) (inner := [.int .u64 t262, .int .u64 3, .int .u64 t263, .int .u64 17]) (ok := fun _ => True) (okp := fun _ => True) ?hr ?hp (fun _ hk => hk) trivial (Below.refl _ _) (Nat.le_refl _) (by simp) ?_; (case hd => rfl); (case hg => rfl); (case hr => first | (go_simp; done) | (go_simp; rfl)); (case hp => exact (Reps.one (show Kd.M (Kd.int .u64) _ _ _ t262 [.int .u64 t262] from rfl) (Reps.one (show Kd.M (Kd.int .u64) _ _ _ 3 [.int .u64 3] from rfl) (Reps.one (show Kd.M (Kd.int .u64) _ _ _ t263 [.int .u64 t263] from rfl) (Reps.one (show Kd.M (Kd.int .u64) _ _ _ 17 [.int .u64 17] from rfl) (Reps.none _ _)))))); intro v265 w11 ho12 hb hg_ hnew_; clear hg_ hnew_; (first | rw [← Ny264.out] at ho12 | (simp only [Int.reduceToNat] at ho12; rw [← Ny264.out] at ho12)); have n0_ := Aside0.mk (Kd.R_lower ho12 (below_size (by repeat (first | (with_reducible first | exact HB.out | apply below_alloc | apply pw_below_drewN | apply below_drew1 | refine below_set ?_ GE260.out | refine below_set ?_ GE261.out) | exact HB.out)))); have n1_ := Aside0.mk (blk_below (g := g260) (o := .cells #[.int .u64 a1_0, .int .u64 a1_1, .int .u64 a1_2, .int .u64 a1_3] 23 (0, 0)) (by (with_reducible repeat first | refine blk_drewN ?_ _ | refine blk_drew ?_ | refine blk_alloc ?_ _); exact B260.out) hb); have n2_ := Aside0.mk (blk_below (g := g261) (o := .cells #[.int .u64 0, .int .u64 0, .int .u64 0, .int .u64 0] 23 (0, 0)) (by (with_reducible repeat first | refine blk_drewN ?_ _ | refine blk_drew ?_ | refine blk_alloc ?_ _); exact B261.out) hb); have n3_ := Aside0.mk (below_step (by repeat (first | (with_reducible first | exact HB.out | apply below_alloc | apply pw_below_drewN | apply below_drew1 | refine below_set ?_ GE260.out | refine below_set ?_ GE261.out) | exact HB.out)) hb); clear B260; clear B261; clear HB; have HO266 := n0_; have B260 := n1_; have B261 := n2_; have HB := n3_; clear n0_ n1_ n2_ n3_; clear hb ho12) | ((with_reducible refine gate_callee (f := 53) rfl ?_); refine goesL_ (some 16) rfl rfl Tryd.func53 (by kernel_rfl) rfl #[.int .i64 a0, .int .u64 35] rfl (by (try simp only [List.map_toArray, List.map_cons, List.map_nil]); first | done | rfl) ?_; (with_reducible refine (field_Inv.calls k a0 35 t267 _ ?side1 A5.out).mono ?_); (case side1 => repeat (first | exact (GL.below HRG.out HB.out) | (with_reducible refine GL.alloc ?_ _) | (with_reducible refine GL.drewN ?_ _) | (with_reducible refine GL.drew ?_))); rintro e w13 ⟨rfl, hb⟩; refine ⟨_, rfl, ?_⟩; have n0_ := Aside0.mk (Kd.R_below (by (with_reducible repeat (first | apply Kd.R_alloc | apply Kd.R_drewN | apply Kd.R_drew)); exact HO266.out) hb); have n1_ := Aside0.mk (blk_below (g := g260) (o := .cells #[.int .u64 a1_0, .int .u64 a1_1, .int .u64 a1_2, .int .u64 a1_3] 23 (0, 0)) (by (with_reducible repeat first | refine blk_drewN ?_ _ | refine blk_drew ?_ | refine blk_alloc ?_ _); exact B260.out) hb); have n2_ := Aside0.mk (blk_below (g := g261) (o := .cells #[.int .u64 0, .int .u64 0, .int .u64 0, .int .u64 0] 23 (0, 0)) (by (with_reducible repeat first | refine blk_drewN ?_ _ | refine blk_drew ?_ | refine blk_alloc ?_ _); exact B261.out) hb); have n3_ := Aside0.mk (below_step (by repeat (first | (with_reducible first | exact HB.out | apply below_alloc | apply pw_below_drewN | apply below_drew1 | refine below_set ?_ GE260.out | refine below_set ?_ GE261.out) | exact HB.out)) hb); clear HO266; clear B260; clear B261; clear HB; have HO266 := n0_; have B260 := n1_; have B261 := n2_; have HB := n3_; clear n0_ n1_ n2_ n3_; (try clear hb); (try clear hb2); (try clear hk); (try clear hi)) | ((with_reducible refine gate_dst (N := 7) rfl ?_); refine box_event ?hg (N := 7) ?hd (cs := #[.int .u64 0, .int .u64 0, .int .u64 0, .int .u64 0]) (t := 23) ?hr ?_; (case hd => rfl); (case hg => rfl); (case hr => first | (go_simp; done) | (go_simp; rfl)); intro g268 hg w14 hbox hb; have n0_ := Aside0.mk (Kd.R_below (by (with_reducible repeat (first | apply Kd.R_alloc | apply Kd.R_drewN | apply Kd.R_drew)); exact HO266.out) hb); have n1_ := Aside0.mk (blk_below (g := g260) (o := .cells #[.int .u64 a1_0, .int .u64 a1_1, .int .u64 a1_2, .int .u64 a1_3] 23 (0, 0)) (by (with_reducible repeat first | refine blk_drewN ?_ _ | refine blk_drew ?_ | refine blk_alloc ?_ _); exact B260.out) hb); have n2_ := Aside0.mk (blk_below (g := g261) (o := .cells #[.int .u64 0, .int .u64 0, .int .u64 0, .int .u64 0] 23 (0, 0)) (by (with_reducible repeat first | refine blk_drewN ?_ _ | refine blk_drew ?_ | refine blk_alloc ?_ _); exact B261.out) hb); have n3_ := Aside0.mk (below_step (by repeat (first | (with_reducible first | exact HB.out | apply below_alloc | apply pw_below_drewN | apply below_drew1 | refine below_set ?_ GE260.out | refine below_set ?_ GE261.out) | exact HB.out)) hb); have n4_ := Aside0.mk (hbox); have n5_ := Aside0.mk ((by rw [hg]; exact (below_size (by repeat (first | (with_reducible first | exact HB.out | apply below_alloc | apply pw_below_drewN | apply below_drew1 | refine below_set ?_ GE260.out | refine below_set ?_ GE261.out) | exact HB.out))) : w.heap.size ≤ g268)); have n6_ := Aside0.mk ((by rw [hg]; exact (below_size (by repeat (first | (with_reducible first | exact HB.out | apply below_alloc | apply pw_below_drewN | apply below_drew1 | refine below_set ?_ GE260.out | refine below_set ?_ GE261.out) | exact HB.out))) : w.heap.size ≤ g268)); have n7_ := Aside0.mk ((by rw [hg]; exact Nat.ne_of_lt (blk_lt (g := g260) (o := .cells #[.int .u64 a1_0, .int .u64 a1_1, .int .u64 a1_2, .int .u64 a1_3] 23 (0, 0)) (by (with_reducible repeat first | refine blk_drewN ?_ _ | refine blk_drew ?_ | refine blk_alloc ?_ _); exact B260.out)) : g260 ≠ g268)); have n8_ := Aside0.mk ((by rw [hg]; exact Nat.ne_of_gt (blk_lt (g := g260) (o := .cells #[.int .u64 a1_0, .int .u64 a1_1, .int .u64 a1_2, .int .u64 a1_3] 23 (0, 0)) (by (with_reducible repeat first | refine blk_drewN ?_ _ | refine blk_drew ?_ | refine blk_alloc ?_ _); exact B260.out)) : g268 ≠ g260)); have n9_ := Aside0.mk ((by rw [hg]; exact Nat.ne_of_lt (blk_lt (g := g261) (o := .cells #[.int .u64 0, .int .u64 0, .int .u64 0, .int .u64 0] 23 (0, 0)) (by (with_reducible repeat first | refine blk_drewN ?_ _ | refine blk_drew ?_ | refine blk_alloc ?_ _); exact B261.out)) : g261 ≠ g268)); have n10_ := Aside0.mk ((by rw [hg]; exact Nat.ne_of_gt (blk_lt (g := g261) (o := .cells #[.int .u64 0, .int .u64 0, .int .u64 0, .int .u64 0] 23 (0, 0)) (by (with_reducible repeat first | refine blk_drewN ?_ _ | refine blk_drew ?_ | refine blk_alloc ?_ _); exact B261.out)) : g268 ≠ g261)); clear HO266; clear B260; clear B261; clear HB; have HO266 := n0_; have B260 := n1_; have B261 := n2_; have HB := n3_; have B268 := n4_; have GW268 := n5_; have GE268 := n6_; have NB260_268 := n7_; have NB268_260 := n8_; have NB261_268 := n9_; have NB268_261 := n10_; clear n0_ n1_ n2_ n3_ n4_ n5_ n6_ n7_ n8_ n9_ n10_; clear hb hbox hg))
 refine wp_loop_rounds 5 ?_
 rw [rounds_succ]
 have H := HC6.out
 clear HC6
 obtain ⟨y269, hy269⟩ : ∃ y_ : List Int, y_ = (([a1_0, a1_1, a1_2, a1_3] : List Int)) := ⟨_, rfl⟩
 replace H : ((field_Dot.f k a0 y264 y269).bind fun t272 => ((field_Mul.f a0 t272 t267).bind fun t273 => ((field_Dot.f k a0 y264 (([a1_1, a1_2, a1_3, a1_0] : List Int))).bind fun t277 => ((field_Mul.f a0 t277 t267).bind fun t278 => ((field_Dot.f k a0 y264 (([a1_2, a1_3, a1_0, a1_1] : List Int))).bind fun t282 => ((field_Mul.f a0 t282 t267).bind fun t283 => ((field_Dot.f k a0 y264 (([a1_3, a1_0, a1_1, a1_2] : List Int))).bind fun t287 => ((field_Mul.f a0 t287 t267).bind fun t288 => (some (t273, t278, t283, t288)))))))))) = some (r1, r2, r3, r4) := by first | (rw [hy269]; with_reducible exact H) | (have H2_ := (Option.bind_some _ _).symm.trans H; rw [hy269]; with_reducible exact H2_) | (have H2_ := (Option.bind_some _ _).symm.trans H; with_reducible exact H2_) | with_reducible exact H | (rw [hy269]; exact H) | exact H
 have Ny269 := Aside0.mk hy269
 clear hy269
 replace H := Option.bind_eq_some_iff.mp H
 obtain ⟨t272, A150, H⟩ := H
 replace H : ((field_Mul.f a0 t272 t267).bind fun t273 => ((field_Dot.f k a0 y264 (([a1_1, a1_2, a1_3, a1_0] : List Int))).bind fun t277 => ((field_Mul.f a0 t277 t267).bind fun t278 => ((field_Dot.f k a0 y264 (([a1_2, a1_3, a1_0, a1_1] : List Int))).bind fun t282 => ((field_Mul.f a0 t282 t267).bind fun t283 => ((field_Dot.f k a0 y264 (([a1_3, a1_0, a1_1, a1_2] : List Int))).bind fun t287 => ((field_Mul.f a0 t287 t267).bind fun t288 => (some (t273, t278, t283, t288))))))))) = some (r1, r2, r3, r4) := H
 have A15 := Aside0.mk A150
 clear A150
 replace H := Option.bind_eq_some_iff.mp H
 obtain ⟨t273, A160, H⟩ := H
 replace H : ((field_Dot.f k a0 y264 (([a1_1, a1_2, a1_3, a1_0] : List Int))).bind fun t277 => ((field_Mul.f a0 t277 t267).bind fun t278 => ((field_Dot.f k a0 y264 (([a1_2, a1_3, a1_0, a1_1] : List Int))).bind fun t282 => ((field_Mul.f a0 t282 t267).bind fun t283 => ((field_Dot.f k a0 y264 (([a1_3, a1_0, a1_1, a1_2] : List Int))).bind fun t287 => ((field_Mul.f a0 t287 t267).bind fun t288 => (some (t273, t278, t283, t288)))))))) = some (r1, r2, r3, r4) := H
 have A16 := Aside0.mk A160
 clear A160
 have HC17 := Aside0.mk H
 clear H
 try go_wp2
 have n0_ := Aside0.mk (Kd.R_drew HO266.out)
 have n1_ := Aside0.mk (blk_drew B260.out)
 have n2_ := Aside0.mk (blk_drew B261.out)
 have n3_ := Aside0.mk (blk_drew B268.out)
 have n4_ := Aside0.mk (below_drew1 HB.out)
 clear HO266
 clear B260
 clear B261
 clear B268
 clear HB
 have HO266 := n0_
 have B260 := n1_
 have B261 := n2_
 have B268 := n3_
 have HB := n4_
 clear n0_ n1_ n2_ n3_ n4_
 refine start_ (n := 20) (S := fun w' => w'.cell? ⟨g260, 0, none⟩ = some (.int .u64 a1_0) ∧ w'.cell? ⟨g260, 1, none⟩ = some (.int .u64 a1_1) ∧ w'.cell? ⟨g260, 2, none⟩ = some (.int .u64 a1_2) ∧ w'.cell? ⟨g260, 3, none⟩ = some (.int .u64 a1_3)) (ds := []) z44_0_ (by kernel_rfl) rfl rfl ⟨bq_ B260 0, bq_ B260 1, bq_ B260 2, bq_ B260 3⟩ (fun hL => ?_); refine with_tabW sponge_gather.tab7 sponge_gather.bits7 (fun T_ W_ => ?_)
 generalize w14.drew = w18 at HO266 B260 B261 B268 HB hL ⊢
 refine pure_ (i := 0) (N := some 20) (v := ?_) (a' := ?_) z44_1_ rfl rfl (an_ T_) (fun _ _ _ h => h) (Or.inl ⟨by rfl, ?_⟩) ?_ ?_
 rotate_left; · intro w'; go_simp; with_reducible rfl
 rotate_left; · simp only [Act.put, sa_, sb_, sc_, i64_w, i32_w]; rfl
 refine pure_ (i := 1) (N := some 21) (v := ?_) (a' := ?_) z44_2_ rfl rfl (an_ T_) (fun _ _ _ h => h) (Or.inl ⟨by rfl, ?_⟩) ?_ ?_
 rotate_left; · intro w'; go_simp; with_reducible rfl
 rotate_left; · simp only [Act.put, sa_, sb_, sc_, i64_w, i32_w]; rfl
 refine pure_ (i := 3) (N := some 23) (v := ?_) (a' := ?_) z44_3_ rfl rfl (an_ T_) (fun _ _ _ h => h) (Or.inl ⟨by rfl, ?_⟩) ?_ ?_
 rotate_left; · intro w'; go_simp; with_reducible rfl
 rotate_left; · simp only [Act.put, sa_, sb_, sc_, i64_w, i32_w]; rfl
 refine pure_ (i := 4) (N := some 24) (v := ?_) (a' := ?_) z44_4_ rfl rfl (an_ T_) (fun _ _ _ h => h) (Or.inl ⟨by rfl, ?_⟩) ?_ ?_
 rotate_left; · intro w'; go_simp; with_reducible rfl
 rotate_left; · simp only [Act.put, sa_, sb_, sc_, i64_w, i32_w]; rfl
 refine pure_ (i := 5) (N := some 25) (v := ?_) (a' := ?_) z44_5_ rfl rfl (an_ T_) (fun _ _ _ h => h) (Or.inl ⟨by rfl, ?_⟩) ?_ ?_
 rotate_left; · intro w'; go_simp; with_reducible rfl
 rotate_left; · simp only [Act.put, sa_, sb_, sc_, i64_w, i32_w]; rfl
 refine pure_ (i := 6) (N := some 26) (v := ?_) (a' := ?_) z44_6_ rfl rfl (an_ T_) (fun _ _ _ h => h) (Or.inl ⟨by rfl, ?_⟩) ?_ ?_
 rotate_left; · intro w'; go_simp; with_reducible rfl
 rotate_left; · simp only [Act.put, sa_, sb_, sc_, i64_w, i32_w]; rfl
 refine pure_ (i := 8) (N := some 28) (v := ?_) (a' := ?_) z44_7_ rfl rfl (an_ T_) (fun _ _ _ h => h) (Or.inl ⟨by rfl, ?_⟩) ?_ ?_
 rotate_left; · intro w'; go_simp; with_reducible rfl
 rotate_left; · simp only [Act.put, sa_, sb_, sc_, i64_w, i32_w]; rfl
 refine pure_ (i := 9) (N := some 29) (v := ?_) (a' := ?_) z44_8_ rfl rfl (an_ T_) (fun _ _ _ h => h) (Or.inl ⟨by rfl, ?_⟩) ?_ ?_
 rotate_left; · intro w'; go_simp; with_reducible rfl
 rotate_left; · simp only [Act.put, sa_, sb_, sc_, i64_w, i32_w]; rfl
 refine pure_ (i := 10) (N := some 30) (v := ?_) (a' := ?_) z44_9_ rfl rfl (an_ T_) (fun _ _ _ h => h) (Or.inl ⟨by rfl, ?_⟩) ?_ ?_
 rotate_left; · intro w'; go_simp; with_reducible rfl
 rotate_left; · simp only [Act.put, sa_, sb_, sc_, i64_w, i32_w]; rfl
 refine pure_ (i := 11) (N := some 31) (v := ?_) (a' := ?_) z44_10_ rfl rfl (an_ T_) (fun _ _ _ h => h) (Or.inl ⟨by rfl, ?_⟩) ?_ ?_
 rotate_left; · intro w'; go_simp; with_reducible rfl
 rotate_left; · simp only [Act.put, sa_, sb_, sc_, i64_w, i32_w]; rfl
 refine pure_ (i := 13) (N := some 33) (v := ?_) (a' := ?_) z44_11_ rfl rfl (an_ T_) (fun _ _ _ h => h) (Or.inl ⟨by rfl, ?_⟩) ?_ ?_
 rotate_left; · intro w'; go_simp; with_reducible rfl
 rotate_left; · simp only [Act.put, sa_, sb_, sc_, i64_w, i32_w]; rfl
 refine pure_ (i := 14) (N := some 34) (v := ?_) (a' := ?_) z44_12_ rfl rfl (an_ T_) (fun _ _ _ h => h) (Or.inl ⟨by rfl, ?_⟩) ?_ ?_
 rotate_left; · intro w'; go_simp; with_reducible rfl
 rotate_left; · simp only [Act.put, sa_, sb_, sc_, i64_w, i32_w]; rfl
 refine pure_ (i := 15) (N := some 35) (v := ?_) (a' := ?_) z44_13_ rfl rfl (an_ T_) (fun _ _ _ h => h) (Or.inl ⟨by rfl, ?_⟩) ?_ ?_
 rotate_left; · intro w'; go_simp; with_reducible rfl
 rotate_left; · simp only [Act.put, sa_, sb_, sc_, i64_w, i32_w]; rfl
 refine pure_ (i := 16) (N := some 36) (v := ?_) (a' := ?_) z44_14_ rfl rfl (an_ T_) (fun _ _ _ h => h) (Or.inl ⟨by rfl, ?_⟩) ?_ ?_
 rotate_left; · intro w'; go_simp; with_reducible rfl
 rotate_left; · simp only [Act.put, sa_, sb_, sc_, i64_w, i32_w]; rfl
 refine take_ (i := 2) (N := some 22) (v := ?_) (a' := ?_) z44_15_ rfl rfl (tk_ T_ W_) (fun _ _ _ h => h) (Or.inl ⟨by rfl, ?_⟩) hL ?_ ?_
 rotate_left
 ·rintro w' ⟨s0, s1, s2, s3⟩
  go_simp
  with_reducible rfl
 rotate_left
 ·simp only [Act.put, sa_, sb_, sc_, i64_w, i32_w]
  rfl
 refine take_ (i := 7) (N := some 27) (v := ?_) (a' := ?_) z44_16_ rfl rfl (tk_ T_ W_) (fun _ _ _ h => h) (Or.inl ⟨by rfl, ?_⟩) hL ?_ ?_
 rotate_left
 ·rintro w' ⟨s0, s1, s2, s3⟩
  go_simp
  with_reducible rfl
 rotate_left
 ·simp only [Act.put, sa_, sb_, sc_, i64_w, i32_w]
  rfl
 refine take_ (i := 12) (N := some 32) (v := ?_) (a' := ?_) z44_17_ rfl rfl (tk_ T_ W_) (fun _ _ _ h => h) (Or.inl ⟨by rfl, ?_⟩) hL ?_ ?_
 rotate_left
 ·rintro w' ⟨s0, s1, s2, s3⟩
  go_simp
  with_reducible rfl
 rotate_left
 ·simp only [Act.put, sa_, sb_, sc_, i64_w, i32_w]
  rfl
 refine take_ (i := 17) (N := some 37) (v := ?_) (a' := ?_) z44_18_ rfl rfl (tk_ T_ W_) (fun _ _ _ h => h) (Or.inl ⟨by rfl, ?_⟩) hL ?_ ?_
 rotate_left
 ·rintro w' ⟨s0, s1, s2, s3⟩
  go_simp
  with_reducible rfl
 rotate_left
 ·simp only [Act.put, sa_, sb_, sc_, i64_w, i32_w]
  rfl
 refine one_ (i := 18) (N := some 38) z44_19_ rfl rfl (on_ T_) (by decide) (fun K hK => ?_)
 refine Kd.R_lit_step (Kd.int .u64) _ 22 ?hg (N := 38) ?hd (xs := ([a1_0, a1_1, a1_2, a1_3] : List Int)) (inner := [.int .u64 a1_0, .int .u64 a1_1, .int .u64 a1_2, .int .u64 a1_3]) (ok := fun _ => True) (okp := fun _ => True) ?hr ?hp (fun _ hk => hk) trivial (Below.refl _ _) (Nat.le_refl _) (by simp) ?_; (case hd => rfl); (case hg => rfl); (case hr => first | (go_simp; done) | (go_simp; rfl)); (case hp => exact (Reps.one (show Kd.M (Kd.int .u64) _ _ _ a1_0 [.int .u64 a1_0] from rfl) (Reps.one (show Kd.M (Kd.int .u64) _ _ _ a1_1 [.int .u64 a1_1] from rfl) (Reps.one (show Kd.M (Kd.int .u64) _ _ _ a1_2 [.int .u64 a1_2] from rfl) (Reps.one (show Kd.M (Kd.int .u64) _ _ _ a1_3 [.int .u64 a1_3] from rfl) (Reps.none _ _))))))
 intro v270 w19 ho20 hb hg_ hnew_
 clear hg_ hnew_
 (first | rw [← Ny269.out] at ho20 | (simp only [Int.reduceToNat] at ho20; rw [← Ny269.out] at ho20))
 have n0_ := Aside0.mk (Kd.R_elder' (by (with_reducible repeat (first | apply Kd.R_alloc | apply Kd.R_drewN | apply Kd.R_drew)); exact HO266.out) (Kd.R_base ho20) hb)
 have n1_ := Aside0.mk (Kd.R_lower (Kd.R_new' ho20 (Kd.R_lt (by (with_reducible repeat (first | apply Kd.R_alloc | apply Kd.R_drewN | apply Kd.R_drew)); exact HO266.out))) (below_size (by repeat (first | (with_reducible first | exact HB.out | apply below_alloc | apply pw_below_drewN | apply below_drew1 | refine below_set ?_ GE260.out | refine below_set ?_ GE261.out | refine below_set ?_ GE268.out) | exact HB.out))))
 have n2_ := Aside0.mk (blk_below (g := g260) (o := .cells #[.int .u64 a1_0, .int .u64 a1_1, .int .u64 a1_2, .int .u64 a1_3] 23 (0, 0)) (by (with_reducible repeat first | refine blk_drewN ?_ _ | refine blk_drew ?_ | refine blk_alloc ?_ _); exact B260.out) hb)
 have n3_ := Aside0.mk (blk_below (g := g261) (o := .cells #[.int .u64 0, .int .u64 0, .int .u64 0, .int .u64 0] 23 (0, 0)) (by (with_reducible repeat first | refine blk_drewN ?_ _ | refine blk_drew ?_ | refine blk_alloc ?_ _); exact B261.out) hb)
 have n4_ := Aside0.mk (blk_below (g := g268) (o := .cells #[.int .u64 0, .int .u64 0, .int .u64 0, .int .u64 0] 23 (0, 0)) (by (with_reducible repeat first | refine blk_drewN ?_ _ | refine blk_drew ?_ | refine blk_alloc ?_ _); exact B268.out) hb)
 have n5_ := Aside0.mk (below_step (by repeat (first | (with_reducible first | exact HB.out | apply below_alloc | apply pw_below_drewN | apply below_drew1 | refine below_set ?_ GE260.out | refine below_set ?_ GE261.out | refine below_set ?_ GE268.out) | exact HB.out)) hb)
 clear HO266
 clear B260
 clear B261
 clear B268
 clear HB
 have HO266 := n0_
 have HO271 := n1_
 have B260 := n2_
 have B261 := n3_
 have B268 := n4_
 have HB := n5_
 clear n0_ n1_ n2_ n3_ n4_ n5_
 clear hb ho20
 refine hK.out _ _ ⟨bq_ B260 0, bq_ B260 1, bq_ B260 2, bq_ B260 3⟩ (fun hL => ?_)
 clear hK K
 refine norm_ (a' := ?_) ?_ ?_
 rotate_left
 ·show Act.put _ (some 38) _ = _
  simp only [Act.put, sa_, sb_, sc_, i64_w, i32_w]
  rfl
 refine pure_ (i := 19) (N := some 9) (v := ?_) (a' := ?_) z44_20_ rfl rfl (an_ T_) (fun _ _ _ h => h) (Or.inl ⟨by rfl, ?_⟩) ?_ ?_
 rotate_left; · intro w'; go_simp; with_reducible rfl
 rotate_left; · simp only [Act.put, sa_, sb_, sc_, i64_w, i32_w]; rfl
 refine done_ (done_of T_.out (by kernel_rfl)) ?_
 obtain ⟨Ao21, co21, eo21⟩ := Kd.R_slice HO266.out
 subst eo21
 obtain ⟨Ao22, co22, eo22⟩ := Kd.R_slice HO271.out
 subst eo22
 try go_wp2_with (first | ((with_reducible refine gate_callee (f := 54) rfl ?_); refine goesL_ (some 44) rfl rfl Tryd.func54 (by kernel_rfl) rfl #[.int .i64 a0, .slice Ao21 y264.length co21, .slice Ao22 y269.length co22] rfl (by (try simp only [List.map_toArray, List.map_cons, List.map_nil]); first | done | rfl) ?_; (with_reducible refine (field_Dot.calls k a0 _ _ y264 _ _ y269 t272 _ ?side1 ?side2 ?side3 ?side4 ?side5 A15.out).mono ?_); (case side1 => repeat (first | exact (Kd.R_reads' HO266.out).2.2 | (with_reducible refine Kd.C_alloc ?_ _) | (with_reducible refine Kd.C_drewN ?_ _) | (with_reducible refine Kd.C_drew ?_))); (case side2 => exact (Kd.R_reads' HO266.out).2.1); (case side3 => repeat (first | exact (Kd.R_reads' HO271.out).2.2 | (with_reducible refine Kd.C_alloc ?_ _) | (with_reducible refine Kd.C_drewN ?_ _) | (with_reducible refine Kd.C_drew ?_))); (case side4 => exact (Kd.R_reads' HO271.out).2.1); (case side5 => repeat (first | exact (GL.below HRG.out HB.out) | (with_reducible refine GL.alloc ?_ _) | (with_reducible refine GL.drewN ?_ _) | (with_reducible refine GL.drew ?_))); rintro e w23 ⟨rfl, hb⟩; refine ⟨_, rfl, ?_⟩; have n0_ := Aside0.mk (Kd.R_below (by (with_reducible repeat (first | apply Kd.R_alloc | apply Kd.R_drewN | apply Kd.R_drew)); exact HO266.out) hb); have n1_ := Aside0.mk (Kd.R_below (by (with_reducible repeat (first | apply Kd.R_alloc | apply Kd.R_drewN | apply Kd.R_drew)); exact HO271.out) hb); have n2_ := Aside0.mk (blk_below (g := g260) (o := .cells #[.int .u64 a1_0, .int .u64 a1_1, .int .u64 a1_2, .int .u64 a1_3] 23 (0, 0)) (by (with_reducible repeat first | refine blk_drewN ?_ _ | refine blk_drew ?_ | refine blk_alloc ?_ _); exact B260.out) hb); have n3_ := Aside0.mk (blk_below (g := g261) (o := .cells #[.int .u64 0, .int .u64 0, .int .u64 0, .int .u64 0] 23 (0, 0)) (by (with_reducible repeat first | refine blk_drewN ?_ _ | refine blk_drew ?_ | refine blk_alloc ?_ _); exact B261.out) hb); have n4_ := Aside0.mk (blk_below (g := g268) (o := .cells #[.int .u64 0, .int .u64 0, .int .u64 0, .int .u64 0] 23 (0, 0)) (by (with_reducible repeat first | refine blk_drewN ?_ _ | refine blk_drew ?_ | refine blk_alloc ?_ _); exact B268.out) hb); have n5_ := Aside0.mk (below_step (by repeat (first | (with_reducible first | exact HB.out | apply below_alloc | apply pw_below_drewN | apply below_drew1 | refine below_set ?_ GE260.out | refine below_set ?_ GE261.out | refine below_set ?_ GE268.out) | exact HB.out)) hb); clear HO266; clear HO271; clear B260; clear B261; clear B268; clear HB; have HO266 := n0_; have HO271 := n1_; have B260 := n2_; have B261 := n3_; have B268 := n4_; have HB := n5_; clear n0_ n1_ n2_ n3_ n4_ n5_; (try clear hb); (try clear hb2); (try clear hk); (try clear hi)) | ((with_reducible refine gate_callee (f := 48) rfl ?_); refine goesL_ (some 46) rfl rfl Tryd.func48 (by kernel_rfl) rfl #[.int .i64 a0, .int .u64 t272, .int .u64 t267] rfl (by (try simp only [List.map_toArray, List.map_cons, List.map_nil]); first | done | rfl) ?_; (with_reducible refine (field_Mul.calls a0 t272 t267 t273 _ ?side1 A16.out).mono ?_); (case side1 => repeat (first | exact (GL.below HRG.out HB.out) | (with_reducible refine GL.alloc ?_ _) | (with_reducible refine GL.drewN ?_ _) | (with_reducible refine GL.drew ?_))); rintro e w24 ⟨rfl, hb⟩; refine ⟨_, rfl, ?_⟩; have n0_ := Aside0.mk (Kd.R_below (by (with_reducible repeat (first | apply Kd.R_alloc | apply Kd.R_drewN | apply Kd.R_drew)); exact HO266.out) hb); have n1_ := Aside0.mk (Kd.R_below (by (with_reducible repeat (first | apply Kd.R_alloc | apply Kd.R_drewN | apply Kd.R_drew)); exact HO271.out) hb); have n2_ := Aside0.mk (blk_below (g := g260) (o := .cells #[.int .u64 a1_0, .int .u64 a1_1, .int .u64 a1_2, .int .u64 a1_3] 23 (0, 0)) (by (with_reducible repeat first | refine blk_drewN ?_ _ | refine blk_drew ?_ | refine blk_alloc ?_ _); exact B260.out) hb); have n3_ := Aside0.mk (blk_below (g := g261) (o := .cells #[.int .u64 0, .int .u64 0, .int .u64 0, .int .u64 0] 23 (0, 0)) (by (with_reducible repeat first | refine blk_drewN ?_ _ | refine blk_drew ?_ | refine blk_alloc ?_ _); exact B261.out) hb); have n4_ := Aside0.mk (blk_below (g := g268) (o := .cells #[.int .u64 0, .int .u64 0, .int .u64 0, .int .u64 0] 23 (0, 0)) (by (with_reducible repeat first | refine blk_drewN ?_ _ | refine blk_drew ?_ | refine blk_alloc ?_ _); exact B268.out) hb); have n5_ := Aside0.mk (below_step (by repeat (first | (with_reducible first | exact HB.out | apply below_alloc | apply pw_below_drewN | apply below_drew1 | refine below_set ?_ GE260.out | refine below_set ?_ GE261.out | refine below_set ?_ GE268.out) | exact HB.out)) hb); clear HO266; clear HO271; clear B260; clear B261; clear B268; clear HB; have HO266 := n0_; have HO271 := n1_; have B260 := n2_; have B261 := n3_; have B268 := n4_; have HB := n5_; clear n0_ n1_ n2_ n3_ n4_ n5_; (try clear hb); (try clear hb2); (try clear hk); (try clear hi); have hnb25 := NB268_260.out; have hnc25 := NB260_268.out; have hnb26 := NB268_261.out; have hnc26 := NB261_268.out; have hcz27_0 : w24.cell? ⟨g268, 0, none⟩ = some (.int .u64 0) := bq_ B268 0; have hcz27_1 : w24.cell? ⟨g268, 1, none⟩ = some (.int .u64 0) := bq_ B268 1; have hcz27_2 : w24.cell? ⟨g268, 2, none⟩ = some (.int .u64 0) := bq_ B268 2; have hcz27_3 : w24.cell? ⟨g268, 3, none⟩ = some (.int .u64 0) := bq_ B268 3; have hfz27_0 := blk_frozen B268.out 0; have hfz27_1 := blk_frozen B268.out 1; have hfz27_2 := blk_frozen B268.out 2; have hfz27_3 := blk_frozen B268.out 3))
 rw [rounds_succ]
 have H := HC17.out
 clear HC17
 obtain ⟨y274, hy274⟩ : ∃ y_ : List Int, y_ = (([a1_1, a1_2, a1_3, a1_0] : List Int)) := ⟨_, rfl⟩
 replace H : ((field_Dot.f k a0 y264 y274).bind fun t277 => ((field_Mul.f a0 t277 t267).bind fun t278 => ((field_Dot.f k a0 y264 (([a1_2, a1_3, a1_0, a1_1] : List Int))).bind fun t282 => ((field_Mul.f a0 t282 t267).bind fun t283 => ((field_Dot.f k a0 y264 (([a1_3, a1_0, a1_1, a1_2] : List Int))).bind fun t287 => ((field_Mul.f a0 t287 t267).bind fun t288 => (some (t273, t278, t283, t288)))))))) = some (r1, r2, r3, r4) := by first | (rw [hy274]; with_reducible exact H) | (have H2_ := (Option.bind_some _ _).symm.trans H; rw [hy274]; with_reducible exact H2_) | (have H2_ := (Option.bind_some _ _).symm.trans H; with_reducible exact H2_) | with_reducible exact H | (rw [hy274]; exact H) | exact H
 have Ny274 := Aside0.mk hy274
 clear hy274
 replace H := Option.bind_eq_some_iff.mp H
 obtain ⟨t277, A280, H⟩ := H
 replace H : ((field_Mul.f a0 t277 t267).bind fun t278 => ((field_Dot.f k a0 y264 (([a1_2, a1_3, a1_0, a1_1] : List Int))).bind fun t282 => ((field_Mul.f a0 t282 t267).bind fun t283 => ((field_Dot.f k a0 y264 (([a1_3, a1_0, a1_1, a1_2] : List Int))).bind fun t287 => ((field_Mul.f a0 t287 t267).bind fun t288 => (some (t273, t278, t283, t288))))))) = some (r1, r2, r3, r4) := H
 have A28 := Aside0.mk A280
 clear A280
 replace H := Option.bind_eq_some_iff.mp H
 obtain ⟨t278, A290, H⟩ := H
 replace H : ((field_Dot.f k a0 y264 (([a1_2, a1_3, a1_0, a1_1] : List Int))).bind fun t282 => ((field_Mul.f a0 t282 t267).bind fun t283 => ((field_Dot.f k a0 y264 (([a1_3, a1_0, a1_1, a1_2] : List Int))).bind fun t287 => ((field_Mul.f a0 t287 t267).bind fun t288 => (some (t273, t278, t283, t288)))))) = some (r1, r2, r3, r4) := H
 have A29 := Aside0.mk A290
 clear A290
 have HC30 := Aside0.mk H
 clear H
 try go_wp2
 have n0_ : Aside0 (Kd.R (Kd.int .u64) 22 (w24.setCell ⟨g268, 0, none⟩ (.int .u64 t273)) w.heap.size (fun k_ => some k_ ≠ (.slice Ao22 y269.length co22 : Value).ownBlock) (.slice Ao21 y264.length co21) y264) := ⟨by (with_reducible repeat (first | apply Kd.R_alloc | apply Kd.R_drewN | apply Kd.R_drew)); exact Kd.R_mono (Kd.R_far (p := ⟨g268, 0, none⟩) (Kd.R_types HO266.out B268.out (by decide)) (fun _ hk => hk.2) (.int .u64 t273)) (fun _ hk => hk.1.2)⟩
 have n1_ : Aside0 (Kd.R (Kd.int .u64) 22 (w24.setCell ⟨g268, 0, none⟩ (.int .u64 t273)) w.heap.size (fun k_ => some k_ ≠ (.slice Ao21 y264.length co21 : Value).ownBlock) (.slice Ao22 y269.length co22) y269) := ⟨by (with_reducible repeat (first | apply Kd.R_alloc | apply Kd.R_drewN | apply Kd.R_drew)); exact Kd.R_mono (Kd.R_far (p := ⟨g268, 0, none⟩) (Kd.R_types HO271.out B268.out (by decide)) (fun _ hk => hk.2) (.int .u64 t273)) (fun _ hk => hk.1.2)⟩
 have n2_ : Aside0 ((w24.setCell ⟨g268, 0, none⟩ (.int .u64 t273)).heap[g260]? = some (.cells #[.int .u64 a1_0, .int .u64 a1_1, .int .u64 a1_2, .int .u64 a1_3] 23 (0, 0))) := ⟨by (with_reducible repeat first | refine blk_drewN ?_ _ | refine blk_drew ?_ | refine blk_alloc ?_ _); refine blk_far ?_ NB260_268.out _; (with_reducible repeat first | refine blk_drewN ?_ _ | refine blk_drew ?_ | refine blk_alloc ?_ _); exact B260.out⟩
 have n3_ : Aside0 ((w24.setCell ⟨g268, 0, none⟩ (.int .u64 t273)).heap[g261]? = some (.cells #[.int .u64 0, .int .u64 0, .int .u64 0, .int .u64 0] 23 (0, 0))) := ⟨by (with_reducible repeat first | refine blk_drewN ?_ _ | refine blk_drew ?_ | refine blk_alloc ?_ _); refine blk_far ?_ NB261_268.out _; (with_reducible repeat first | refine blk_drewN ?_ _ | refine blk_drew ?_ | refine blk_alloc ?_ _); exact B261.out⟩
 have n4_ : Aside0 ((w24.setCell ⟨g268, 0, none⟩ (.int .u64 t273)).heap[g268]? = some (.cells #[.int .u64 t273, .int .u64 0, .int .u64 0, .int .u64 0] 23 (0, 0))) := ⟨by (with_reducible repeat first | refine blk_drewN ?_ _ | refine blk_drew ?_ | refine blk_alloc ?_ _); refine blk_put (cs := #[.int .u64 0, .int .u64 0, .int .u64 0, .int .u64 0]) ?_ 0 _ rfl; (with_reducible repeat first | refine blk_drewN ?_ _ | refine blk_drew ?_ | refine blk_alloc ?_ _); exact B268.out⟩
 have n5_ : Aside0 (Below w.heap.size w (w24.setCell ⟨g268, 0, none⟩ (.int .u64 t273))) := ⟨by repeat (first | (with_reducible first | exact HB.out | apply below_alloc | apply pw_below_drewN | apply below_drew1 | refine below_set ?_ GE260.out | refine below_set ?_ GE261.out | refine below_set ?_ GE268.out) | exact HB.out)⟩
 (try clear HO266)
 (try clear HO271)
 (try clear B260)
 (try clear B261)
 (try clear B268)
 (try clear HB)
 generalize (w24.setCell ⟨g268, 0, none⟩ (.int .u64 t273)) = w31 at n0_ n1_ n2_ n3_ n4_ n5_ ⊢
 have HO266 := n0_
 have HO271 := n1_
 have B260 := n2_
 have B261 := n3_
 have B268 := n4_
 have HB := n5_
 clear n0_ n1_ n2_ n3_ n4_ n5_
 have n0_ := Aside0.mk (Kd.R_drew HO266.out)
 have n1_ := Aside0.mk (Kd.R_drew HO271.out)
 have n2_ := Aside0.mk (blk_drew B260.out)
 have n3_ := Aside0.mk (blk_drew B261.out)
 have n4_ := Aside0.mk (blk_drew B268.out)
 have n5_ := Aside0.mk (below_drew1 HB.out)
 clear HO266
 clear HO271
 clear B260
 clear B261
 clear B268
 clear HB
 have HO266 := n0_
 have HO271 := n1_
 have B260 := n2_
 have B261 := n3_
 have B268 := n4_
 have HB := n5_
 clear n0_ n1_ n2_ n3_ n4_ n5_
 refine start_ (n := 20) (S := fun w' => w'.cell? ⟨g260, 0, none⟩ = some (.int .u64 a1_0) ∧ w'.cell? ⟨g260, 1, none⟩ = some (.int .u64 a1_1) ∧ w'.cell? ⟨g260, 2, none⟩ = some (.int .u64 a1_2) ∧ w'.cell? ⟨g260, 3, none⟩ = some (.int .u64 a1_3)) (ds := []) z44_0_ (by kernel_rfl) rfl rfl ⟨bq_ B260 0, bq_ B260 1, bq_ B260 2, bq_ B260 3⟩ (fun hL => ?_); refine with_tabW sponge_gather.tab7 sponge_gather.bits7 (fun T_ W_ => ?_)
 generalize w31.drew = w32 at HO266 HO271 B260 B261 B268 HB hL ⊢
 refine pure_ (i := 0) (N := some 20) (v := ?_) (a' := ?_) z44_1_ rfl rfl (an_ T_) (fun _ _ _ h => h) (Or.inl ⟨by rfl, ?_⟩) ?_ ?_
 rotate_left; · intro w'; go_simp; with_reducible rfl
 rotate_left; · simp only [Act.put, sa_, sb_, sc_, i64_w, i32_w]; rfl
 refine pure_ (i := 1) (N := some 21) (v := ?_) (a' := ?_) z44_2_ rfl rfl (an_ T_) (fun _ _ _ h => h) (Or.inl ⟨by rfl, ?_⟩) ?_ ?_
 rotate_left; · intro w'; go_simp; with_reducible rfl
 rotate_left; · simp only [Act.put, sa_, sb_, sc_, i64_w, i32_w]; rfl
 refine pure_ (i := 3) (N := some 23) (v := ?_) (a' := ?_) z44_3_ rfl rfl (an_ T_) (fun _ _ _ h => h) (Or.inl ⟨by rfl, ?_⟩) ?_ ?_
 rotate_left; · intro w'; go_simp; with_reducible rfl
 rotate_left; · simp only [Act.put, sa_, sb_, sc_, i64_w, i32_w]; rfl
 refine pure_ (i := 4) (N := some 24) (v := ?_) (a' := ?_) z44_4_ rfl rfl (an_ T_) (fun _ _ _ h => h) (Or.inl ⟨by rfl, ?_⟩) ?_ ?_
 rotate_left; · intro w'; go_simp; with_reducible rfl
 rotate_left; · simp only [Act.put, sa_, sb_, sc_, i64_w, i32_w]; rfl
 refine pure_ (i := 5) (N := some 25) (v := ?_) (a' := ?_) z44_5_ rfl rfl (an_ T_) (fun _ _ _ h => h) (Or.inl ⟨by rfl, ?_⟩) ?_ ?_
 rotate_left; · intro w'; go_simp; with_reducible rfl
 rotate_left; · simp only [Act.put, sa_, sb_, sc_, i64_w, i32_w]; rfl
 refine pure_ (i := 6) (N := some 26) (v := ?_) (a' := ?_) z44_6_ rfl rfl (an_ T_) (fun _ _ _ h => h) (Or.inl ⟨by rfl, ?_⟩) ?_ ?_
 rotate_left; · intro w'; go_simp; with_reducible rfl
 rotate_left; · simp only [Act.put, sa_, sb_, sc_, i64_w, i32_w]; rfl
 refine pure_ (i := 8) (N := some 28) (v := ?_) (a' := ?_) z44_7_ rfl rfl (an_ T_) (fun _ _ _ h => h) (Or.inl ⟨by rfl, ?_⟩) ?_ ?_
 rotate_left; · intro w'; go_simp; with_reducible rfl
 rotate_left; · simp only [Act.put, sa_, sb_, sc_, i64_w, i32_w]; rfl
 refine pure_ (i := 9) (N := some 29) (v := ?_) (a' := ?_) z44_8_ rfl rfl (an_ T_) (fun _ _ _ h => h) (Or.inl ⟨by rfl, ?_⟩) ?_ ?_
 rotate_left; · intro w'; go_simp; with_reducible rfl
 rotate_left; · simp only [Act.put, sa_, sb_, sc_, i64_w, i32_w]; rfl
 refine pure_ (i := 10) (N := some 30) (v := ?_) (a' := ?_) z44_9_ rfl rfl (an_ T_) (fun _ _ _ h => h) (Or.inl ⟨by rfl, ?_⟩) ?_ ?_
 rotate_left; · intro w'; go_simp; with_reducible rfl
 rotate_left; · simp only [Act.put, sa_, sb_, sc_, i64_w, i32_w]; rfl
 refine pure_ (i := 11) (N := some 31) (v := ?_) (a' := ?_) z44_10_ rfl rfl (an_ T_) (fun _ _ _ h => h) (Or.inl ⟨by rfl, ?_⟩) ?_ ?_
 rotate_left; · intro w'; go_simp; with_reducible rfl
 rotate_left; · simp only [Act.put, sa_, sb_, sc_, i64_w, i32_w]; rfl
 refine pure_ (i := 13) (N := some 33) (v := ?_) (a' := ?_) z44_11_ rfl rfl (an_ T_) (fun _ _ _ h => h) (Or.inl ⟨by rfl, ?_⟩) ?_ ?_
 rotate_left; · intro w'; go_simp; with_reducible rfl
 rotate_left; · simp only [Act.put, sa_, sb_, sc_, i64_w, i32_w]; rfl
 refine pure_ (i := 14) (N := some 34) (v := ?_) (a' := ?_) z44_12_ rfl rfl (an_ T_) (fun _ _ _ h => h) (Or.inl ⟨by rfl, ?_⟩) ?_ ?_
 rotate_left; · intro w'; go_simp; with_reducible rfl
 rotate_left; · simp only [Act.put, sa_, sb_, sc_, i64_w, i32_w]; rfl
 refine pure_ (i := 15) (N := some 35) (v := ?_) (a' := ?_) z44_13_ rfl rfl (an_ T_) (fun _ _ _ h => h) (Or.inl ⟨by rfl, ?_⟩) ?_ ?_
 rotate_left; · intro w'; go_simp; with_reducible rfl
 rotate_left; · simp only [Act.put, sa_, sb_, sc_, i64_w, i32_w]; rfl
 refine pure_ (i := 16) (N := some 36) (v := ?_) (a' := ?_) z44_14_ rfl rfl (an_ T_) (fun _ _ _ h => h) (Or.inl ⟨by rfl, ?_⟩) ?_ ?_
 rotate_left; · intro w'; go_simp; with_reducible rfl
 rotate_left; · simp only [Act.put, sa_, sb_, sc_, i64_w, i32_w]; rfl
 refine take_ (i := 2) (N := some 22) (v := ?_) (a' := ?_) z44_15_ rfl rfl (tk_ T_ W_) (fun _ _ _ h => h) (Or.inl ⟨by rfl, ?_⟩) hL ?_ ?_
 rotate_left
 ·rintro w' ⟨s0, s1, s2, s3⟩
  go_simp
  with_reducible rfl
 rotate_left
 ·simp only [Act.put, sa_, sb_, sc_, i64_w, i32_w]
  rfl
 refine take_ (i := 7) (N := some 27) (v := ?_) (a' := ?_) z44_16_ rfl rfl (tk_ T_ W_) (fun _ _ _ h => h) (Or.inl ⟨by rfl, ?_⟩) hL ?_ ?_
 rotate_left
 ·rintro w' ⟨s0, s1, s2, s3⟩
  go_simp
  with_reducible rfl
 rotate_left
 ·simp only [Act.put, sa_, sb_, sc_, i64_w, i32_w]
  rfl
 refine take_ (i := 12) (N := some 32) (v := ?_) (a' := ?_) z44_17_ rfl rfl (tk_ T_ W_) (fun _ _ _ h => h) (Or.inl ⟨by rfl, ?_⟩) hL ?_ ?_
 rotate_left
 ·rintro w' ⟨s0, s1, s2, s3⟩
  go_simp
  with_reducible rfl
 rotate_left
 ·simp only [Act.put, sa_, sb_, sc_, i64_w, i32_w]
  rfl
 refine take_ (i := 17) (N := some 37) (v := ?_) (a' := ?_) z44_18_ rfl rfl (tk_ T_ W_) (fun _ _ _ h => h) (Or.inl ⟨by rfl, ?_⟩) hL ?_ ?_
 rotate_left
 ·rintro w' ⟨s0, s1, s2, s3⟩
  go_simp
  with_reducible rfl
 rotate_left
 ·simp only [Act.put, sa_, sb_, sc_, i64_w, i32_w]
  rfl
 refine one_ (i := 18) (N := some 38) z44_19_ rfl rfl (on_ T_) (by decide) (fun K hK => ?_)
 refine Kd.R_lit_step (Kd.int .u64) _ 22 ?hg (N := 38) ?hd (xs := ([a1_1, a1_2, a1_3, a1_0] : List Int)) (inner := [.int .u64 a1_1, .int .u64 a1_2, .int .u64 a1_3, .int .u64 a1_0]) (ok := fun _ => True) (okp := fun _ => True) ?hr ?hp (fun _ hk => hk) trivial (Below.refl _ _) (Nat.le_refl _) (by simp) ?_; (case hd => rfl); (case hg => rfl); (case hr => first | (go_simp; done) | (go_simp; rfl)); (case hp => exact (Reps.one (show Kd.M (Kd.int .u64) _ _ _ a1_1 [.int .u64 a1_1] from rfl) (Reps.one (show Kd.M (Kd.int .u64) _ _ _ a1_2 [.int .u64 a1_2] from rfl) (Reps.one (show Kd.M (Kd.int .u64) _ _ _ a1_3 [.int .u64 a1_3] from rfl) (Reps.one (show Kd.M (Kd.int .u64) _ _ _ a1_0 [.int .u64 a1_0] from rfl) (Reps.none _ _))))))
 intro v275 w33 ho34 hb hg_ hnew_
 clear hg_ hnew_
 (first | rw [← Ny274.out] at ho34 | (simp only [Int.reduceToNat] at ho34; rw [← Ny274.out] at ho34))
 have n0_ := Aside0.mk (Kd.R_elder' (by (with_reducible repeat (first | apply Kd.R_alloc | apply Kd.R_drewN | apply Kd.R_drew)); exact HO266.out) (Kd.R_base ho34) hb)
 have n1_ := Aside0.mk (Kd.R_elder' (by (with_reducible repeat (first | apply Kd.R_alloc | apply Kd.R_drewN | apply Kd.R_drew)); exact HO271.out) (Kd.R_base ho34) hb)
 have n2_ := Aside0.mk (Kd.R_lower (Kd.R_new' (Kd.R_new' ho34 (Kd.R_lt (by (with_reducible repeat (first | apply Kd.R_alloc | apply Kd.R_drewN | apply Kd.R_drew)); exact HO266.out))) (Kd.R_lt (by (with_reducible repeat (first | apply Kd.R_alloc | apply Kd.R_drewN | apply Kd.R_drew)); exact HO271.out))) (below_size (by repeat (first | (with_reducible first | exact HB.out | apply below_alloc | apply pw_below_drewN | apply below_drew1 | refine below_set ?_ GE260.out | refine below_set ?_ GE261.out | refine below_set ?_ GE268.out) | exact HB.out))))
 have n3_ := Aside0.mk (blk_below (g := g260) (o := .cells #[.int .u64 a1_0, .int .u64 a1_1, .int .u64 a1_2, .int .u64 a1_3] 23 (0, 0)) (by (with_reducible repeat first | refine blk_drewN ?_ _ | refine blk_drew ?_ | refine blk_alloc ?_ _); exact B260.out) hb)
 have n4_ := Aside0.mk (blk_below (g := g261) (o := .cells #[.int .u64 0, .int .u64 0, .int .u64 0, .int .u64 0] 23 (0, 0)) (by (with_reducible repeat first | refine blk_drewN ?_ _ | refine blk_drew ?_ | refine blk_alloc ?_ _); exact B261.out) hb)
 have n5_ := Aside0.mk (blk_below (g := g268) (o := .cells #[.int .u64 t273, .int .u64 0, .int .u64 0, .int .u64 0] 23 (0, 0)) (by (with_reducible repeat first | refine blk_drewN ?_ _ | refine blk_drew ?_ | refine blk_alloc ?_ _); exact B268.out) hb)
 have n6_ := Aside0.mk (below_step (by repeat (first | (with_reducible first | exact HB.out | apply below_alloc | apply pw_below_drewN | apply below_drew1 | refine below_set ?_ GE260.out | refine below_set ?_ GE261.out | refine below_set ?_ GE268.out) | exact HB.out)) hb)
 clear HO266
 clear HO271
 clear B260
 clear B261
 clear B268
 clear HB
 have HO266 := n0_
 have HO271 := n1_
 have HO276 := n2_
 have B260 := n3_
 have B261 := n4_
 have B268 := n5_
 have HB := n6_
 clear n0_ n1_ n2_ n3_ n4_ n5_ n6_
 clear hb ho34
 refine hK.out _ _ ⟨bq_ B260 0, bq_ B260 1, bq_ B260 2, bq_ B260 3⟩ (fun hL => ?_)
 clear hK K
 refine norm_ (a' := ?_) ?_ ?_
 rotate_left
 ·show Act.put _ (some 38) _ = _
  simp only [Act.put, sa_, sb_, sc_, i64_w, i32_w]
  rfl
 refine pure_ (i := 19) (N := some 9) (v := ?_) (a' := ?_) z44_20_ rfl rfl (an_ T_) (fun _ _ _ h => h) (Or.inl ⟨by rfl, ?_⟩) ?_ ?_
 rotate_left; · intro w'; go_simp; with_reducible rfl
 rotate_left; · simp only [Act.put, sa_, sb_, sc_, i64_w, i32_w]; rfl
 refine done_ (done_of T_.out (by kernel_rfl)) ?_
 obtain ⟨Ao35, co35, eo35⟩ := Kd.R_slice HO276.out
 subst eo35
 try go_wp2_with (first | ((with_reducible refine gate_callee (f := 54) rfl ?_); refine goesL_ (some 44) rfl rfl Tryd.func54 (by kernel_rfl) rfl #[.int .i64 a0, .slice Ao21 y264.length co21, .slice Ao35 y274.length co35] rfl (by (try simp only [List.map_toArray, List.map_cons, List.map_nil]); first | done | rfl) ?_; (with_reducible refine (field_Dot.calls k a0 _ _ y264 _ _ y274 t277 _ ?side1 ?side2 ?side3 ?side4 ?side5 A28.out).mono ?_); (case side1 => repeat (first | exact (Kd.R_reads' HO266.out).2.2 | (with_reducible refine Kd.C_alloc ?_ _) | (with_reducible refine Kd.C_drewN ?_ _) | (with_reducible refine Kd.C_drew ?_))); (case side2 => exact (Kd.R_reads' HO266.out).2.1); (case side3 => repeat (first | exact (Kd.R_reads' HO276.out).2.2 | (with_reducible refine Kd.C_alloc ?_ _) | (with_reducible refine Kd.C_drewN ?_ _) | (with_reducible refine Kd.C_drew ?_))); (case side4 => exact (Kd.R_reads' HO276.out).2.1); (case side5 => repeat (first | exact (GL.below HRG.out HB.out) | (with_reducible refine GL.alloc ?_ _) | (with_reducible refine GL.drewN ?_ _) | (with_reducible refine GL.drew ?_))); rintro e w36 ⟨rfl, hb⟩; refine ⟨_, rfl, ?_⟩; have n0_ := Aside0.mk (Kd.R_below (by (with_reducible repeat (first | apply Kd.R_alloc | apply Kd.R_drewN | apply Kd.R_drew)); exact HO266.out) hb); have n1_ := Aside0.mk (Kd.R_below (by (with_reducible repeat (first | apply Kd.R_alloc | apply Kd.R_drewN | apply Kd.R_drew)); exact HO271.out) hb); have n2_ := Aside0.mk (Kd.R_below (by (with_reducible repeat (first | apply Kd.R_alloc | apply Kd.R_drewN | apply Kd.R_drew)); exact HO276.out) hb); have n3_ := Aside0.mk (blk_below (g := g260) (o := .cells #[.int .u64 a1_0, .int .u64 a1_1, .int .u64 a1_2, .int .u64 a1_3] 23 (0, 0)) (by (with_reducible repeat first | refine blk_drewN ?_ _ | refine blk_drew ?_ | refine blk_alloc ?_ _); exact B260.out) hb); have n4_ := Aside0.mk (blk_below (g := g261) (o := .cells #[.int .u64 0, .int .u64 0, .int .u64 0, .int .u64 0] 23 (0, 0)) (by (with_reducible repeat first | refine blk_drewN ?_ _ | refine blk_drew ?_ | refine blk_alloc ?_ _); exact B261.out) hb); have n5_ := Aside0.mk (blk_below (g := g268) (o := .cells #[.int .u64 t273, .int .u64 0, .int .u64 0, .int .u64 0] 23 (0, 0)) (by (with_reducible repeat first | refine blk_drewN ?_ _ | refine blk_drew ?_ | refine blk_alloc ?_ _); exact B268.out) hb); have n6_ := Aside0.mk (below_step (by repeat (first | (with_reducible first | exact HB.out | apply below_alloc | apply pw_below_drewN | apply below_drew1 | refine below_set ?_ GE260.out | refine below_set ?_ GE261.out | refine below_set ?_ GE268.out) | exact HB.out)) hb); clear HO266; clear HO271; clear HO276; clear B260; clear B261; clear B268; clear HB; have HO266 := n0_; have HO271 := n1_; have HO276 := n2_; have B260 := n3_; have B261 := n4_; have B268 := n5_; have HB := n6_; clear n0_ n1_ n2_ n3_ n4_ n5_ n6_; (try clear hb); (try clear hb2); (try clear hk); (try clear hi)) | ((with_reducible refine gate_callee (f := 48) rfl ?_); refine goesL_ (some 46) rfl rfl Tryd.func48 (by kernel_rfl) rfl #[.int .i64 a0, .int .u64 t277, .int .u64 t267] rfl (by (try simp only [List.map_toArray, List.map_cons, List.map_nil]); first | done | rfl) ?_; (with_reducible refine (field_Mul.calls a0 t277 t267 t278 _ ?side1 A29.out).mono ?_); (case side1 => repeat (first | exact (GL.below HRG.out HB.out) | (with_reducible refine GL.alloc ?_ _) | (with_reducible refine GL.drewN ?_ _) | (with_reducible refine GL.drew ?_))); rintro e w37 ⟨rfl, hb⟩; refine ⟨_, rfl, ?_⟩; have n0_ := Aside0.mk (Kd.R_below (by (with_reducible repeat (first | apply Kd.R_alloc | apply Kd.R_drewN | apply Kd.R_drew)); exact HO266.out) hb); have n1_ := Aside0.mk (Kd.R_below (by (with_reducible repeat (first | apply Kd.R_alloc | apply Kd.R_drewN | apply Kd.R_drew)); exact HO271.out) hb); have n2_ := Aside0.mk (Kd.R_below (by (with_reducible repeat (first | apply Kd.R_alloc | apply Kd.R_drewN | apply Kd.R_drew)); exact HO276.out) hb); have n3_ := Aside0.mk (blk_below (g := g260) (o := .cells #[.int .u64 a1_0, .int .u64 a1_1, .int .u64 a1_2, .int .u64 a1_3] 23 (0, 0)) (by (with_reducible repeat first | refine blk_drewN ?_ _ | refine blk_drew ?_ | refine blk_alloc ?_ _); exact B260.out) hb); have n4_ := Aside0.mk (blk_below (g := g261) (o := .cells #[.int .u64 0, .int .u64 0, .int .u64 0, .int .u64 0] 23 (0, 0)) (by (with_reducible repeat first | refine blk_drewN ?_ _ | refine blk_drew ?_ | refine blk_alloc ?_ _); exact B261.out) hb); have n5_ := Aside0.mk (blk_below (g := g268) (o := .cells #[.int .u64 t273, .int .u64 0, .int .u64 0, .int .u64 0] 23 (0, 0)) (by (with_reducible repeat first | refine blk_drewN ?_ _ | refine blk_drew ?_ | refine blk_alloc ?_ _); exact B268.out) hb); have n6_ := Aside0.mk (below_step (by repeat (first | (with_reducible first | exact HB.out | apply below_alloc | apply pw_below_drewN | apply below_drew1 | refine below_set ?_ GE260.out | refine below_set ?_ GE261.out | refine below_set ?_ GE268.out) | exact HB.out)) hb); clear HO266; clear HO271; clear HO276; clear B260; clear B261; clear B268; clear HB; have HO266 := n0_; have HO271 := n1_; have HO276 := n2_; have B260 := n3_; have B261 := n4_; have B268 := n5_; have HB := n6_; clear n0_ n1_ n2_ n3_ n4_ n5_ n6_; (try clear hb); (try clear hb2); (try clear hk); (try clear hi); have hnb38 := NB268_260.out; have hnc38 := NB260_268.out; have hnb39 := NB268_261.out; have hnc39 := NB261_268.out; have hcz40_0 : w37.cell? ⟨g268, 0, none⟩ = some (.int .u64 t273) := bq_ B268 0; have hcz40_1 : w37.cell? ⟨g268, 1, none⟩ = some (.int .u64 0) := bq_ B268 1; have hcz40_2 : w37.cell? ⟨g268, 2, none⟩ = some (.int .u64 0) := bq_ B268 2; have hcz40_3 : w37.cell? ⟨g268, 3, none⟩ = some (.int .u64 0) := bq_ B268 3; have hfz40_0 := blk_frozen B268.out 0; have hfz40_1 := blk_frozen B268.out 1; have hfz40_2 := blk_frozen B268.out 2; have hfz40_3 := blk_frozen B268.out 3))
 rw [rounds_succ]
 have H := HC30.out
 clear HC30
 obtain ⟨y279, hy279⟩ : ∃ y_ : List Int, y_ = (([a1_2, a1_3, a1_0, a1_1] : List Int)) := ⟨_, rfl⟩
 replace H : ((field_Dot.f k a0 y264 y279).bind fun t282 => ((field_Mul.f a0 t282 t267).bind fun t283 => ((field_Dot.f k a0 y264 (([a1_3, a1_0, a1_1, a1_2] : List Int))).bind fun t287 => ((field_Mul.f a0 t287 t267).bind fun t288 => (some (t273, t278, t283, t288)))))) = some (r1, r2, r3, r4) := by first | (rw [hy279]; with_reducible exact H) | (have H2_ := (Option.bind_some _ _).symm.trans H; rw [hy279]; with_reducible exact H2_) | (have H2_ := (Option.bind_some _ _).symm.trans H; with_reducible exact H2_) | with_reducible exact H | (rw [hy279]; exact H) | exact H
 have Ny279 := Aside0.mk hy279
 clear hy279
 replace H := Option.bind_eq_some_iff.mp H
 obtain ⟨t282, A410, H⟩ := H
 replace H : ((field_Mul.f a0 t282 t267).bind fun t283 => ((field_Dot.f k a0 y264 (([a1_3, a1_0, a1_1, a1_2] : List Int))).bind fun t287 => ((field_Mul.f a0 t287 t267).bind fun t288 => (some (t273, t278, t283, t288))))) = some (r1, r2, r3, r4) := H
 have A41 := Aside0.mk A410
 clear A410
 replace H := Option.bind_eq_some_iff.mp H
 obtain ⟨t283, A420, H⟩ := H
 replace H : ((field_Dot.f k a0 y264 (([a1_3, a1_0, a1_1, a1_2] : List Int))).bind fun t287 => ((field_Mul.f a0 t287 t267).bind fun t288 => (some (t273, t278, t283, t288)))) = some (r1, r2, r3, r4) := H
 have A42 := Aside0.mk A420
 clear A420
 have HC43 := Aside0.mk H
 clear H
 try go_wp2
 have n0_ : Aside0 (Kd.R (Kd.int .u64) 22 (w37.setCell ⟨g268, 1, none⟩ (.int .u64 t278)) w.heap.size (fun k_ => some k_ ≠ (.slice Ao22 y269.length co22 : Value).ownBlock ∧ some k_ ≠ (.slice Ao35 y274.length co35 : Value).ownBlock) (.slice Ao21 y264.length co21) y264) := ⟨by (with_reducible repeat (first | apply Kd.R_alloc | apply Kd.R_drewN | apply Kd.R_drew)); exact Kd.R_mono (Kd.R_far (p := ⟨g268, 1, none⟩) (Kd.R_types HO266.out B268.out (by decide)) (fun _ hk => hk.2) (.int .u64 t278)) (fun _ hk => ⟨hk.1.1, hk.1.2⟩)⟩
 have n1_ : Aside0 (Kd.R (Kd.int .u64) 22 (w37.setCell ⟨g268, 1, none⟩ (.int .u64 t278)) w.heap.size (fun k_ => some k_ ≠ (.slice Ao21 y264.length co21 : Value).ownBlock ∧ some k_ ≠ (.slice Ao35 y274.length co35 : Value).ownBlock) (.slice Ao22 y269.length co22) y269) := ⟨by (with_reducible repeat (first | apply Kd.R_alloc | apply Kd.R_drewN | apply Kd.R_drew)); exact Kd.R_mono (Kd.R_far (p := ⟨g268, 1, none⟩) (Kd.R_types HO271.out B268.out (by decide)) (fun _ hk => hk.2) (.int .u64 t278)) (fun _ hk => ⟨hk.1.1, hk.1.2⟩)⟩
 have n2_ : Aside0 (Kd.R (Kd.int .u64) 22 (w37.setCell ⟨g268, 1, none⟩ (.int .u64 t278)) w.heap.size (fun k_ => some k_ ≠ (.slice Ao21 y264.length co21 : Value).ownBlock ∧ some k_ ≠ (.slice Ao22 y269.length co22 : Value).ownBlock) (.slice Ao35 y274.length co35) y274) := ⟨by (with_reducible repeat (first | apply Kd.R_alloc | apply Kd.R_drewN | apply Kd.R_drew)); exact Kd.R_mono (Kd.R_far (p := ⟨g268, 1, none⟩) (Kd.R_types HO276.out B268.out (by decide)) (fun _ hk => hk.2) (.int .u64 t278)) (fun _ hk => ⟨hk.1.1.2, hk.1.2⟩)⟩
 have n3_ : Aside0 ((w37.setCell ⟨g268, 1, none⟩ (.int .u64 t278)).heap[g260]? = some (.cells #[.int .u64 a1_0, .int .u64 a1_1, .int .u64 a1_2, .int .u64 a1_3] 23 (0, 0))) := ⟨by (with_reducible repeat first | refine blk_drewN ?_ _ | refine blk_drew ?_ | refine blk_alloc ?_ _); refine blk_far ?_ NB260_268.out _; (with_reducible repeat first | refine blk_drewN ?_ _ | refine blk_drew ?_ | refine blk_alloc ?_ _); exact B260.out⟩
 have n4_ : Aside0 ((w37.setCell ⟨g268, 1, none⟩ (.int .u64 t278)).heap[g261]? = some (.cells #[.int .u64 0, .int .u64 0, .int .u64 0, .int .u64 0] 23 (0, 0))) := ⟨by (with_reducible repeat first | refine blk_drewN ?_ _ | refine blk_drew ?_ | refine blk_alloc ?_ _); refine blk_far ?_ NB261_268.out _; (with_reducible repeat first | refine blk_drewN ?_ _ | refine blk_drew ?_ | refine blk_alloc ?_ _); exact B261.out⟩
 have n5_ : Aside0 ((w37.setCell ⟨g268, 1, none⟩ (.int .u64 t278)).heap[g268]? = some (.cells #[.int .u64 t273, .int .u64 t278, .int .u64 0, .int .u64 0] 23 (0, 0))) := ⟨by (with_reducible repeat first | refine blk_drewN ?_ _ | refine blk_drew ?_ | refine blk_alloc ?_ _); refine blk_put (cs := #[.int .u64 t273, .int .u64 0, .int .u64 0, .int .u64 0]) ?_ 1 _ rfl; (with_reducible repeat first | refine blk_drewN ?_ _ | refine blk_drew ?_ | refine blk_alloc ?_ _); exact B268.out⟩
 have n6_ : Aside0 (Below w.heap.size w (w37.setCell ⟨g268, 1, none⟩ (.int .u64 t278))) := ⟨by repeat (first | (with_reducible first | exact HB.out | apply below_alloc | apply pw_below_drewN | apply below_drew1 | refine below_set ?_ GE260.out | refine below_set ?_ GE261.out | refine below_set ?_ GE268.out) | exact HB.out)⟩
 (try clear HO266)
 (try clear HO271)
 (try clear HO276)
 (try clear B260)
 (try clear B261)
 (try clear B268)
 (try clear HB)
 generalize (w37.setCell ⟨g268, 1, none⟩ (.int .u64 t278)) = w44 at n0_ n1_ n2_ n3_ n4_ n5_ n6_ ⊢
 have HO266 := n0_
 have HO271 := n1_
 have HO276 := n2_
 have B260 := n3_
 have B261 := n4_
 have B268 := n5_
 have HB := n6_
 clear n0_ n1_ n2_ n3_ n4_ n5_ n6_
 have n0_ := Aside0.mk (Kd.R_drew HO266.out)
 have n1_ := Aside0.mk (Kd.R_drew HO271.out)
 have n2_ := Aside0.mk (Kd.R_drew HO276.out)
 have n3_ := Aside0.mk (blk_drew B260.out)
 have n4_ := Aside0.mk (blk_drew B261.out)
 have n5_ := Aside0.mk (blk_drew B268.out)
 have n6_ := Aside0.mk (below_drew1 HB.out)
 clear HO266
 clear HO271
 clear HO276
 clear B260
 clear B261
 clear B268
 clear HB
 have HO266 := n0_
 have HO271 := n1_
 have HO276 := n2_
 have B260 := n3_
 have B261 := n4_
 have B268 := n5_
 have HB := n6_
 clear n0_ n1_ n2_ n3_ n4_ n5_ n6_
 refine start_ (n := 20) (S := fun w' => w'.cell? ⟨g260, 0, none⟩ = some (.int .u64 a1_0) ∧ w'.cell? ⟨g260, 1, none⟩ = some (.int .u64 a1_1) ∧ w'.cell? ⟨g260, 2, none⟩ = some (.int .u64 a1_2) ∧ w'.cell? ⟨g260, 3, none⟩ = some (.int .u64 a1_3)) (ds := []) z44_0_ (by kernel_rfl) rfl rfl ⟨bq_ B260 0, bq_ B260 1, bq_ B260 2, bq_ B260 3⟩ (fun hL => ?_); refine with_tabW sponge_gather.tab7 sponge_gather.bits7 (fun T_ W_ => ?_)
 generalize w44.drew = w45 at HO266 HO271 HO276 B260 B261 B268 HB hL ⊢
 refine pure_ (i := 0) (N := some 20) (v := ?_) (a' := ?_) z44_1_ rfl rfl (an_ T_) (fun _ _ _ h => h) (Or.inl ⟨by rfl, ?_⟩) ?_ ?_
 rotate_left; · intro w'; go_simp; with_reducible rfl
 rotate_left; · simp only [Act.put, sa_, sb_, sc_, i64_w, i32_w]; rfl
 refine pure_ (i := 1) (N := some 21) (v := ?_) (a' := ?_) z44_2_ rfl rfl (an_ T_) (fun _ _ _ h => h) (Or.inl ⟨by rfl, ?_⟩) ?_ ?_
 rotate_left; · intro w'; go_simp; with_reducible rfl
 rotate_left; · simp only [Act.put, sa_, sb_, sc_, i64_w, i32_w]; rfl
 refine pure_ (i := 3) (N := some 23) (v := ?_) (a' := ?_) z44_3_ rfl rfl (an_ T_) (fun _ _ _ h => h) (Or.inl ⟨by rfl, ?_⟩) ?_ ?_
 rotate_left; · intro w'; go_simp; with_reducible rfl
 rotate_left; · simp only [Act.put, sa_, sb_, sc_, i64_w, i32_w]; rfl
 refine pure_ (i := 4) (N := some 24) (v := ?_) (a' := ?_) z44_4_ rfl rfl (an_ T_) (fun _ _ _ h => h) (Or.inl ⟨by rfl, ?_⟩) ?_ ?_
 rotate_left; · intro w'; go_simp; with_reducible rfl
 rotate_left; · simp only [Act.put, sa_, sb_, sc_, i64_w, i32_w]; rfl
 refine pure_ (i := 5) (N := some 25) (v := ?_) (a' := ?_) z44_5_ rfl rfl (an_ T_) (fun _ _ _ h => h) (Or.inl ⟨by rfl, ?_⟩) ?_ ?_
 rotate_left; · intro w'; go_simp; with_reducible rfl
 rotate_left; · simp only [Act.put, sa_, sb_, sc_, i64_w, i32_w]; rfl
 refine pure_ (i := 6) (N := some 26) (v := ?_) (a' := ?_) z44_6_ rfl rfl (an_ T_) (fun _ _ _ h => h) (Or.inl ⟨by rfl, ?_⟩) ?_ ?_
 rotate_left; · intro w'; go_simp; with_reducible rfl
 rotate_left; · simp only [Act.put, sa_, sb_, sc_, i64_w, i32_w]; rfl
 refine pure_ (i := 8) (N := some 28) (v := ?_) (a' := ?_) z44_7_ rfl rfl (an_ T_) (fun _ _ _ h => h) (Or.inl ⟨by rfl, ?_⟩) ?_ ?_
 rotate_left; · intro w'; go_simp; with_reducible rfl
 rotate_left; · simp only [Act.put, sa_, sb_, sc_, i64_w, i32_w]; rfl
 refine pure_ (i := 9) (N := some 29) (v := ?_) (a' := ?_) z44_8_ rfl rfl (an_ T_) (fun _ _ _ h => h) (Or.inl ⟨by rfl, ?_⟩) ?_ ?_
 rotate_left; · intro w'; go_simp; with_reducible rfl
 rotate_left; · simp only [Act.put, sa_, sb_, sc_, i64_w, i32_w]; rfl
 refine pure_ (i := 10) (N := some 30) (v := ?_) (a' := ?_) z44_9_ rfl rfl (an_ T_) (fun _ _ _ h => h) (Or.inl ⟨by rfl, ?_⟩) ?_ ?_
 rotate_left; · intro w'; go_simp; with_reducible rfl
 rotate_left; · simp only [Act.put, sa_, sb_, sc_, i64_w, i32_w]; rfl
 refine pure_ (i := 11) (N := some 31) (v := ?_) (a' := ?_) z44_10_ rfl rfl (an_ T_) (fun _ _ _ h => h) (Or.inl ⟨by rfl, ?_⟩) ?_ ?_
 rotate_left; · intro w'; go_simp; with_reducible rfl
 rotate_left; · simp only [Act.put, sa_, sb_, sc_, i64_w, i32_w]; rfl
 refine pure_ (i := 13) (N := some 33) (v := ?_) (a' := ?_) z44_11_ rfl rfl (an_ T_) (fun _ _ _ h => h) (Or.inl ⟨by rfl, ?_⟩) ?_ ?_
 rotate_left; · intro w'; go_simp; with_reducible rfl
 rotate_left; · simp only [Act.put, sa_, sb_, sc_, i64_w, i32_w]; rfl
 refine pure_ (i := 14) (N := some 34) (v := ?_) (a' := ?_) z44_12_ rfl rfl (an_ T_) (fun _ _ _ h => h) (Or.inl ⟨by rfl, ?_⟩) ?_ ?_
 rotate_left; · intro w'; go_simp; with_reducible rfl
 rotate_left; · simp only [Act.put, sa_, sb_, sc_, i64_w, i32_w]; rfl
 refine pure_ (i := 15) (N := some 35) (v := ?_) (a' := ?_) z44_13_ rfl rfl (an_ T_) (fun _ _ _ h => h) (Or.inl ⟨by rfl, ?_⟩) ?_ ?_
 rotate_left; · intro w'; go_simp; with_reducible rfl
 rotate_left; · simp only [Act.put, sa_, sb_, sc_, i64_w, i32_w]; rfl
 refine pure_ (i := 16) (N := some 36) (v := ?_) (a' := ?_) z44_14_ rfl rfl (an_ T_) (fun _ _ _ h => h) (Or.inl ⟨by rfl, ?_⟩) ?_ ?_
 rotate_left; · intro w'; go_simp; with_reducible rfl
 rotate_left; · simp only [Act.put, sa_, sb_, sc_, i64_w, i32_w]; rfl
 refine take_ (i := 2) (N := some 22) (v := ?_) (a' := ?_) z44_15_ rfl rfl (tk_ T_ W_) (fun _ _ _ h => h) (Or.inl ⟨by rfl, ?_⟩) hL ?_ ?_
 rotate_left
 ·rintro w' ⟨s0, s1, s2, s3⟩
  go_simp
  with_reducible rfl
 rotate_left
 ·simp only [Act.put, sa_, sb_, sc_, i64_w, i32_w]
  rfl
 refine take_ (i := 7) (N := some 27) (v := ?_) (a' := ?_) z44_16_ rfl rfl (tk_ T_ W_) (fun _ _ _ h => h) (Or.inl ⟨by rfl, ?_⟩) hL ?_ ?_
 rotate_left
 ·rintro w' ⟨s0, s1, s2, s3⟩
  go_simp
  with_reducible rfl
 rotate_left
 ·simp only [Act.put, sa_, sb_, sc_, i64_w, i32_w]
  rfl
 refine take_ (i := 12) (N := some 32) (v := ?_) (a' := ?_) z44_17_ rfl rfl (tk_ T_ W_) (fun _ _ _ h => h) (Or.inl ⟨by rfl, ?_⟩) hL ?_ ?_
 rotate_left
 ·rintro w' ⟨s0, s1, s2, s3⟩
  go_simp
  with_reducible rfl
 rotate_left
 ·simp only [Act.put, sa_, sb_, sc_, i64_w, i32_w]
  rfl
 refine take_ (i := 17) (N := some 37) (v := ?_) (a' := ?_) z44_18_ rfl rfl (tk_ T_ W_) (fun _ _ _ h => h) (Or.inl ⟨by rfl, ?_⟩) hL ?_ ?_
 rotate_left
 ·rintro w' ⟨s0, s1, s2, s3⟩
  go_simp
  with_reducible rfl
 rotate_left
 ·simp only [Act.put, sa_, sb_, sc_, i64_w, i32_w]
  rfl
 refine one_ (i := 18) (N := some 38) z44_19_ rfl rfl (on_ T_) (by decide) (fun K hK => ?_)
 refine Kd.R_lit_step (Kd.int .u64) _ 22 ?hg (N := 38) ?hd (xs := ([a1_2, a1_3, a1_0, a1_1] : List Int)) (inner := [.int .u64 a1_2, .int .u64 a1_3, .int .u64 a1_0, .int .u64 a1_1]) (ok := fun _ => True) (okp := fun _ => True) ?hr ?hp (fun _ hk => hk) trivial (Below.refl _ _) (Nat.le_refl _) (by simp) ?_; (case hd => rfl); (case hg => rfl); (case hr => first | (go_simp; done) | (go_simp; rfl)); (case hp => exact (Reps.one (show Kd.M (Kd.int .u64) _ _ _ a1_2 [.int .u64 a1_2] from rfl) (Reps.one (show Kd.M (Kd.int .u64) _ _ _ a1_3 [.int .u64 a1_3] from rfl) (Reps.one (show Kd.M (Kd.int .u64) _ _ _ a1_0 [.int .u64 a1_0] from rfl) (Reps.one (show Kd.M (Kd.int .u64) _ _ _ a1_1 [.int .u64 a1_1] from rfl) (Reps.none _ _))))))
 intro v280 w46 ho47 hb hg_ hnew_
 clear hg_ hnew_
 (first | rw [← Ny279.out] at ho47 | (simp only [Int.reduceToNat] at ho47; rw [← Ny279.out] at ho47))
 have n0_ := Aside0.mk (Kd.R_elder' (by (with_reducible repeat (first | apply Kd.R_alloc | apply Kd.R_drewN | apply Kd.R_drew)); exact HO266.out) (Kd.R_base ho47) hb)
 have n1_ := Aside0.mk (Kd.R_elder' (by (with_reducible repeat (first | apply Kd.R_alloc | apply Kd.R_drewN | apply Kd.R_drew)); exact HO271.out) (Kd.R_base ho47) hb)
 have n2_ := Aside0.mk (Kd.R_elder' (by (with_reducible repeat (first | apply Kd.R_alloc | apply Kd.R_drewN | apply Kd.R_drew)); exact HO276.out) (Kd.R_base ho47) hb)
 have n3_ := Aside0.mk (Kd.R_lower (Kd.R_new' (Kd.R_new' (Kd.R_new' ho47 (Kd.R_lt (by (with_reducible repeat (first | apply Kd.R_alloc | apply Kd.R_drewN | apply Kd.R_drew)); exact HO266.out))) (Kd.R_lt (by (with_reducible repeat (first | apply Kd.R_alloc | apply Kd.R_drewN | apply Kd.R_drew)); exact HO271.out))) (Kd.R_lt (by (with_reducible repeat (first | apply Kd.R_alloc | apply Kd.R_drewN | apply Kd.R_drew)); exact HO276.out))) (below_size (by repeat (first | (with_reducible first | exact HB.out | apply below_alloc | apply pw_below_drewN | apply below_drew1 | refine below_set ?_ GE260.out | refine below_set ?_ GE261.out | refine below_set ?_ GE268.out) | exact HB.out))))
 have n4_ := Aside0.mk (blk_below (g := g260) (o := .cells #[.int .u64 a1_0, .int .u64 a1_1, .int .u64 a1_2, .int .u64 a1_3] 23 (0, 0)) (by (with_reducible repeat first | refine blk_drewN ?_ _ | refine blk_drew ?_ | refine blk_alloc ?_ _); exact B260.out) hb)
 have n5_ := Aside0.mk (blk_below (g := g261) (o := .cells #[.int .u64 0, .int .u64 0, .int .u64 0, .int .u64 0] 23 (0, 0)) (by (with_reducible repeat first | refine blk_drewN ?_ _ | refine blk_drew ?_ | refine blk_alloc ?_ _); exact B261.out) hb)
 have n6_ := Aside0.mk (blk_below (g := g268) (o := .cells #[.int .u64 t273, .int .u64 t278, .int .u64 0, .int .u64 0] 23 (0, 0)) (by (with_reducible repeat first | refine blk_drewN ?_ _ | refine blk_drew ?_ | refine blk_alloc ?_ _); exact B268.out) hb)
 have n7_ := Aside0.mk (below_step (by repeat (first | (with_reducible first | exact HB.out | apply below_alloc | apply pw_below_drewN | apply below_drew1 | refine below_set ?_ GE260.out | refine below_set ?_ GE261.out | refine below_set ?_ GE268.out) | exact HB.out)) hb)
 clear HO266
 clear HO271
 clear HO276
 clear B260
 clear B261
 clear B268
 clear HB
 have HO266 := n0_
 have HO271 := n1_
 have HO276 := n2_
 have HO281 := n3_
 have B260 := n4_
 have B261 := n5_
 have B268 := n6_
 have HB := n7_
 clear n0_ n1_ n2_ n3_ n4_ n5_ n6_ n7_
 clear hb ho47
 refine hK.out _ _ ⟨bq_ B260 0, bq_ B260 1, bq_ B260 2, bq_ B260 3⟩ (fun hL => ?_)
 clear hK K
 refine norm_ (a' := ?_) ?_ ?_
 rotate_left
 ·show Act.put _ (some 38) _ = _
  simp only [Act.put, sa_, sb_, sc_, i64_w, i32_w]
  rfl
 refine pure_ (i := 19) (N := some 9) (v := ?_) (a' := ?_) z44_20_ rfl rfl (an_ T_) (fun _ _ _ h => h) (Or.inl ⟨by rfl, ?_⟩) ?_ ?_
 rotate_left; · intro w'; go_simp; with_reducible rfl
 rotate_left; · simp only [Act.put, sa_, sb_, sc_, i64_w, i32_w]; rfl
 refine done_ (done_of T_.out (by kernel_rfl)) ?_
 obtain ⟨Ao48, co48, eo48⟩ := Kd.R_slice HO281.out
 subst eo48
 try go_wp2_with (first | ((with_reducible refine gate_callee (f := 54) rfl ?_); refine goesL_ (some 44) rfl rfl Tryd.func54 (by kernel_rfl) rfl #[.int .i64 a0, .slice Ao21 y264.length co21, .slice Ao48 y279.length co48] rfl (by (try simp only [List.map_toArray, List.map_cons, List.map_nil]); first | done | rfl) ?_; (with_reducible refine (field_Dot.calls k a0 _ _ y264 _ _ y279 t282 _ ?side1 ?side2 ?side3 ?side4 ?side5 A41.out).mono ?_); (case side1 => repeat (first | exact (Kd.R_reads' HO266.out).2.2 | (with_reducible refine Kd.C_alloc ?_ _) | (with_reducible refine Kd.C_drewN ?_ _) | (with_reducible refine Kd.C_drew ?_))); (case side2 => exact (Kd.R_reads' HO266.out).2.1); (case side3 => repeat (first | exact (Kd.R_reads' HO281.out).2.2 | (with_reducible refine Kd.C_alloc ?_ _) | (with_reducible refine Kd.C_drewN ?_ _) | (with_reducible refine Kd.C_drew ?_))); (case side4 => exact (Kd.R_reads' HO281.out).2.1); (case side5 => repeat (first | exact (GL.below HRG.out HB.out) | (with_reducible refine GL.alloc ?_ _) | (with_reducible refine GL.drewN ?_ _) | (with_reducible refine GL.drew ?_))); rintro e w49 ⟨rfl, hb⟩; refine ⟨_, rfl, ?_⟩; have n0_ := Aside0.mk (Kd.R_below (by (with_reducible repeat (first | apply Kd.R_alloc | apply Kd.R_drewN | apply Kd.R_drew)); exact HO266.out) hb); have n1_ := Aside0.mk (Kd.R_below (by (with_reducible repeat (first | apply Kd.R_alloc | apply Kd.R_drewN | apply Kd.R_drew)); exact HO271.out) hb); have n2_ := Aside0.mk (Kd.R_below (by (with_reducible repeat (first | apply Kd.R_alloc | apply Kd.R_drewN | apply Kd.R_drew)); exact HO276.out) hb); have n3_ := Aside0.mk (Kd.R_below (by (with_reducible repeat (first | apply Kd.R_alloc | apply Kd.R_drewN | apply Kd.R_drew)); exact HO281.out) hb); have n4_ := Aside0.mk (blk_below (g := g260) (o := .cells #[.int .u64 a1_0, .int .u64 a1_1, .int .u64 a1_2, .int .u64 a1_3] 23 (0, 0)) (by (with_reducible repeat first | refine blk_drewN ?_ _ | refine blk_drew ?_ | refine blk_alloc ?_ _); exact B260.out) hb); have n5_ := Aside0.mk (blk_below (g := g261) (o := .cells #[.int .u64 0, .int .u64 0, .int .u64 0, .int .u64 0] 23 (0, 0)) (by (with_reducible repeat first | refine blk_drewN ?_ _ | refine blk_drew ?_ | refine blk_alloc ?_ _); exact B261.out) hb); have n6_ := Aside0.mk (blk_below (g := g268) (o := .cells #[.int .u64 t273, .int .u64 t278, .int .u64 0, .int .u64 0] 23 (0, 0)) (by (with_reducible repeat first | refine blk_drewN ?_ _ | refine blk_drew ?_ | refine blk_alloc ?_ _); exact B268.out) hb); have n7_ := Aside0.mk (below_step (by repeat (first | (with_reducible first | exact HB.out | apply below_alloc | apply pw_below_drewN | apply below_drew1 | refine below_set ?_ GE260.out | refine below_set ?_ GE261.out | refine below_set ?_ GE268.out) | exact HB.out)) hb); clear HO266; clear HO271; clear HO276; clear HO281; clear B260; clear B261; clear B268; clear HB; have HO266 := n0_; have HO271 := n1_; have HO276 := n2_; have HO281 := n3_; have B260 := n4_; have B261 := n5_; have B268 := n6_; have HB := n7_; clear n0_ n1_ n2_ n3_ n4_ n5_ n6_ n7_; (try clear hb); (try clear hb2); (try clear hk); (try clear hi)) | ((with_reducible refine gate_callee (f := 48) rfl ?_); refine goesL_ (some 46) rfl rfl Tryd.func48 (by kernel_rfl) rfl #[.int .i64 a0, .int .u64 t282, .int .u64 t267] rfl (by (try simp only [List.map_toArray, List.map_cons, List.map_nil]); first | done | rfl) ?_; (with_reducible refine (field_Mul.calls a0 t282 t267 t283 _ ?side1 A42.out).mono ?_); (case side1 => repeat (first | exact (GL.below HRG.out HB.out) | (with_reducible refine GL.alloc ?_ _) | (with_reducible refine GL.drewN ?_ _) | (with_reducible refine GL.drew ?_))); rintro e w50 ⟨rfl, hb⟩; refine ⟨_, rfl, ?_⟩; have n0_ := Aside0.mk (Kd.R_below (by (with_reducible repeat (first | apply Kd.R_alloc | apply Kd.R_drewN | apply Kd.R_drew)); exact HO266.out) hb); have n1_ := Aside0.mk (Kd.R_below (by (with_reducible repeat (first | apply Kd.R_alloc | apply Kd.R_drewN | apply Kd.R_drew)); exact HO271.out) hb); have n2_ := Aside0.mk (Kd.R_below (by (with_reducible repeat (first | apply Kd.R_alloc | apply Kd.R_drewN | apply Kd.R_drew)); exact HO276.out) hb); have n3_ := Aside0.mk (Kd.R_below (by (with_reducible repeat (first | apply Kd.R_alloc | apply Kd.R_drewN | apply Kd.R_drew)); exact HO281.out) hb); have n4_ := Aside0.mk (blk_below (g := g260) (o := .cells #[.int .u64 a1_0, .int .u64 a1_1, .int .u64 a1_2, .int .u64 a1_3] 23 (0, 0)) (by (with_reducible repeat first | refine blk_drewN ?_ _ | refine blk_drew ?_ | refine blk_alloc ?_ _); exact B260.out) hb); have n5_ := Aside0.mk (blk_below (g := g261) (o := .cells #[.int .u64 0, .int .u64 0, .int .u64 0, .int .u64 0] 23 (0, 0)) (by (with_reducible repeat first | refine blk_drewN ?_ _ | refine blk_drew ?_ | refine blk_alloc ?_ _); exact B261.out) hb); have n6_ := Aside0.mk (blk_below (g := g268) (o := .cells #[.int .u64 t273, .int .u64 t278, .int .u64 0, .int .u64 0] 23 (0, 0)) (by (with_reducible repeat first | refine blk_drewN ?_ _ | refine blk_drew ?_ | refine blk_alloc ?_ _); exact B268.out) hb); have n7_ := Aside0.mk (below_step (by repeat (first | (with_reducible first | exact HB.out | apply below_alloc | apply pw_below_drewN | apply below_drew1 | refine below_set ?_ GE260.out | refine below_set ?_ GE261.out | refine below_set ?_ GE268.out) | exact HB.out)) hb); clear HO266; clear HO271; clear HO276; clear HO281; clear B260; clear B261; clear B268; clear HB; have HO266 := n0_; have HO271 := n1_; have HO276 := n2_; have HO281 := n3_; have B260 := n4_; have B261 := n5_; have B268 := n6_; have HB := n7_; clear n0_ n1_ n2_ n3_ n4_ n5_ n6_ n7_; (try clear hb); (try clear hb2); (try clear hk); (try clear hi); have hnb51 := NB268_260.out; have hnc51 := NB260_268.out; have hnb52 := NB268_261.out; have hnc52 := NB261_268.out; have hcz53_0 : w50.cell? ⟨g268, 0, none⟩ = some (.int .u64 t273) := bq_ B268 0; have hcz53_1 : w50.cell? ⟨g268, 1, none⟩ = some (.int .u64 t278) := bq_ B268 1; have hcz53_2 : w50.cell? ⟨g268, 2, none⟩ = some (.int .u64 0) := bq_ B268 2; have hcz53_3 : w50.cell? ⟨g268, 3, none⟩ = some (.int .u64 0) := bq_ B268 3; have hfz53_0 := blk_frozen B268.out 0; have hfz53_1 := blk_frozen B268.out 1; have hfz53_2 := blk_frozen B268.out 2; have hfz53_3 := blk_frozen B268.out 3))
 rw [rounds_succ]
 have H := HC43.out
 clear HC43
 obtain ⟨y284, hy284⟩ : ∃ y_ : List Int, y_ = (([a1_3, a1_0, a1_1, a1_2] : List Int)) := ⟨_, rfl⟩
 replace H : ((field_Dot.f k a0 y264 y284).bind fun t287 => ((field_Mul.f a0 t287 t267).bind fun t288 => (some (t273, t278, t283, t288)))) = some (r1, r2, r3, r4) := by first | (rw [hy284]; with_reducible exact H) | (have H2_ := (Option.bind_some _ _).symm.trans H; rw [hy284]; with_reducible exact H2_) | (have H2_ := (Option.bind_some _ _).symm.trans H; with_reducible exact H2_) | with_reducible exact H | (rw [hy284]; exact H) | exact H
 have Ny284 := Aside0.mk hy284
 clear hy284
 replace H := Option.bind_eq_some_iff.mp H
 obtain ⟨t287, A540, H⟩ := H
 replace H : ((field_Mul.f a0 t287 t267).bind fun t288 => (some (t273, t278, t283, t288))) = some (r1, r2, r3, r4) := H
 have A54 := Aside0.mk A540
 clear A540
 replace H := Option.bind_eq_some_iff.mp H
 obtain ⟨t288, A550, H⟩ := H
 replace H : (some (t273, t278, t283, t288)) = some (r1, r2, r3, r4) := H
 have A55 := Aside0.mk A550
 clear A550
 have HC56 := Aside0.mk H
 clear H
 try go_wp2
 have n0_ : Aside0 (Kd.R (Kd.int .u64) 22 (w50.setCell ⟨g268, 2, none⟩ (.int .u64 t283)) w.heap.size (fun k_ => some k_ ≠ (.slice Ao22 y269.length co22 : Value).ownBlock ∧ some k_ ≠ (.slice Ao35 y274.length co35 : Value).ownBlock ∧ some k_ ≠ (.slice Ao48 y279.length co48 : Value).ownBlock) (.slice Ao21 y264.length co21) y264) := ⟨by (with_reducible repeat (first | apply Kd.R_alloc | apply Kd.R_drewN | apply Kd.R_drew)); exact Kd.R_mono (Kd.R_far (p := ⟨g268, 2, none⟩) (Kd.R_types HO266.out B268.out (by decide)) (fun _ hk => hk.2) (.int .u64 t283)) (fun _ hk => ⟨hk.1.1.1, ⟨hk.1.1.2, hk.1.2⟩⟩)⟩
 have n1_ : Aside0 (Kd.R (Kd.int .u64) 22 (w50.setCell ⟨g268, 2, none⟩ (.int .u64 t283)) w.heap.size (fun k_ => some k_ ≠ (.slice Ao21 y264.length co21 : Value).ownBlock ∧ some k_ ≠ (.slice Ao35 y274.length co35 : Value).ownBlock ∧ some k_ ≠ (.slice Ao48 y279.length co48 : Value).ownBlock) (.slice Ao22 y269.length co22) y269) := ⟨by (with_reducible repeat (first | apply Kd.R_alloc | apply Kd.R_drewN | apply Kd.R_drew)); exact Kd.R_mono (Kd.R_far (p := ⟨g268, 2, none⟩) (Kd.R_types HO271.out B268.out (by decide)) (fun _ hk => hk.2) (.int .u64 t283)) (fun _ hk => ⟨hk.1.1.1, ⟨hk.1.1.2, hk.1.2⟩⟩)⟩
 have n2_ : Aside0 (Kd.R (Kd.int .u64) 22 (w50.setCell ⟨g268, 2, none⟩ (.int .u64 t283)) w.heap.size (fun k_ => some k_ ≠ (.slice Ao21 y264.length co21 : Value).ownBlock ∧ some k_ ≠ (.slice Ao22 y269.length co22 : Value).ownBlock ∧ some k_ ≠ (.slice Ao48 y279.length co48 : Value).ownBlock) (.slice Ao35 y274.length co35) y274) := ⟨by (with_reducible repeat (first | apply Kd.R_alloc | apply Kd.R_drewN | apply Kd.R_drew)); exact Kd.R_mono (Kd.R_far (p := ⟨g268, 2, none⟩) (Kd.R_types HO276.out B268.out (by decide)) (fun _ hk => hk.2) (.int .u64 t283)) (fun _ hk => ⟨hk.1.1.1, ⟨hk.1.1.2, hk.1.2⟩⟩)⟩
 have n3_ : Aside0 (Kd.R (Kd.int .u64) 22 (w50.setCell ⟨g268, 2, none⟩ (.int .u64 t283)) w.heap.size (fun k_ => some k_ ≠ (.slice Ao21 y264.length co21 : Value).ownBlock ∧ some k_ ≠ (.slice Ao22 y269.length co22 : Value).ownBlock ∧ some k_ ≠ (.slice Ao35 y274.length co35 : Value).ownBlock) (.slice Ao48 y279.length co48) y279) := ⟨by (with_reducible repeat (first | apply Kd.R_alloc | apply Kd.R_drewN | apply Kd.R_drew)); exact Kd.R_mono (Kd.R_far (p := ⟨g268, 2, none⟩) (Kd.R_types HO281.out B268.out (by decide)) (fun _ hk => hk.2) (.int .u64 t283)) (fun _ hk => ⟨hk.1.1.1.2, ⟨hk.1.1.2, hk.1.2⟩⟩)⟩
 have n4_ : Aside0 ((w50.setCell ⟨g268, 2, none⟩ (.int .u64 t283)).heap[g260]? = some (.cells #[.int .u64 a1_0, .int .u64 a1_1, .int .u64 a1_2, .int .u64 a1_3] 23 (0, 0))) := ⟨by (with_reducible repeat first | refine blk_drewN ?_ _ | refine blk_drew ?_ | refine blk_alloc ?_ _); refine blk_far ?_ NB260_268.out _; (with_reducible repeat first | refine blk_drewN ?_ _ | refine blk_drew ?_ | refine blk_alloc ?_ _); exact B260.out⟩
 have n5_ : Aside0 ((w50.setCell ⟨g268, 2, none⟩ (.int .u64 t283)).heap[g261]? = some (.cells #[.int .u64 0, .int .u64 0, .int .u64 0, .int .u64 0] 23 (0, 0))) := ⟨by (with_reducible repeat first | refine blk_drewN ?_ _ | refine blk_drew ?_ | refine blk_alloc ?_ _); refine blk_far ?_ NB261_268.out _; (with_reducible repeat first | refine blk_drewN ?_ _ | refine blk_drew ?_ | refine blk_alloc ?_ _); exact B261.out⟩
 have n6_ : Aside0 ((w50.setCell ⟨g268, 2, none⟩ (.int .u64 t283)).heap[g268]? = some (.cells #[.int .u64 t273, .int .u64 t278, .int .u64 t283, .int .u64 0] 23 (0, 0))) := ⟨by (with_reducible repeat first | refine blk_drewN ?_ _ | refine blk_drew ?_ | refine blk_alloc ?_ _); refine blk_put (cs := #[.int .u64 t273, .int .u64 t278, .int .u64 0, .int .u64 0]) ?_ 2 _ rfl; (with_reducible repeat first | refine blk_drewN ?_ _ | refine blk_drew ?_ | refine blk_alloc ?_ _); exact B268.out⟩
 have n7_ : Aside0 (Below w.heap.size w (w50.setCell ⟨g268, 2, none⟩ (.int .u64 t283))) := ⟨by repeat (first | (with_reducible first | exact HB.out | apply below_alloc | apply pw_below_drewN | apply below_drew1 | refine below_set ?_ GE260.out | refine below_set ?_ GE261.out | refine below_set ?_ GE268.out) | exact HB.out)⟩
 (try clear HO266)
 (try clear HO271)
 (try clear HO276)
 (try clear HO281)
 (try clear B260)
 (try clear B261)
 (try clear B268)
 (try clear HB)
 generalize (w50.setCell ⟨g268, 2, none⟩ (.int .u64 t283)) = w57 at n0_ n1_ n2_ n3_ n4_ n5_ n6_ n7_ ⊢
 have HO266 := n0_
 have HO271 := n1_
 have HO276 := n2_
 have HO281 := n3_
 have B260 := n4_
 have B261 := n5_
 have B268 := n6_
 have HB := n7_
 clear n0_ n1_ n2_ n3_ n4_ n5_ n6_ n7_
 have n0_ := Aside0.mk (Kd.R_drew HO266.out)
 have n1_ := Aside0.mk (Kd.R_drew HO271.out)
 have n2_ := Aside0.mk (Kd.R_drew HO276.out)
 have n3_ := Aside0.mk (Kd.R_drew HO281.out)
 have n4_ := Aside0.mk (blk_drew B260.out)
 have n5_ := Aside0.mk (blk_drew B261.out)
 have n6_ := Aside0.mk (blk_drew B268.out)
 have n7_ := Aside0.mk (below_drew1 HB.out)
 clear HO266
 clear HO271
 clear HO276
 clear HO281
 clear B260
 clear B261
 clear B268
 clear HB
 have HO266 := n0_
 have HO271 := n1_
 have HO276 := n2_
 have HO281 := n3_
 have B260 := n4_
 have B261 := n5_
 have B268 := n6_
 have HB := n7_
 clear n0_ n1_ n2_ n3_ n4_ n5_ n6_ n7_
 refine start_ (n := 20) (S := fun w' => w'.cell? ⟨g260, 0, none⟩ = some (.int .u64 a1_0) ∧ w'.cell? ⟨g260, 1, none⟩ = some (.int .u64 a1_1) ∧ w'.cell? ⟨g260, 2, none⟩ = some (.int .u64 a1_2) ∧ w'.cell? ⟨g260, 3, none⟩ = some (.int .u64 a1_3)) (ds := []) z44_0_ (by kernel_rfl) rfl rfl ⟨bq_ B260 0, bq_ B260 1, bq_ B260 2, bq_ B260 3⟩ (fun hL => ?_); refine with_tabW sponge_gather.tab7 sponge_gather.bits7 (fun T_ W_ => ?_)
 generalize w57.drew = w58 at HO266 HO271 HO276 HO281 B260 B261 B268 HB hL ⊢
 refine pure_ (i := 0) (N := some 20) (v := ?_) (a' := ?_) z44_1_ rfl rfl (an_ T_) (fun _ _ _ h => h) (Or.inl ⟨by rfl, ?_⟩) ?_ ?_
 rotate_left; · intro w'; go_simp; with_reducible rfl
 rotate_left; · simp only [Act.put, sa_, sb_, sc_, i64_w, i32_w]; rfl
 refine pure_ (i := 1) (N := some 21) (v := ?_) (a' := ?_) z44_2_ rfl rfl (an_ T_) (fun _ _ _ h => h) (Or.inl ⟨by rfl, ?_⟩) ?_ ?_
 rotate_left; · intro w'; go_simp; with_reducible rfl
 rotate_left; · simp only [Act.put, sa_, sb_, sc_, i64_w, i32_w]; rfl
 refine pure_ (i := 3) (N := some 23) (v := ?_) (a' := ?_) z44_3_ rfl rfl (an_ T_) (fun _ _ _ h => h) (Or.inl ⟨by rfl, ?_⟩) ?_ ?_
 rotate_left; · intro w'; go_simp; with_reducible rfl
 rotate_left; · simp only [Act.put, sa_, sb_, sc_, i64_w, i32_w]; rfl
 refine pure_ (i := 4) (N := some 24) (v := ?_) (a' := ?_) z44_4_ rfl rfl (an_ T_) (fun _ _ _ h => h) (Or.inl ⟨by rfl, ?_⟩) ?_ ?_
 rotate_left; · intro w'; go_simp; with_reducible rfl
 rotate_left; · simp only [Act.put, sa_, sb_, sc_, i64_w, i32_w]; rfl
 refine pure_ (i := 5) (N := some 25) (v := ?_) (a' := ?_) z44_5_ rfl rfl (an_ T_) (fun _ _ _ h => h) (Or.inl ⟨by rfl, ?_⟩) ?_ ?_
 rotate_left; · intro w'; go_simp; with_reducible rfl
 rotate_left; · simp only [Act.put, sa_, sb_, sc_, i64_w, i32_w]; rfl
 refine pure_ (i := 6) (N := some 26) (v := ?_) (a' := ?_) z44_6_ rfl rfl (an_ T_) (fun _ _ _ h => h) (Or.inl ⟨by rfl, ?_⟩) ?_ ?_
 rotate_left; · intro w'; go_simp; with_reducible rfl
 rotate_left; · simp only [Act.put, sa_, sb_, sc_, i64_w, i32_w]; rfl
 refine pure_ (i := 8) (N := some 28) (v := ?_) (a' := ?_) z44_7_ rfl rfl (an_ T_) (fun _ _ _ h => h) (Or.inl ⟨by rfl, ?_⟩) ?_ ?_
 rotate_left; · intro w'; go_simp; with_reducible rfl
 rotate_left; · simp only [Act.put, sa_, sb_, sc_, i64_w, i32_w]; rfl
 refine pure_ (i := 9) (N := some 29) (v := ?_) (a' := ?_) z44_8_ rfl rfl (an_ T_) (fun _ _ _ h => h) (Or.inl ⟨by rfl, ?_⟩) ?_ ?_
 rotate_left; · intro w'; go_simp; with_reducible rfl
 rotate_left; · simp only [Act.put, sa_, sb_, sc_, i64_w, i32_w]; rfl
 refine pure_ (i := 10) (N := some 30) (v := ?_) (a' := ?_) z44_9_ rfl rfl (an_ T_) (fun _ _ _ h => h) (Or.inl ⟨by rfl, ?_⟩) ?_ ?_
 rotate_left; · intro w'; go_simp; with_reducible rfl
 rotate_left; · simp only [Act.put, sa_, sb_, sc_, i64_w, i32_w]; rfl
 refine pure_ (i := 11) (N := some 31) (v := ?_) (a' := ?_) z44_10_ rfl rfl (an_ T_) (fun _ _ _ h => h) (Or.inl ⟨by rfl, ?_⟩) ?_ ?_
 rotate_left; · intro w'; go_simp; with_reducible rfl
 rotate_left; · simp only [Act.put, sa_, sb_, sc_, i64_w, i32_w]; rfl
 refine pure_ (i := 13) (N := some 33) (v := ?_) (a' := ?_) z44_11_ rfl rfl (an_ T_) (fun _ _ _ h => h) (Or.inl ⟨by rfl, ?_⟩) ?_ ?_
 rotate_left; · intro w'; go_simp; with_reducible rfl
 rotate_left; · simp only [Act.put, sa_, sb_, sc_, i64_w, i32_w]; rfl
 refine pure_ (i := 14) (N := some 34) (v := ?_) (a' := ?_) z44_12_ rfl rfl (an_ T_) (fun _ _ _ h => h) (Or.inl ⟨by rfl, ?_⟩) ?_ ?_
 rotate_left; · intro w'; go_simp; with_reducible rfl
 rotate_left; · simp only [Act.put, sa_, sb_, sc_, i64_w, i32_w]; rfl
 refine pure_ (i := 15) (N := some 35) (v := ?_) (a' := ?_) z44_13_ rfl rfl (an_ T_) (fun _ _ _ h => h) (Or.inl ⟨by rfl, ?_⟩) ?_ ?_
 rotate_left; · intro w'; go_simp; with_reducible rfl
 rotate_left; · simp only [Act.put, sa_, sb_, sc_, i64_w, i32_w]; rfl
 refine pure_ (i := 16) (N := some 36) (v := ?_) (a' := ?_) z44_14_ rfl rfl (an_ T_) (fun _ _ _ h => h) (Or.inl ⟨by rfl, ?_⟩) ?_ ?_
 rotate_left; · intro w'; go_simp; with_reducible rfl
 rotate_left; · simp only [Act.put, sa_, sb_, sc_, i64_w, i32_w]; rfl
 refine take_ (i := 2) (N := some 22) (v := ?_) (a' := ?_) z44_15_ rfl rfl (tk_ T_ W_) (fun _ _ _ h => h) (Or.inl ⟨by rfl, ?_⟩) hL ?_ ?_
 rotate_left
 ·rintro w' ⟨s0, s1, s2, s3⟩
  go_simp
  with_reducible rfl
 rotate_left
 ·simp only [Act.put, sa_, sb_, sc_, i64_w, i32_w]
  rfl
 refine take_ (i := 7) (N := some 27) (v := ?_) (a' := ?_) z44_16_ rfl rfl (tk_ T_ W_) (fun _ _ _ h => h) (Or.inl ⟨by rfl, ?_⟩) hL ?_ ?_
 rotate_left
 ·rintro w' ⟨s0, s1, s2, s3⟩
  go_simp
  with_reducible rfl
 rotate_left
 ·simp only [Act.put, sa_, sb_, sc_, i64_w, i32_w]
  rfl
 refine take_ (i := 12) (N := some 32) (v := ?_) (a' := ?_) z44_17_ rfl rfl (tk_ T_ W_) (fun _ _ _ h => h) (Or.inl ⟨by rfl, ?_⟩) hL ?_ ?_
 rotate_left
 ·rintro w' ⟨s0, s1, s2, s3⟩
  go_simp
  with_reducible rfl
 rotate_left
 ·simp only [Act.put, sa_, sb_, sc_, i64_w, i32_w]
  rfl
 refine take_ (i := 17) (N := some 37) (v := ?_) (a' := ?_) z44_18_ rfl rfl (tk_ T_ W_) (fun _ _ _ h => h) (Or.inl ⟨by rfl, ?_⟩) hL ?_ ?_
 rotate_left
 ·rintro w' ⟨s0, s1, s2, s3⟩
  go_simp
  with_reducible rfl
 rotate_left
 ·simp only [Act.put, sa_, sb_, sc_, i64_w, i32_w]
  rfl
 refine one_ (i := 18) (N := some 38) z44_19_ rfl rfl (on_ T_) (by decide) (fun K hK => ?_)
 refine Kd.R_lit_step (Kd.int .u64) _ 22 ?hg (N := 38) ?hd (xs := ([a1_3, a1_0, a1_1, a1_2] : List Int)) (inner := [.int .u64 a1_3, .int .u64 a1_0, .int .u64 a1_1, .int .u64 a1_2]) (ok := fun _ => True) (okp := fun _ => True) ?hr ?hp (fun _ hk => hk) trivial (Below.refl _ _) (Nat.le_refl _) (by simp) ?_; (case hd => rfl); (case hg => rfl); (case hr => first | (go_simp; done) | (go_simp; rfl)); (case hp => exact (Reps.one (show Kd.M (Kd.int .u64) _ _ _ a1_3 [.int .u64 a1_3] from rfl) (Reps.one (show Kd.M (Kd.int .u64) _ _ _ a1_0 [.int .u64 a1_0] from rfl) (Reps.one (show Kd.M (Kd.int .u64) _ _ _ a1_1 [.int .u64 a1_1] from rfl) (Reps.one (show Kd.M (Kd.int .u64) _ _ _ a1_2 [.int .u64 a1_2] from rfl) (Reps.none _ _))))))
 intro v285 w59 ho60 hb hg_ hnew_
 clear hg_ hnew_
 (first | rw [← Ny284.out] at ho60 | (simp only [Int.reduceToNat] at ho60; rw [← Ny284.out] at ho60))
 have n0_ := Aside0.mk (Kd.R_elder' (by (with_reducible repeat (first | apply Kd.R_alloc | apply Kd.R_drewN | apply Kd.R_drew)); exact HO266.out) (Kd.R_base ho60) hb)
 have n1_ := Aside0.mk (Kd.R_elder' (by (with_reducible repeat (first | apply Kd.R_alloc | apply Kd.R_drewN | apply Kd.R_drew)); exact HO271.out) (Kd.R_base ho60) hb)
 have n2_ := Aside0.mk (Kd.R_elder' (by (with_reducible repeat (first | apply Kd.R_alloc | apply Kd.R_drewN | apply Kd.R_drew)); exact HO276.out) (Kd.R_base ho60) hb)
 have n3_ := Aside0.mk (Kd.R_elder' (by (with_reducible repeat (first | apply Kd.R_alloc | apply Kd.R_drewN | apply Kd.R_drew)); exact HO281.out) (Kd.R_base ho60) hb)
 have n4_ := Aside0.mk (Kd.R_lower (Kd.R_new' (Kd.R_new' (Kd.R_new' (Kd.R_new' ho60 (Kd.R_lt (by (with_reducible repeat (first | apply Kd.R_alloc | apply Kd.R_drewN | apply Kd.R_drew)); exact HO266.out))) (Kd.R_lt (by (with_reducible repeat (first | apply Kd.R_alloc | apply Kd.R_drewN | apply Kd.R_drew)); exact HO271.out))) (Kd.R_lt (by (with_reducible repeat (first | apply Kd.R_alloc | apply Kd.R_drewN | apply Kd.R_drew)); exact HO276.out))) (Kd.R_lt (by (with_reducible repeat (first | apply Kd.R_alloc | apply Kd.R_drewN | apply Kd.R_drew)); exact HO281.out))) (below_size (by repeat (first | (with_reducible first | exact HB.out | apply below_alloc | apply pw_below_drewN | apply below_drew1 | refine below_set ?_ GE260.out | refine below_set ?_ GE261.out | refine below_set ?_ GE268.out) | exact HB.out))))
 have n5_ := Aside0.mk (blk_below (g := g260) (o := .cells #[.int .u64 a1_0, .int .u64 a1_1, .int .u64 a1_2, .int .u64 a1_3] 23 (0, 0)) (by (with_reducible repeat first | refine blk_drewN ?_ _ | refine blk_drew ?_ | refine blk_alloc ?_ _); exact B260.out) hb)
 have n6_ := Aside0.mk (blk_below (g := g261) (o := .cells #[.int .u64 0, .int .u64 0, .int .u64 0, .int .u64 0] 23 (0, 0)) (by (with_reducible repeat first | refine blk_drewN ?_ _ | refine blk_drew ?_ | refine blk_alloc ?_ _); exact B261.out) hb)
 have n7_ := Aside0.mk (blk_below (g := g268) (o := .cells #[.int .u64 t273, .int .u64 t278, .int .u64 t283, .int .u64 0] 23 (0, 0)) (by (with_reducible repeat first | refine blk_drewN ?_ _ | refine blk_drew ?_ | refine blk_alloc ?_ _); exact B268.out) hb)
 have n8_ := Aside0.mk (below_step (by repeat (first | (with_reducible first | exact HB.out | apply below_alloc | apply pw_below_drewN | apply below_drew1 | refine below_set ?_ GE260.out | refine below_set ?_ GE261.out | refine below_set ?_ GE268.out) | exact HB.out)) hb)
 clear HO266
 clear HO271
 clear HO276
 clear HO281
 clear B260
 clear B261
 clear B268
 clear HB
 have HO266 := n0_
 have HO271 := n1_
 have HO276 := n2_
 have HO281 := n3_
 have HO286 := n4_
 have B260 := n5_
 have B261 := n6_
 have B268 := n7_
 have HB := n8_
 clear n0_ n1_ n2_ n3_ n4_ n5_ n6_ n7_ n8_
 clear hb ho60
 refine hK.out _ _ ⟨bq_ B260 0, bq_ B260 1, bq_ B260 2, bq_ B260 3⟩ (fun hL => ?_)
 clear hK K
 refine norm_ (a' := ?_) ?_ ?_
 rotate_left
 ·show Act.put _ (some 38) _ = _
  simp only [Act.put, sa_, sb_, sc_, i64_w, i32_w]
  rfl
 refine pure_ (i := 19) (N := some 9) (v := ?_) (a' := ?_) z44_20_ rfl rfl (an_ T_) (fun _ _ _ h => h) (Or.inl ⟨by rfl, ?_⟩) ?_ ?_
 rotate_left; · intro w'; go_simp; with_reducible rfl
 rotate_left; · simp only [Act.put, sa_, sb_, sc_, i64_w, i32_w]; rfl
 refine done_ (done_of T_.out (by kernel_rfl)) ?_
 obtain ⟨Ao61, co61, eo61⟩ := Kd.R_slice HO286.out
 subst eo61
 try go_wp2_with (first | ((with_reducible refine gate_callee (f := 54) rfl ?_); refine goesL_ (some 44) rfl rfl Tryd.func54 (by kernel_rfl) rfl #[.int .i64 a0, .slice Ao21 y264.length co21, .slice Ao61 y284.length co61] rfl (by (try simp only [List.map_toArray, List.map_cons, List.map_nil]); first | done | rfl) ?_; (with_reducible refine (field_Dot.calls k a0 _ _ y264 _ _ y284 t287 _ ?side1 ?side2 ?side3 ?side4 ?side5 A54.out).mono ?_); (case side1 => repeat (first | exact (Kd.R_reads' HO266.out).2.2 | (with_reducible refine Kd.C_alloc ?_ _) | (with_reducible refine Kd.C_drewN ?_ _) | (with_reducible refine Kd.C_drew ?_))); (case side2 => exact (Kd.R_reads' HO266.out).2.1); (case side3 => repeat (first | exact (Kd.R_reads' HO286.out).2.2 | (with_reducible refine Kd.C_alloc ?_ _) | (with_reducible refine Kd.C_drewN ?_ _) | (with_reducible refine Kd.C_drew ?_))); (case side4 => exact (Kd.R_reads' HO286.out).2.1); (case side5 => repeat (first | exact (GL.below HRG.out HB.out) | (with_reducible refine GL.alloc ?_ _) | (with_reducible refine GL.drewN ?_ _) | (with_reducible refine GL.drew ?_))); rintro e w62 ⟨rfl, hb⟩; refine ⟨_, rfl, ?_⟩; have n0_ := Aside0.mk (Kd.R_below (by (with_reducible repeat (first | apply Kd.R_alloc | apply Kd.R_drewN | apply Kd.R_drew)); exact HO266.out) hb); have n1_ := Aside0.mk (Kd.R_below (by (with_reducible repeat (first | apply Kd.R_alloc | apply Kd.R_drewN | apply Kd.R_drew)); exact HO271.out) hb); have n2_ := Aside0.mk (Kd.R_below (by (with_reducible repeat (first | apply Kd.R_alloc | apply Kd.R_drewN | apply Kd.R_drew)); exact HO276.out) hb); have n3_ := Aside0.mk (Kd.R_below (by (with_reducible repeat (first | apply Kd.R_alloc | apply Kd.R_drewN | apply Kd.R_drew)); exact HO281.out) hb); have n4_ := Aside0.mk (Kd.R_below (by (with_reducible repeat (first | apply Kd.R_alloc | apply Kd.R_drewN | apply Kd.R_drew)); exact HO286.out) hb); have n5_ := Aside0.mk (blk_below (g := g260) (o := .cells #[.int .u64 a1_0, .int .u64 a1_1, .int .u64 a1_2, .int .u64 a1_3] 23 (0, 0)) (by (with_reducible repeat first | refine blk_drewN ?_ _ | refine blk_drew ?_ | refine blk_alloc ?_ _); exact B260.out) hb); have n6_ := Aside0.mk (blk_below (g := g261) (o := .cells #[.int .u64 0, .int .u64 0, .int .u64 0, .int .u64 0] 23 (0, 0)) (by (with_reducible repeat first | refine blk_drewN ?_ _ | refine blk_drew ?_ | refine blk_alloc ?_ _); exact B261.out) hb); have n7_ := Aside0.mk (blk_below (g := g268) (o := .cells #[.int .u64 t273, .int .u64 t278, .int .u64 t283, .int .u64 0] 23 (0, 0)) (by (with_reducible repeat first | refine blk_drewN ?_ _ | refine blk_drew ?_ | refine blk_alloc ?_ _); exact B268.out) hb); have n8_ := Aside0.mk (below_step (by repeat (first | (with_reducible first | exact HB.out | apply below_alloc | apply pw_below_drewN | apply below_drew1 | refine below_set ?_ GE260.out | refine below_set ?_ GE261.out | refine below_set ?_ GE268.out) | exact HB.out)) hb); clear HO266; clear HO271; clear HO276; clear HO281; clear HO286; clear B260; clear B261; clear B268; clear HB; have HO266 := n0_; have HO271 := n1_; have HO276 := n2_; have HO281 := n3_; have HO286 := n4_; have B260 := n5_; have B261 := n6_; have B268 := n7_; have HB := n8_; clear n0_ n1_ n2_ n3_ n4_ n5_ n6_ n7_ n8_; (try clear hb); (try clear hb2); (try clear hk); (try clear hi)) | ((with_reducible refine gate_callee (f := 48) rfl ?_); refine goesL_ (some 46) rfl rfl Tryd.func48 (by kernel_rfl) rfl #[.int .i64 a0, .int .u64 t287, .int .u64 t267] rfl (by (try simp only [List.map_toArray, List.map_cons, List.map_nil]); first | done | rfl) ?_; (with_reducible refine (field_Mul.calls a0 t287 t267 t288 _ ?side1 A55.out).mono ?_); (case side1 => repeat (first | exact (GL.below HRG.out HB.out) | (with_reducible refine GL.alloc ?_ _) | (with_reducible refine GL.drewN ?_ _) | (with_reducible refine GL.drew ?_))); rintro e w63 ⟨rfl, hb⟩; refine ⟨_, rfl, ?_⟩; have n0_ := Aside0.mk (Kd.R_below (by (with_reducible repeat (first | apply Kd.R_alloc | apply Kd.R_drewN | apply Kd.R_drew)); exact HO266.out) hb); have n1_ := Aside0.mk (Kd.R_below (by (with_reducible repeat (first | apply Kd.R_alloc | apply Kd.R_drewN | apply Kd.R_drew)); exact HO271.out) hb); have n2_ := Aside0.mk (Kd.R_below (by (with_reducible repeat (first | apply Kd.R_alloc | apply Kd.R_drewN | apply Kd.R_drew)); exact HO276.out) hb); have n3_ := Aside0.mk (Kd.R_below (by (with_reducible repeat (first | apply Kd.R_alloc | apply Kd.R_drewN | apply Kd.R_drew)); exact HO281.out) hb); have n4_ := Aside0.mk (Kd.R_below (by (with_reducible repeat (first | apply Kd.R_alloc | apply Kd.R_drewN | apply Kd.R_drew)); exact HO286.out) hb); have n5_ := Aside0.mk (blk_below (g := g260) (o := .cells #[.int .u64 a1_0, .int .u64 a1_1, .int .u64 a1_2, .int .u64 a1_3] 23 (0, 0)) (by (with_reducible repeat first | refine blk_drewN ?_ _ | refine blk_drew ?_ | refine blk_alloc ?_ _); exact B260.out) hb); have n6_ := Aside0.mk (blk_below (g := g261) (o := .cells #[.int .u64 0, .int .u64 0, .int .u64 0, .int .u64 0] 23 (0, 0)) (by (with_reducible repeat first | refine blk_drewN ?_ _ | refine blk_drew ?_ | refine blk_alloc ?_ _); exact B261.out) hb); have n7_ := Aside0.mk (blk_below (g := g268) (o := .cells #[.int .u64 t273, .int .u64 t278, .int .u64 t283, .int .u64 0] 23 (0, 0)) (by (with_reducible repeat first | refine blk_drewN ?_ _ | refine blk_drew ?_ | refine blk_alloc ?_ _); exact B268.out) hb); have n8_ := Aside0.mk (below_step (by repeat (first | (with_reducible first | exact HB.out | apply below_alloc | apply pw_below_drewN | apply below_drew1 | refine below_set ?_ GE260.out | refine below_set ?_ GE261.out | refine below_set ?_ GE268.out) | exact HB.out)) hb); clear HO266; clear HO271; clear HO276; clear HO281; clear HO286; clear B260; clear B261; clear B268; clear HB; have HO266 := n0_; have HO271 := n1_; have HO276 := n2_; have HO281 := n3_; have HO286 := n4_; have B260 := n5_; have B261 := n6_; have B268 := n7_; have HB := n8_; clear n0_ n1_ n2_ n3_ n4_ n5_ n6_ n7_ n8_; (try clear hb); (try clear hb2); (try clear hk); (try clear hi); have hnb64 := NB268_260.out; have hnc64 := NB260_268.out; have hnb65 := NB268_261.out; have hnc65 := NB261_268.out; have hcz66_0 : w63.cell? ⟨g268, 0, none⟩ = some (.int .u64 t273) := bq_ B268 0; have hcz66_1 : w63.cell? ⟨g268, 1, none⟩ = some (.int .u64 t278) := bq_ B268 1; have hcz66_2 : w63.cell? ⟨g268, 2, none⟩ = some (.int .u64 t283) := bq_ B268 2; have hcz66_3 : w63.cell? ⟨g268, 3, none⟩ = some (.int .u64 0) := bq_ B268 3; have hfz66_0 := blk_frozen B268.out 0; have hfz66_1 := blk_frozen B268.out 1; have hfz66_2 := blk_frozen B268.out 2; have hfz66_3 := blk_frozen B268.out 3))
 rw [rounds_succ]
 have H := HC56.out
 clear HC56
 simp only [Option.some.injEq, Prod.mk.injEq] at H
 obtain ⟨rfl, rfl, rfl, rfl⟩ := H
 have hnb67 := NB268_260.out
 have hnc67 := NB260_268.out
 have hnb68 := NB268_261.out
 have hnc68 := NB261_268.out
 have hcz69_0 : w63.cell? ⟨g268, 0, none⟩ = some (.int .u64 t273) := bq_ B268 0
 have hcz69_1 : w63.cell? ⟨g268, 1, none⟩ = some (.int .u64 t278) := bq_ B268 1
 have hcz69_2 : w63.cell? ⟨g268, 2, none⟩ = some (.int .u64 t283) := bq_ B268 2
 have hcz69_3 : w63.cell? ⟨g268, 3, none⟩ = some (.int .u64 0) := bq_ B268 3
 have hfz69_0 := blk_frozen B268.out 0
 have hfz69_1 := blk_frozen B268.out 1
 have hfz69_2 := blk_frozen B268.out 2
 have hfz69_3 := blk_frozen B268.out 3
 have hnb70 := NB261_260.out
 have hnc70 := NB260_261.out
 have hcz71_0 : w63.cell? ⟨g261, 0, none⟩ = some (.int .u64 0) := bq_ B261 0
 have hcz71_1 : w63.cell? ⟨g261, 1, none⟩ = some (.int .u64 0) := bq_ B261 1
 have hcz71_2 : w63.cell? ⟨g261, 2, none⟩ = some (.int .u64 0) := bq_ B261 2
 have hcz71_3 : w63.cell? ⟨g261, 3, none⟩ = some (.int .u64 0) := bq_ B261 3
 have hfz71_0 := blk_frozen B261.out 0
 have hfz71_1 := blk_frozen B261.out 1
 have hfz71_2 := blk_frozen B261.out 2
 have hfz71_3 := blk_frozen B261.out 3
 go_wp2
 refine bodyPost_ret (results_cell_row rfl _ _ g261 23 #[.int .u64 t273, .int .u64 t278, .int .u64 t283, .int .u64 t288] (0, 0) _ rfl (by (with_reducible repeat first | refine blk_drewN ?_ _ | refine blk_drew ?_ | refine blk_alloc ?_ _); refine blk_put (cs := #[.int .u64 t273, .int .u64 t278, .int .u64 t283, .int .u64 0]) ?_ 3 _ rfl; (with_reducible repeat first | refine blk_drewN ?_ _ | refine blk_drew ?_ | refine blk_alloc ?_ _); refine blk_put (cs := #[.int .u64 t273, .int .u64 t278, .int .u64 0, .int .u64 0]) ?_ 2 _ rfl; (with_reducible repeat first | refine blk_drewN ?_ _ | refine blk_drew ?_ | refine blk_alloc ?_ _); refine blk_put (cs := #[.int .u64 t273, .int .u64 0, .int .u64 0, .int .u64 0]) ?_ 1 _ rfl; (with_reducible repeat first | refine blk_drewN ?_ _ | refine blk_drew ?_ | refine blk_alloc ?_ _); refine blk_put (cs := #[.int .u64 0, .int .u64 0, .int .u64 0, .int .u64 0]) ?_ 0 _ rfl; (with_reducible repeat first | refine blk_drewN ?_ _ | refine blk_drew ?_ | refine blk_alloc ?_ _); refine blk_far ?_ NB261_268.out _; (with_reducible repeat first | refine blk_drewN ?_ _ | refine blk_drew ?_ | refine blk_alloc ?_ _); exact B261.out) Tryd.underlying23 rfl (by kernel_rfl)) rfl ?_
 exact ⟨by first | rfl | (simp [errW_none, errW_some] <;> rfl) | (simp [*, errW_none, errW_some] <;> rfl), by repeat (first | (with_reducible first | exact HB.out | apply below_alloc | apply pw_below_drewN | apply below_drew1 | refine below_set ?_ GE260.out | refine below_set ?_ GE261.out | refine below_set ?_ GE268.out) | exact HB.out)⟩

end Go.Proofs.YtjfekjblnoagkaaDoor.Q
end
